/- Contracts of the program's functions, each proved by walking its code. -/
import Derived.Test.YtdaphlemhmgncaaGreatKglaw24
import Derived.Test.YtdaphlemhmgncaaGreatNet2
set_option maxRecDepth 100000
set_option linter.unusedVariables false
set_option linter.unusedSimpArgs false
namespace Go.Wk.Flaw24c
open Go Go.RowKit Go.Proofs Go.Wk
theorem elt36 : Elt Tryz.prog 36 (.agg #[.int .i64 (0),.int .i64 (0),.int .i64 (0),.int .i64 (0),.int .i64 (0),.int .i64 (0),.int .i64 (0),.int .i64 (0),.bool (false),.int .i64 (0),.slice none 0 0,.int .i64 (0),.int .i64 (0),.slice none 0 0,.slice none 0 0,.slice none 0 0]) 16 192:=Elt.of (by kernel_rfl) (by rfl) (by decide) (by decide)
end Go.Wk.Flaw24c
namespace Go.Wk
open Go Go.RowKit Go.Proofs Flaw24c 
set_option maxHeartbeats 0 in
theorem NetBrings_spec (ls : List Msg) (a8 : Option Addr) (c8 : Nat) (ats : List Nat) (a9 : Option Addr) (c9 : Nat) (bit : Nat) (hbit : bit < 18446744073709551616) : Spec Tryz.prog 4 #[.slice a8 (ls.length) c8,.slice a9 (ats.length) c9,.int .u64 ((bit : Int))] [.dat kMsg.sl (ls) [.slice a8 (ls.length) c8],.dat kUint.sl (ats) [.slice a9 (ats.length) c9]] (β:=Unit) (fun y => .bool (true)) (fun y => True) (fun y => []):=by
 refine Spec.enter (vs:=[_,_,_]) Tryz.func4 rfl Tryz.ntmps4 rfl (Nat.le_of_ble_eq_true rfl) (fun w0 ok0 => ?_)
 generalize hM0 : blks _ = M0
 have hMn:=@noM _ _ hM0 (by simp [Atom.dat,Atom.elem])
 refine H_len_le (i:=0) rfl ?_
 intro hlen0
 refine H_len_le (i:=1) rfl ?_
 intro hlen1
 refine H_seq ?_
 refine H_region (l:=[_]) rfl ?_
 refine HO_assign rfl rfl rfl ?_
 refine HO_nil ?_
 refine H_env (ρ':=[(0,_),(1,_),(2,_)]) ⟨rfl,rfl,rfl,trivial⟩ ?_
 refine H_seq ?_
 refine H_region (l:=[_,_]) rfl ?_
 refine HO_call (first:=[]) (capt:=[]) (is:=[]) (R:=[_,_]) rfl rfl rfl rfl rfl Tryz.call6 rfl (new_ok _ ?_) ?_
 ·decide
 intro y20 hy20
 refine HO_assign rfl rfl rfl ?_
 refine HO_nil ?_
 refine H_env (ρ':=[(7,_),(0,_),(1,_),(2,_)]) ⟨rfl,rfl,rfl,rfl,trivial⟩ ?_
 refine H_seq ?_
 refine H_seq ?_
 refine H_region (l:=[_,_,_,_,_,_,_,_,_,_,_,_]) rfl ?_
 refine HO_move rfl rfl rfl ?_
 refine HO_bin (r:=.bool false) rfl rfl rfl rfl (bin_ptr_eq_pn Tryz.runUnderlying23) ?_
 iterate 2 refine HO_move rfl rfl rfl ?_
 refine HO_bi rfl rfl rfl (bi_len_sl Tryz.underlying57) ?_
 refine HO_bin rfl rfl rfl rfl bin_gtr ?_
 refine HO_pick_f rfl rfl rfl rfl ?_
 refine HO_move rfl rfl rfl ?_
 refine HO_split (d:=28) rfl ?_ ?_
 ·intro h28
  replace h28:=dT h28
  iterate 3 refine HO_no rfl rfl rfl ?_
  refine HO_pick_t rfl rfl rfl rfl ?_
  refine HO_nil ?_
  refine H_env (ρ':=[(32,_),(7,_),(0,_),(1,_),(2,_)]) ⟨rfl,rfl,rfl,rfl,rfl,trivial⟩ ?_
  refine H_cond rfl (fun _ => ?_) (fun h => nomatch h)
  refine H_seq ?_
  refine H_region (l:=[_,_,_,_,_,_]) rfl ?_
  refine HO_move rfl rfl rfl ?_
  refine HO_bin (r:=.bool true) rfl rfl rfl rfl (bin_ptr_ne_pn Tryz.runUnderlying23) ?_
  refine HO_move rfl rfl rfl ?_
  refine HO_call (first:=[]) (capt:=[]) (is:=[]) (R:=[_,_,_]) rfl rfl rfl rfl rfl Tryz.call8 rfl lives24_spec ?_
  intro y36 hy36
  clear y36 hy36
  refine HO_pick_t rfl rfl rfl rfl ?_
  refine HO_assign rfl rfl rfl ?_
  refine HO_nil ?_
  refine H_env (ρ':=[(6,_)]) ⟨rfl,trivial⟩ ?_
  refine H_world (kp [nn,nn,nn] [] rfl) ?_
  refine H_ret1 Tryz.results4 (.tmp rfl) (fun w hA => ⟨(),congrArg Ending.returned ?_,?_,?_⟩)
  ·(exact congrArg Value.bool (by first | rfl | assumption | simp_all))
  ·trivial
  ·exact hA.keep (m:=[]) (Y:=[]) rfl
 intro h28
 replace h28:=dF h28
 refine HO_move rfl rfl rfl ?_
 refine HO_bi rfl rfl rfl (bi_len_sl Tryz.underlying58) ?_
 refine HO_bin rfl rfl rfl rfl bin_gtr ?_
 refine HO_pick_f rfl rfl rfl rfl ?_
 refine HO_nil ?_
 refine H_env (ρ':=[(32,_),(7,_),(0,_),(1,_),(2,_)]) ⟨rfl,rfl,rfl,rfl,rfl,trivial⟩ ?_
 refine H_cond rfl ?_ ?_
 ·intro h32
  replace h32:=dT h32
  refine H_seq ?_
  refine H_region (l:=[_,_,_,_,_,_]) rfl ?_
  refine HO_move rfl rfl rfl ?_
  refine HO_bin (r:=.bool true) rfl rfl rfl rfl (bin_ptr_ne_pn Tryz.runUnderlying23) ?_
  refine HO_move rfl rfl rfl ?_
  refine HO_call (first:=[]) (capt:=[]) (is:=[]) (R:=[_,_,_]) rfl rfl rfl rfl rfl Tryz.call8 rfl lives24_spec ?_
  intro y36 hy36
  clear y36 hy36
  refine HO_pick_t rfl rfl rfl rfl ?_
  refine HO_assign rfl rfl rfl ?_
  refine HO_nil ?_
  refine H_env (ρ':=[(6,_)]) ⟨rfl,trivial⟩ ?_
  refine H_world (kp [nn,nn,nn] [] rfl) ?_
  refine H_ret1 Tryz.results4 (.tmp rfl) (fun w hA => ⟨(),congrArg Ending.returned ?_,?_,?_⟩)
  ·(exact congrArg Value.bool (by first | rfl | assumption | simp_all))
  ·trivial
  ·exact hA.keep (m:=[]) (Y:=[]) rfl
 intro h32
 replace h32:=dF h32
 refine H_skip ?_
 refine H_seq ?_
 refine H_region (l:=[_]) rfl ?_
 refine HO_assign rfl rfl rfl ?_
 refine HO_nil ?_
 refine H_env (ρ':=[(8,_),(7,_),(0,_),(1,_),(2,_)]) ⟨rfl,rfl,rfl,rfl,rfl,trivial⟩ ?_
 refine H_seq ?_
 refine H_seq ?_
 refine H_rows0 5 ?_
 refine H_own0 kHd 32 none ?_
 refine H_region (l:=[_,_,_]) rfl ?_
 refine HO_move rfl rfl rfl ?_
 refine HO_bi rfl rfl rfl (bi_len_sl Tryz.underlying57) ?_
 refine HO_move rfl rfl rfl ?_
 refine HO_nil ?_
 refine H_env (ρ':=[(40,_),(39,_),(38,_),(8,_),(7,_),(1,_),(2,_)]) ⟨rfl,rfl,rfl,rfl,rfl,rfl,rfl,trivial⟩ ?_
 refine H_block ?_
 refine H_own0 kMsg 36 none ?_
 refine H_loop (σ:=Nat × List Rw × List Msg × (Option Addr × Nat) × (Option Addr × Nat)) (fun s => s.1≤ls.length∧ls.length≤60∧s.2.2.1.length≤s.1∧Net.Sent s.2.1 s.2.2.1) (fun s => [(7,.pointer (some ⟨y20,0,none⟩)),(8,.slice s.2.2.2.2.1 (s.2.2.1.length) s.2.2.2.2.2),(2,.int .u64 ((bit : Int))),(1,.slice a9 (ats.length) c9),(38,.slice a8 (ls.length) c8),(39,.int .i64 ((ls.length : Int))),(40,.int .i64 ((s.1 : Int)))]) (fun s => Asn w0 ok0 M0 [.loc y20 [.slice s.2.2.2.1.1 ((s.2.1.map Rw.hd).length) s.2.2.2.1.2,.int .i64 (100)] 65,.own 32 kHd s.2.2.2.1.1 s.2.2.2.1.2 (s.2.1.map Rw.hd),.rows 5 (s.2.1),.own 36 kMsg s.2.2.2.2.1 s.2.2.2.2.2 (s.2.2.1),.dat kUint.sl (ats) [.slice a9 (ats.length) c9],.dat kMsg.sl (ls) [.slice a8 (ls.length) c8]]) (fun s => ls.length - s.1) ⟨0,[],[],(none,0),(none,0)⟩ ?_ ?_ ?_ ?_
 ·exact ⟨Nat.zero_le _,by omega,Nat.zero_le _,Net.Sent.nil⟩
 ·exact ⟨rfl,rfl,rfl,rfl,rfl,rfl,rfl,trivial⟩
 ·intro w hA
  exact hA.only (is:=[0,0,1,0,4,4]) (Z:=[]) rfl
 ·rintro ⟨i,G,ms,u,p⟩ hI
  (try dsimp only at hI ⊢)
  have hGm:=hI.2.2.2.len
  have hGh : (G.map Rw.hd).length = ms.length:=by rw [List.length_map];exact hGm
  refine H_seq ?_
  refine H_region (l:=[_]) rfl ?_
  refine HO_bin rfl rfl rfl rfl bin_lss ?_
  refine HO_nil ?_
  refine H_seq ?_
  refine H_cond rfl ?_ ?_
  ·intro h41
   replace h41:=dT h41
   refine H_skip ?_
   refine H_seq ?_
   refine H_block ?_
   refine H_seq ?_
   refine H_region (l:=[_,_,_,_]) rfl ?_
   refine HO_indexAddr open_Msg (i:=5) rfl rfl rfl rfl rfl Tryz.underlying57 Tryz.sizeOf36 rfl ?_ ?_
   ·omega
   intro b42 o42 z42 y42 hz42 hI42
   (try simp only [BIG] at hI42)
   refine HO_loadA (i:=0) (us:=[]) (cs:=[_,_,_,_,_,_,_,_,_,_,_,_,_,_,_,_]) (ts:=[]) rfl rfl rfl Tryz.isAgg36 Tryz.sizeOf36 rfl (.elem _ _ _) rfl rfl rfl rfl ?_
   refine HO_alloc (cs:=[_,_,_,_,_,_,_,_,_,_,_,_,_,_,_,_]) rfl rfl Tryz.zeroValue36 rfl ?_
   intro g10
   refine HO_store (i:=0) (j:=0) (us:=[]) (old:=[_,_,_,_,_,_,_,_,_,_,_,_,_,_,_,_]) (ts:=[]) (cs:=[_,_,_,_,_,_,_,_,_,_,_,_,_,_,_,_]) (R:=[_,_,_,_,_,_,_,_,_,_,_]) (new:=[_,_,_,_,_,_,_,_,_,_,_,_,_,_,_,_]) rfl rfl rfl Tryz.sizeOf36 rfl (by simp [Value.oneCell']) rfl rfl rfl rfl rfl rfl ?_
   refine HO_nil ?_
   refine H_env (ρ':=[(10,_),(7,_),(8,_),(2,_),(1,_),(38,_),(39,_),(40,_)]) ⟨rfl,rfl,rfl,rfl,rfl,rfl,rfl,rfl,trivial⟩ ?_
   refine H_world (kp [yy,nn,yy,yy,yy,yy,yy,yy,yy,yy,yy,yy] [_,_,_,_,_,_,_,_,_,_,_] rfl) ?_
   refine H_seq ?_
   refine H_seq ?_
   refine H_sanes (i:=1) rfl (fun hsn => ?_)
   refine H_rng (i:=2) rfl (fun rv => ?_)
   refine H_rng (i:=3) rfl (fun rl => ?_)
   refine H_region (l:=[_,_,_]) rfl ?_
   refine HO_loadA (i:=0) (us:=[]) (cs:=[_,_,_,_,_,_,_,_,_,_,_,_,_,_,_,_]) (ts:=[]) rfl rfl rfl Tryz.isAgg36 Tryz.sizeOf36 rfl (.loc _ _ _) rfl rfl rfl rfl ?_
   refine HO_dup (i:=1) rfl rfl ?_
   refine HO_dup (i:=3) rfl rfl ?_
   refine HO_dup (i:=5) rfl rfl ?_
   refine HO_dup (i:=7) rfl rfl ?_
   refine HO_call (first:=[]) (capt:=[]) (is:=[0,0,0,0]) (R:=[_,_,_,_,_,_,_,_,_,_,_]) rfl rfl rfl rfl rfl Tryz.call9 rfl (few24_spec _ _ _ _ _ _ _ _ _ _ _ _ _ _ _ _ _ _ _ _ _ _ _ _ ?_ ?_ ?_) ?_
   ·(dsimp only [BIG];omega)
   ·(dsimp only [BIG];omega)
   ·(dsimp only [BIG];omega)
   intro y45 hy45
   clear y45 hy45
   refine HO_not rfl rfl rfl ?_
   refine HO_nil ?_
   refine H_env (ρ':=[(46,_),(10,_),(7,_),(8,_),(2,_),(1,_),(38,_),(39,_),(40,_)]) ⟨rfl,rfl,rfl,rfl,rfl,rfl,rfl,rfl,rfl,trivial⟩ ?_
   refine H_cond rfl ?_ ?_
   ·intro h46
    replace h46:=nT h46
    refine H_seq ?_
    refine H_region (l:=[_,_]) rfl ?_
    refine HO_call (first:=[]) (capt:=[]) (is:=[]) (R:=[_,_,_,_,_,_,_,_,_,_,_]) rfl rfl rfl rfl rfl Tryz.call8 rfl lives24_spec ?_
    intro y47 hy47
    clear y47 hy47
    refine HO_assign rfl rfl rfl ?_
    refine HO_nil ?_
    refine H_env (ρ':=[(6,_)]) ⟨rfl,trivial⟩ ?_
    refine H_world (kp [nn,nn,nn,nn,nn,nn,nn,yy,nn,nn,nn] [_] rfl) ?_
    refine H_ret1 Tryz.results4 (.tmp rfl) (fun w hA => ⟨(),congrArg Ending.returned ?_,?_,?_⟩)
    ·(exact congrArg Value.bool (by first | rfl | assumption | simp_all))
    ·trivial
    ·exact hA.keep (m:=[nn]) (Y:=[]) rfl
   intro h46
   replace h46:=nF h46
   refine H_skip ?_
   refine H_seq ?_
   have hfw:=Net.few_more h46
   have hfp:=Ent.few_parts hfw
   (try dsimp only at hfp)
   have hsm : Ent.saneM z42:=⟨⟨hI42.1,hI42.2.1,hI42.2.2.1,hI42.2.2.2.1,hI42.2.2.2.2.1,hI42.2.2.2.2.2.1,hI42.2.2.2.2.2.2.1,hI42.2.2.2.2.2.2.2.1,hI42.2.2.2.2.2.2.2.2.1⟩,Ent.wholes_of hsn hfp.1,hI42.2.2.2.2.2.2.2.2.2.2.1,hI42.2.2.2.2.2.2.2.2.2.2.2.1,by omega,by omega,rv,rl,by omega⟩
   refine H_region (l:=[_,_,_,_]) rfl ?_
   refine HO_move rfl rfl rfl ?_
   refine HO_loadA (i:=0) (us:=[]) (cs:=[_,_,_,_,_,_,_,_,_,_,_,_,_,_,_,_]) (ts:=[]) rfl rfl rfl Tryz.isAgg36 Tryz.sizeOf36 rfl (.loc _ _ _) rfl rfl rfl rfl ?_
   refine HO_dup (i:=1) rfl rfl ?_
   refine HO_dup (i:=3) rfl rfl ?_
   refine HO_dup (i:=5) rfl rfl ?_
   refine HO_dup (i:=7) rfl rfl ?_
   refine HO_call (first:=[]) (capt:=[]) (is:=[5,6,0,0,0,0]) (R:=[_,_,_,_,_,_,_,_,_]) rfl rfl rfl rfl rfl Tryz.call10 rfl (send_spec _ _ _ _ _ _ _ _ _ _ _ _ _ _ _ _ _ _ _ _ _ _ _ _ _ _ _ _ _ ?_ ?_ ?_ ?_ ?_ ?_ ?_ ?_ ?_ ?_) ?_
   ·decide
   ·(rw [hGh];omega)
   ·(dsimp only [BIG];omega)
   ·(dsimp only [BIG];omega)
   ·(dsimp only [BIG];omega)
   ·exact ⟨hI42.1,hI42.2.1,hI42.2.2.1,hI42.2.2.2.1,hI42.2.2.2.2.1,hI42.2.2.2.2.2.1,hI42.2.2.2.2.2.2.1,hI42.2.2.2.2.2.2.2.1⟩
   ·exact hI42.2.2.2.2.2.2.2.2.1
   ·exact ⟨hI42.2.2.2.2.2.2.2.2.2.2.1,hI42.2.2.2.2.2.2.2.2.2.2.2.1⟩
   ·exact hsn
   ·exact hfw
   intro y50 hy50
   refine HO_assign rfl rfl rfl ?_
   refine HO_nil ?_
   refine H_env (ρ':=[(11,_),(10,_),(7,_),(8,_),(2,_),(1,_),(38,_),(39,_),(40,_)]) ⟨rfl,rfl,rfl,rfl,rfl,rfl,rfl,rfl,rfl,trivial⟩ ?_
   refine H_seq ?_
   refine H_seq ?_
   refine H_region (l:=[_,_,_,_,_]) rfl ?_
   refine HO_move rfl rfl rfl ?_
   refine HO_bin rfl rfl rfl rfl bin_eql ?_
   refine HO_set (v':=.bool (Ent.goodMsg z42)) 52 rfl (by exact congrArg Value.bool (Net.sendD (by rw [hGh];omega))) ?_
   refine HO_loadA (i:=3) (us:=[]) (cs:=[_,_,_,_,_,_,_,_,_,_,_,_,_,_,_,_]) (ts:=[]) rfl rfl rfl Tryz.isAgg36 Tryz.sizeOf36 rfl (.loc _ _ _) rfl rfl rfl rfl ?_
   refine HO_dup (i:=4) rfl rfl ?_
   refine HO_dup (i:=6) rfl rfl ?_
   refine HO_dup (i:=8) rfl rfl ?_
   refine HO_dup (i:=10) rfl rfl ?_
   refine HO_call (first:=[]) (capt:=[]) (is:=[0,0,0,0]) (R:=[_,_,_,_,_,_,_,_,_,_,_,_]) rfl rfl rfl rfl rfl Tryz.call24 rfl (rgoodmsg_spec _ _ _ _ _ _ _ _ _ _ _ _ _ _ _ _ _ _ _ _ _ _ _ _ ?_ ?_ ?_ ?_) ?_
   ·(dsimp only [BIG];omega)
   ·(dsimp only [BIG];omega)
   ·(dsimp only [BIG];omega)
   ·exact hI42.2.2.2.2.1.2
   intro y54 hy54
   clear y54 hy54
   refine HO_bin rfl rfl rfl rfl (bin_neb Tryz.runUnderlying4) ?_
   refine HO_set (v':=.bool (false)) 55 rfl (by exact congrArg Value.bool (by cases Ent.goodMsg z42 <;> rfl)) ?_
   refine HO_nil ?_
   refine H_env (ρ':=[(55,_),(11,_),(10,_),(7,_),(8,_),(2,_),(1,_),(38,_),(39,_),(40,_)]) ⟨rfl,rfl,rfl,rfl,rfl,rfl,rfl,rfl,rfl,rfl,trivial⟩ ?_
   refine H_cond rfl (fun h => nomatch h) (fun _ => ?_)
   refine H_skip ?_
   refine H_seq ?_
   refine H_region (l:=[_,_]) rfl ?_
   refine HO_move rfl rfl rfl ?_
   refine HO_bin rfl rfl rfl rfl bin_eql ?_
   refine HO_set (v':=.bool (Ent.goodMsg z42)) 57 rfl (by exact congrArg Value.bool (Net.sendD (by rw [hGh];omega))) ?_
   refine HO_nil ?_
   refine H_env (ρ':=[(57,_),(10,_),(7,_),(8,_),(2,_),(1,_),(38,_),(39,_),(40,_)]) ⟨rfl,rfl,rfl,rfl,rfl,rfl,rfl,rfl,rfl,trivial⟩ ?_
   refine H_cond rfl ?_ ?_
   ·intro h57
    have hs1 : Net.sendP 100 (G.map Rw.hd).length (⟨z42.kind,z42.frm,z42.to,z42.term,z42.idx,z42.lterm,z42.commit,z42.round,z42.rej,z42.hint,z42.ents,⟨z42.snap.idx,z42.snap.term,⟨z42.snap.conf.vot,z42.snap.conf.lea⟩,z42.snap.data⟩⟩ : Msg):=⟨h57,by rw [hGh];omega⟩
    rw [Net.sendH_yes hs1,Net.sendB_yes hs1]
    refine H_moreRow (i:=2) (i2:=8) (True) (R:=[_,_,_,_,_,_,_,_,_,_]) rfl ?_
    rw [if_pos trivial]
    refine H_region (l:=[_,_,_,_,_]) rfl ?_
    refine HO_move rfl rfl rfl ?_
    refine HO_loadA (i:=3) (us:=[]) (cs:=[_,_,_,_,_,_,_,_,_,_,_,_,_,_,_,_]) (ts:=[]) rfl rfl rfl Tryz.isAgg36 Tryz.sizeOf36 rfl (.loc _ _ _) rfl rfl rfl rfl ?_
    refine HO_buildSlice (kd:=kMsg) (xo:=[_]) (vs:=[_]) (cs:=[_,_,_,_,_,_,_,_,_,_,_,_,_,_,_,_]) (xs:=[_]) rfl rfl rfl rfl Tryz.underlying57 elt36 rfl rfl rfl (by decide) (by decide) (by simp [Value.cells]) rfl (fun ok w hA => ⟨_,_,rfl,⟨hI42,⟨⟨_,_⟩,⟨_,_⟩,⟨_,_⟩,⟨_,_⟩⟩,rfl,(List.forall_mem_cons.2 ⟨hA _ (List.mem_of_getElem? (i:=4) rfl),(List.forall_mem_cons.2 ⟨hA _ (List.mem_of_getElem? (i:=5) rfl),(List.forall_mem_cons.2 ⟨hA _ (List.mem_of_getElem? (i:=6) rfl),(List.forall_mem_cons.2 ⟨hA _ (List.mem_of_getElem? (i:=7) rfl),(by simp)⟩)⟩)⟩)⟩)⟩,rfl⟩) ?_
    intro g60
    refine HO_append (i:=9) (R:=[_,_,_,_,_,_,_,_,_,_,_]) rfl rfl rfl rfl rfl Tryz.underlying57 elt36 rfl rfl (SrcOk.own (j:=0) Tryz.underlying57 rfl rfl) ?_ ?_
    ·(simp only [List.length_cons,List.length_nil];omega)
    intro a61 c61
    refine HO_assign rfl rfl rfl ?_
    refine HO_nil ?_
    refine H_env (ρ':=[(8,_),(7,_),(2,_),(1,_),(38,_),(39,_),(40,_)]) ⟨rfl,rfl,rfl,rfl,rfl,rfl,rfl,trivial⟩ ?_
    refine H_world (kp [yy,nn,yy,yy,yy,nn,nn,nn,nn,nn,yy,yy] [_,_,_,_,_,_] rfl) ?_
    refine H_blk ?_
    refine H_region (l:=[_,_]) rfl ?_
    refine HO_bin rfl rfl rfl rfl (bin_add ?_ ?_) ?_
    ·omega
    ·omega
    refine HO_move rfl rfl rfl ?_
    refine HO_nil ?_
    refine H_env (ρ':=[(40,_),(8,_),(7,_),(2,_),(1,_),(38,_),(39,_)]) ⟨rfl,rfl,rfl,rfl,rfl,rfl,rfl,trivial⟩ ?_
    refine H_inv (fun a w hf hA => ⟨⟨i + 1,G ++ [⟨y50.2.1,y50.2.2,Cod.frame (Ent.msgB z42)⟩],ms ++ [z42],y50.1,(a61,c61)⟩,?_,?_,hf.sub ?_,?_⟩)
    ·exact ⟨by dsimp only;omega,hI.2.1,by dsimp only;rw [List.length_append];simp;omega,hI.2.2.2.more ⟨hsm,h57,hfw⟩⟩
    ·(try dsimp only);omega
    ·exact ⟨rfl,rfl,rfl,rfl,rfl,rfl,rfl,trivial⟩
    ·(rw [List.map_append];exact hA.only (is:=[0,1,0,0,4,5]) (Z:=[]) rfl)
   intro h57
   have hno : ¬ Net.sendP 100 (G.map Rw.hd).length (⟨z42.kind,z42.frm,z42.to,z42.term,z42.idx,z42.lterm,z42.commit,z42.round,z42.rej,z42.hint,z42.ents,⟨z42.snap.idx,z42.snap.term,⟨z42.snap.conf.vot,z42.snap.conf.lea⟩,z42.snap.data⟩⟩ : Msg):=fun h => absurd (h57.symm.trans h.1) (by decide)
   rw [Net.sendH_no hno,Net.sendB_no hno]
   refine H_skip ?_
   refine H_blk ?_
   refine H_region (l:=[_,_]) rfl ?_
   refine HO_bin rfl rfl rfl rfl (bin_add ?_ ?_) ?_
   ·omega
   ·omega
   refine HO_move rfl rfl rfl ?_
   refine HO_nil ?_
   refine H_env (ρ':=[(40,_),(7,_),(8,_),(2,_),(1,_),(38,_),(39,_)]) ⟨rfl,rfl,rfl,rfl,rfl,rfl,rfl,trivial⟩ ?_
   refine H_world (kp [yy,yy,yy,nn,nn,nn,nn,nn,yy,yy,yy,yy] [_,_,_,_,_,_,_] rfl) ?_
   refine H_inv (fun a w hf hA => ⟨⟨i + 1,G,ms,y50.1,p⟩,?_,?_,hf.sub ?_,?_⟩)
   ·exact ⟨by dsimp only;omega,hI.2.1,by dsimp only;omega,hI.2.2.2⟩
   ·(try dsimp only);omega
   ·exact ⟨rfl,rfl,rfl,rfl,rfl,rfl,rfl,trivial⟩
   ·exact hA.only (is:=[0,1,3,4,5,6]) (Z:=[_]) rfl
  intro h41
  replace h41:=dF h41
  refine H_exit rfl ?_
  refine H_seq ?_
  refine H_seq ?_
  refine H_region (l:=[_,_,_]) rfl ?_
  refine HO_move rfl rfl rfl ?_
  refine HO_bi rfl rfl rfl (bi_len_sl Tryz.underlying58) ?_
  refine HO_move rfl rfl rfl ?_
  refine HO_nil ?_
  refine H_env (ρ':=[(65,_),(64,_),(63,_),(7,_),(8,_),(2,_)]) ⟨rfl,rfl,rfl,rfl,rfl,rfl,trivial⟩ ?_
  refine H_world (kp [yy,yy,yy,yy,yy,nn] [_,_,_,_,_] rfl) ?_
  refine H_meetE (σ:=List Rw × List Msg × (Option Addr × Nat) × (Option Addr × Nat)) _ (fun s => s.2.1.length≤60∧Net.Sent s.1 s.2.1) (fun s => [(7,.pointer (some ⟨y20,0,none⟩)),(8,.slice s.2.2.2.1 (s.2.1.length) s.2.2.2.2),(2,.int .u64 ((bit : Int)))]) (fun s => Asn w0 ok0 M0 [.loc y20 [.slice s.2.2.1.1 ((s.1.map Rw.hd).length) s.2.2.1.2,.int .i64 (100)] 65,.own 32 kHd s.2.2.1.1 s.2.2.1.2 (s.1.map Rw.hd),.rows 5 (s.1),.own 36 kMsg s.2.2.2.1 s.2.2.2.2 (s.2.1)]) ?_ ?_
  ·skip
   refine H_block ?_
   refine H_loop (σ:=Nat × List Rw × List Msg × (Option Addr × Nat) × (Option Addr × Nat)) (fun s => s.1≤ats.length∧s.2.2.1.length≤60∧Net.Sent s.2.1 s.2.2.1) (fun s => [(7,.pointer (some ⟨y20,0,none⟩)),(8,.slice s.2.2.2.2.1 (s.2.2.1.length) s.2.2.2.2.2),(2,.int .u64 ((bit : Int))),(63,.slice a9 (ats.length) c9),(64,.int .i64 ((ats.length : Int))),(65,.int .i64 ((s.1 : Int)))]) (fun s => Asn w0 ok0 M0 [.loc y20 [.slice s.2.2.2.1.1 ((s.2.1.map Rw.hd).length) s.2.2.2.1.2,.int .i64 (100)] 65,.own 32 kHd s.2.2.2.1.1 s.2.2.2.1.2 (s.2.1.map Rw.hd),.rows 5 (s.2.1),.own 36 kMsg s.2.2.2.2.1 s.2.2.2.2.2 (s.2.2.1),.dat kUint.sl (ats) [.slice a9 (ats.length) c9]]) (fun s => ats.length - s.1) ⟨0,G,ms,u,p⟩ ?_ ?_ ?_ ?_
   ·exact ⟨Nat.zero_le _,by dsimp only;omega,hI.2.2.2⟩
   ·exact ⟨rfl,rfl,rfl,rfl,rfl,rfl,trivial⟩
   ·intro w hA
    exact hA.only (is:=[0,1,2,3,4]) (Z:=[]) rfl
   ·rintro ⟨j,G,ms,u,p⟩ hI
    (try dsimp only at hI ⊢)
    have hGh : (G.map Rw.hd).length = ms.length:=by rw [List.length_map];exact hI.2.2.len
    refine H_seq ?_
    refine H_region (l:=[_]) rfl ?_
    refine HO_bin rfl rfl rfl rfl bin_lss ?_
    refine HO_nil ?_
    refine H_seq ?_
    refine H_cond rfl ?_ ?_
    ·intro h66
     replace h66:=dT h66
     refine H_skip ?_
     refine H_seq ?_
     refine H_block ?_
     refine H_seq ?_
     refine H_region (l:=[_,_,_]) rfl ?_
     refine HO_indexAddr open_Uint (i:=4) rfl rfl rfl rfl rfl Tryz.underlying58 Tryz.sizeOf59 rfl ?_ ?_
     ·omega
     intro b67 o67 z67 y67 hz67 hI67
     clear y67
     refine HO_load1 (i:=0) (j:=0) rfl rfl rfl Tryz.isAgg59 rfl (.elem _ _ _) rfl rfl ?_
     refine HO_assign rfl rfl rfl ?_
     refine HO_nil ?_
     refine H_env (ρ':=[(13,_),(7,_),(8,_),(2,_),(63,_),(64,_),(65,_)]) ⟨rfl,rfl,rfl,rfl,rfl,rfl,rfl,trivial⟩ ?_
     refine H_world (kp [nn,yy,yy,yy,yy,yy] [_,_,_,_,_] rfl) ?_
     refine H_seq ?_
     refine H_seq ?_
     refine H_region (l:=[_,_,_]) rfl ?_
     refine HO_move rfl rfl rfl ?_
     refine HO_bi rfl rfl rfl (bi_len_sl Tryz.underlying57) ?_
     refine HO_bin rfl rfl rfl rfl bin_eql ?_
     refine HO_nil ?_
     refine H_env (ρ':=[(71,_),(13,_),(7,_),(8,_),(2,_),(63,_),(64,_),(65,_)]) ⟨rfl,rfl,rfl,rfl,rfl,rfl,rfl,rfl,trivial⟩ ?_
     refine H_cond rfl ?_ ?_
     ·intro h71
      replace h71:=dT h71
      refine H_exit rfl ?_
      refine H_inv (fun a w hf hA => ⟨⟨G,ms,u,p⟩,?_,hf.sub ?_,?_⟩)
      ·exact ⟨hI.2.1,hI.2.2⟩
      ·exact ⟨rfl,rfl,rfl,trivial⟩
      ·exact hA.only (is:=[0,1,2,3]) (Z:=[_]) rfl
     intro h71
     replace h71:=dF h71
     refine H_skip ?_
     refine H_seq ?_
     have hpos : 0 < ms.length:=by omega
     obtain ⟨m,hm⟩ : ∃ m,ms[(z67 % ms.length)]? = some m:=⟨_,List.getElem?_eq_getElem (Nat.mod_lt _ hpos)⟩
     obtain ⟨hrb,hsm,hg,hfw⟩:=hI.2.2.row hm
     have hkx : (Net.ix (((z67 % ms.length) : Nat) : Int) (G.map Rw.hd).length) = (z67 % ms.length):=Net.ix_nat
     have hlk : (Net.look (((z67 % ms.length) : Nat) : Int) (G.map Rw.hd).length (rowAt G (Net.ix (((z67 % ms.length) : Nat) : Int) (G.map Rw.hd).length)).b) = (m,0):=by rw [hkx,hrb];exact Net.look_sent hsm hg hfw (by rw [Net.ix_nat,hGh];exact Nat.mod_lt _ hpos)
     refine H_region (l:=[_,_,_,_,_,_,_]) rfl ?_
     iterate 2 refine HO_move rfl rfl rfl ?_
     refine HO_bi rfl rfl rfl (bi_len_sl Tryz.underlying57) ?_
     refine HO_conv rfl rfl rfl (cv_int Tryz.underlying3 Tryz.underlying59 (wrap_u_i rfl _)) ?_
     refine HO_set (v':=.int .u64 ((ms.length : Int))) 75 rfl (by exact congrArg (Value.int .u64) (by simp only [IntKind.bits];omega)) ?_
     refine HO_bin rfl rfl rfl rfl (bin_remu ?_) ?_
     ·omega
     refine HO_conv rfl rfl rfl (cv_int Tryz.underlying59 Tryz.underlying3 (wrap_i64_nat ?_)) ?_
     ·(have:=Nat.mod_lt z67 hpos;omega)
     refine HO_assign rfl rfl rfl ?_
     refine HO_nil ?_
     refine H_env (ρ':=[(14,_),(7,_),(8,_),(2,_),(63,_),(64,_),(65,_)]) ⟨rfl,rfl,rfl,rfl,rfl,rfl,rfl,trivial⟩ ?_
     refine H_seq ?_
     refine H_takeRow ((Net.ix (((z67 % ms.length) : Nat) : Int) (G.map Rw.hd).length)) (i:=2) (R:=[_,_,_,_]) rfl ?_
     refine H_region (l:=[_,_,_,_,_,_,_,_,_]) rfl ?_
     iterate 2 refine HO_move rfl rfl rfl ?_
     refine HO_call (first:=[]) (capt:=[]) (is:=[1,2,0]) (R:=[_,_,_]) rfl rfl rfl rfl rfl Tryz.call12 rfl (take_spec _ _ _ _ _ _ _ _ _ ?_ ?_ ?_ ?_) ?_
     ·decide
     ·(rw [hGh];omega)
     ·exact Net.hd_at
     ·exact Net.row_le hI.2.2.le
     intro y81 hy81
     refine HO_move rfl rfl rfl ?_
     refine HO_extract (vs:=[_,_]) rfl rfl rfl rfl ?_
     refine HO_extract (vs:=[_,_]) rfl rfl rfl rfl ?_
     refine HO_alloc (cs:=[_,_,_,_,_,_,_,_,_,_,_,_,_,_,_,_]) rfl rfl Tryz.zeroValue36 rfl ?_
     intro g15
     refine HO_store (i:=0) (j:=0) (us:=[]) (old:=[_,_,_,_,_,_,_,_,_,_,_,_,_,_,_,_]) (ts:=[]) (cs:=[_,_,_,_,_,_,_,_,_,_,_,_,_,_,_,_]) (R:=[_,_,_,_,_,_,_,_,_,_]) (new:=[_,_,_,_,_,_,_,_,_,_,_,_,_,_,_,_]) rfl rfl rfl Tryz.sizeOf36 rfl (by simp [Value.oneCell']) rfl rfl rfl rfl rfl rfl ?_
     refine HO_assign rfl rfl rfl ?_
     refine HO_nil ?_
     refine H_env (ρ':=[(16,_),(15,_),(14,_),(7,_),(8,_),(2,_),(63,_),(64,_),(65,_)]) ⟨rfl,rfl,rfl,rfl,rfl,rfl,rfl,rfl,rfl,trivial⟩ ?_
     refine H_seq ?_
     refine H_seq ?_
     refine H_drawB (m:=[yy,yy,yy,yy,yy,yy,yy,yy,yy,yy,yy]) (Xs:=[_,_,_,_,_,_,_,_,_,_,_]) (fuel:=11) (l:=#[false,false,false,false,false,false,false,false,false,false,false]) mixed rfl rfl rfl ?_
     refine HA_take (i:=0) bp rfl rfl rfl rfl (by kernel_rfl) rfl (V_move rfl) (fun _ hA => hA) ?_
     refine HA_take (i:=1) bp rfl rfl rfl rfl (by kernel_rfl) rfl (V_bin rfl rfl bin_neq) (fun _ hA => hA) ?_
     refine HA_set (v':=.bool (false)) 85 rfl (by exact congrArg Value.bool (show decide ((Net.look (((z67 % ms.length) : Nat) : Int) (G.map Rw.hd).length (rowAt G (Net.ix (((z67 % ms.length) : Nat) : Int) (G.map Rw.hd).length)).b).2 ≠ 0) = false by rw [hlk];rfl)) ?_
     refine HA_take (i:=2) bp rfl rfl rfl rfl (by kernel_rfl) rfl (V_move rfl) (fun _ hA => hA) ?_
     refine HA_take (i:=3) bp rfl rfl rfl rfl (by kernel_rfl) rfl (V_loadA (i:=0) (us:=[]) (cs:=[_,_,_,_,_,_,_,_,_,_,_,_,_,_,_,_]) (ts:=[]) rfl Tryz.isAgg36 Tryz.sizeOf36 rfl (.loc _ _ _) rfl rfl rfl rfl) (fun _ hA => hA) ?_
     refine HA_take (i:=4) bp rfl rfl rfl rfl (by kernel_rfl) rfl (V_move rfl) (fun _ hA => hA) ?_
     refine HA_take (i:=5) bp rfl rfl rfl rfl (by kernel_rfl) rfl (V_move rfl) (fun _ hA => hA) ?_
     refine HA_loud1 (i:=6) (by kernel_rfl) rfl ?_
     refine HO_indexOwn (i:=9) (j:=(z67 % ms.length)) rfl rfl rfl rfl ?_ Tryz.underlying57 Tryz.sizeOf36 rfl (by first | rfl | (simp;done) | (simp;omega)) ?_ rfl ?_
     ·rfl
     ·exact Nat.mod_lt _ hpos
     intro g90 z90 hg90 hz90
     refine HA_back rfl (fun _ hA => hA) ?_
     refine HA_loud1 (i:=7) (by kernel_rfl) rfl ?_
     refine HO_loadOwnA open_Msg (i:=9) rfl rfl rfl Tryz.isAgg36 Tryz.sizeOf36 rfl rfl hg90 rfl hz90 ?_
     intro y91 hI91
     (try simp only [BIG] at hI91)
     refine HA_back rfl (kp [nn,nn,nn,nn,yy,yy,yy,yy,yy,yy,yy,yy,yy,yy,yy] [_,_,_,_,_,_,_,_,_,_,_] rfl) ?_
     refine HA_loud1 (i:=8) (by kernel_rfl) rfl ?_
     have he90 : z90 = m:=Option.some.inj (hz90.symm.trans hm)
     refine HO_dup (i:=8) rfl rfl ?_
     refine HO_dup (i:=10) rfl rfl ?_
     refine HO_dup (i:=12) rfl rfl ?_
     refine HO_dup (i:=14) rfl rfl ?_
     refine HO_dup (i:=4) rfl rfl ?_
     refine HO_dup (i:=6) rfl rfl ?_
     refine HO_dup (i:=8) rfl rfl ?_
     refine HO_dup (i:=10) rfl rfl ?_
     refine HO_call (first:=[]) (capt:=[]) (is:=[0,0,0,0,0,0,0,0]) (R:=[_,_,_,_,_,_,_,_,_,_,_,_,_,_,_]) rfl rfl rfl rfl rfl Tryz.call14 rfl (samemsg_spec _ _ _ _ _ _ _ _ _ _ _ _ _ _ _ _ _ _ _ _ _ _ _ _ _ _ _ _ _ _ _ _ _ _ _ _ _ _ _ _ _ _ _ _ _ _ _ _) ?_
     intro y92 hy92
     clear y92 hy92
     refine HO_set (v':=.bool (true)) 92 rfl (by exact congrArg Value.bool (show decide ((Net.look (((z67 % ms.length) : Nat) : Int) (G.map Rw.hd).length (rowAt G (Net.ix (((z67 % ms.length) : Nat) : Int) (G.map Rw.hd).length)).b).1 = z90) = true by rw [hlk,he90];exact decide_eq_true rfl)) ?_
     refine HA_back rfl (kp [nn,nn,nn,nn,yy,yy,yy,yy,yy,yy,yy,yy,yy,yy,yy] [_,_,_,_,_,_,_,_,_,_,_] rfl) ?_
     refine HA_take (i:=9) bp rfl rfl rfl rfl (by kernel_rfl) rfl (V_not rfl) (kp [nn,nn,nn,nn,yy,yy,yy,yy,yy,yy,yy,yy,yy,yy,yy] [_,_,_,_,_,_,_,_,_,_,_] rfl) ?_
     refine HA_take (i:=10) bp rfl rfl rfl rfl (by kernel_rfl) rfl (V_pick_f rfl rfl) (kp [nn,nn,nn,nn,yy,yy,yy,yy,yy,yy,yy,yy,yy,yy,yy] [_,_,_,_,_,_,_,_,_,_,_] rfl) ?_
     refine HA_done (by kernel_rfl) ?_
     refine H_env (ρ':=[(94,_),(14,_),(7,_),(8,_),(2,_),(63,_),(64,_),(65,_)]) ⟨rfl,rfl,rfl,rfl,rfl,rfl,rfl,rfl,trivial⟩ ?_
     refine H_world (kp [nn,nn,nn,nn,nn,yy,yy,yy,nn,nn,nn,nn,yy,yy,yy] [_,_,_,_,_,_] rfl) ?_
     refine H_cond rfl (fun h => nomatch h) (fun _ => ?_)
     refine H_skip ?_
     refine H_ownLen (i:=4) rfl (fun hlc hmc => ?_)
     refine H_freeze (i:=4) (R:=[_,_,_,_,_]) rfl hMn ?_
     refine H_drawB (m:=[yy,yy,yy,yy,yy,yy]) (Xs:=[_,_,_,_,_,_]) (fuel:=11) (l:=#[false,false,false,false,false,false,false,false,false,false,false]) mixed rfl rfl rfl ?_
     refine HA_take (i:=1) bp rfl rfl rfl rfl (by kernel_rfl) rfl (V_move rfl) (fun _ hA => hA) ?_
     refine HA_take (i:=2) bp rfl rfl rfl rfl (by kernel_rfl) rfl (V_move rfl) (fun _ hA => hA) ?_
     refine HA_take (i:=3) bp rfl rfl rfl rfl (by kernel_rfl) rfl (V_sliceA_h rfl rfl rfl Tryz.underlying57 Tryz.sizeOf36 ?_) (fun _ hA => hA) ?_
     ·(have:=Nat.mod_lt z67 hpos;omega)
     refine HA_take (i:=5) bp rfl rfl rfl rfl (by kernel_rfl) rfl (V_move rfl) (fun _ hA => hA) ?_
     refine HA_take (i:=6) bp rfl rfl rfl rfl (by kernel_rfl) rfl (V_move rfl) (fun _ hA => hA) ?_
     refine HA_take (i:=7) bp rfl rfl rfl rfl (by kernel_rfl) rfl (V_bin rfl rfl (bin_add ?_ ?_)) (fun _ hA => hA) ?_
     ·(have:=Nat.mod_lt z67 hpos;omega)
     ·(have:=Nat.mod_lt z67 hpos;omega)
     refine HA_take (i:=8) bp rfl rfl rfl rfl (by kernel_rfl) rfl (V_sliceA_l (l:=(z67 % ms.length) + 1) rfl rfl ?_ Tryz.underlying57 Tryz.sizeOf36 ?_) (fun _ hA => hA) ?_
     ·omega
     ·(have:=Nat.mod_lt z67 hpos;omega)
     refine HA_loud1 (i:=0) (by kernel_rfl) rfl ?_
     refine HO_buildSlice0 (kd:=kMsg) rfl rfl Tryz.underlying57 elt36 ?_
     intro g95
     refine HA_back rfl (kp [nn,yy,yy,yy,yy,yy,yy] [_,_,_,_,_,_] rfl) ?_
     refine HA_loud1 (i:=4) (by kernel_rfl) rfl ?_
     refine HO_append (i:=0) (R:=[_,_,_,_,_,_]) rfl rfl rfl rfl rfl Tryz.underlying57 elt36 rfl rfl (SrcOk.part (j:=0) (l:=0) (h':=(z67 % ms.length)) Tryz.underlying57 rfl ?_ ?_) ?_ ?_
     ·omega
     ·exact Nat.le_of_lt (Nat.mod_lt _ hpos)
     ·(simp only [List.length_append,List.length_nil,List.length_take,List.length_drop];omega)
     intro a99 c99
     refine HA_back rfl (kp [nn,yy,yy,yy,yy,yy,yy] [_,_,_,_,_,_] rfl) ?_
     refine HA_loud1 (i:=9) (by kernel_rfl) rfl ?_
     refine HO_append (i:=0) (R:=[_,_,_,_,_,_]) rfl rfl rfl rfl rfl Tryz.underlying57 elt36 rfl rfl (SrcOk.part (j:=0) (l:=(z67 % ms.length) + 1) (h':=ms.length) Tryz.underlying57 rfl ?_ ?_) ?_ ?_
     ·exact Nat.mod_lt _ hpos
     ·omega
     ·(simp only [List.length_append,List.length_nil,List.length_take,List.length_drop];omega)
     intro a104 c104
     refine HA_back rfl (kp [nn,yy,yy,yy,yy,yy,yy] [_,_,_,_,_,_] rfl) ?_
     refine HA_take (i:=10) bp rfl rfl rfl rfl (by kernel_rfl) rfl (V_assign rfl) (kp [nn,yy,yy,yy,yy,yy,yy] [_,_,_,_,_,_] rfl) ?_
     refine HA_done (by kernel_rfl) ?_
     refine H_env (ρ':=[(8,_),(7,_),(2,_),(63,_),(64,_),(65,_)]) ⟨rfl,rfl,rfl,rfl,rfl,rfl,trivial⟩ ?_
     refine H_world (kp [yy,nn,yy,yy,yy,yy,yy] [_,_,_,_,_,_] rfl) ?_
     refine H_blk ?_
     refine H_region (l:=[_,_]) rfl ?_
     refine HO_bin rfl rfl rfl rfl (bin_add ?_ ?_) ?_
     ·omega
     ·omega
     refine HO_move rfl rfl rfl ?_
     refine HO_nil ?_
     refine H_env (ρ':=[(65,_),(8,_),(7,_),(2,_),(63,_),(64,_)]) ⟨rfl,rfl,rfl,rfl,rfl,rfl,trivial⟩ ?_
     refine H_inv (fun a w hf hA => ⟨⟨j + 1,G.eraseIdx (Net.ix (((z67 % ms.length) : Nat) : Int) (G.map Rw.hd).length),[] ++ (ms.take (z67 % ms.length)).drop 0 ++ (ms.take ms.length).drop ((z67 % ms.length) + 1),y81.1,(a104,c104)⟩,?_,?_,hf.sub ?_,?_⟩)
     ·exact ⟨by dsimp only;omega,by have:=List.length_eraseIdx_le ms (z67 % ms.length);dsimp only;rw [Net.cut_eq];omega,by dsimp only;rw [hkx,Net.cut_eq];exact hI.2.2.erase⟩
     ·(try dsimp only);omega
     ·exact ⟨rfl,rfl,rfl,rfl,rfl,rfl,trivial⟩
     ·(rw [Net.erase_hd];exact hA.only (is:=[0,1,3,0,5]) (Z:=[_]) rfl)
    intro h66
    replace h66:=dF h66
    refine H_exit rfl ?_
    refine H_inv (fun a w hf hA => ⟨⟨G,ms,u,p⟩,?_,hf.sub ?_,?_⟩)
    ·exact ⟨hI.2.1,hI.2.2⟩
    ·exact ⟨rfl,rfl,rfl,trivial⟩
    ·exact hA.only (is:=[0,1,2,3]) (Z:=[_]) rfl
  rintro ⟨G,ms,u,p⟩ hJ
  (try dsimp only at hJ ⊢)
  have hGh : (G.map Rw.hd).length = ms.length:=by rw [List.length_map];exact hJ.2.len
  refine H_seq ?_
  refine H_seq ?_
  refine H_region (l:=[_,_,_,_,_]) rfl ?_
  refine HO_move rfl rfl rfl ?_
  refine HO_call (first:=[]) (capt:=[]) (is:=[0]) (R:=[_,_,_]) rfl rfl rfl rfl rfl Tryz.call23 rfl (len_spec _ _ _ _ _ ?_) ?_
  ·decide
  intro y107 hy107
  clear y107 hy107
  refine HO_move rfl rfl rfl ?_
  refine HO_bi rfl rfl rfl (bi_len_sl Tryz.underlying57) ?_
  refine HO_bin rfl rfl rfl rfl bin_neq ?_
  refine HO_set (v':=.bool (false)) 110 rfl (by exact congrArg Value.bool (decide_eq_false (by rw [hGh];exact fun h => h rfl))) ?_
  refine HO_nil ?_
  refine H_env (ρ':=[(110,_),(7,_),(8,_),(2,_)]) ⟨rfl,rfl,rfl,rfl,trivial⟩ ?_
  refine H_cond rfl (fun h => nomatch h) (fun _ => ?_)
  refine H_skip ?_
  refine H_seq ?_
  refine H_seq ?_
  refine H_region (l:=[_,_,_]) rfl ?_
  refine HO_move rfl rfl rfl ?_
  refine HO_bi rfl rfl rfl (bi_len_sl Tryz.underlying57) ?_
  refine HO_bin rfl rfl rfl rfl bin_gtr ?_
  refine HO_nil ?_
  refine H_env (ρ':=[(113,_),(7,_),(2,_)]) ⟨rfl,rfl,rfl,trivial⟩ ?_
  refine H_world (kp [yy,yy,yy,nn] [_,_,_] rfl) ?_
  refine H_cond rfl ?_ ?_
  ·intro h113
   replace h113:=dT h113
   refine H_seq ?_
   have hq : bit / 8 % 14 < 14∧bit % 8 < 8:=by omega
   have hlt : (Net.ix 0 (G.map Rw.hd).length) < (G.map Rw.hd).length:=by rw [Net.ix_zero,hGh];omega
   obtain ⟨m,hm⟩ : ∃ m,ms[0]? = some m:=⟨_,List.getElem?_eq_getElem (by omega)⟩
   obtain ⟨hrb,hsm,hg,hfw⟩:=hJ.2.row hm
   have hrb0 : (rowAt G (Net.ix 0 (G.map Rw.hd).length)).b = Cod.frame (Ent.msgB m):=by rw [Net.ix_zero];exact hrb
   have ho : Net.splE 0 (G.map Rw.hd).length (rowAt G (Net.ix 0 (G.map Rw.hd).length)).b ((4 + bit / 8 % 14 : Nat) : Int) ((bit % 8 : Nat) : Int) = 0:=by rw [hrb0];exact Net.spoil_ok hfw hq.1 hq.2 hlt
   have hb : Net.look 0 (G.map Rw.hd).length (Net.spl (rowAt G (Net.ix 0 (G.map Rw.hd).length)).b ((4 + bit / 8 % 14 : Nat) : Int) ((bit % 8 : Nat) : Int)) = (Ent.zeroM,8):=by rw [hrb0];exact Net.look_spoilt hfw hq.1 hq.2 hlt
   refine H_region (l:=[_,_,_,_,_,_]) rfl ?_
   refine HO_move rfl rfl rfl ?_
   refine HO_bin rfl rfl rfl rfl (bin_quou (b:=8) rfl ?_ ?_) ?_
   ·(simp only [IntKind.bits];omega)
   ·decide
   refine HO_bin rfl rfl rfl rfl (bin_remu (b:=14) ?_) ?_
   ·decide
   refine HO_conv rfl rfl rfl (cv_int Tryz.underlying59 Tryz.underlying3 (wrap_i64_nat ?_)) ?_
   ·omega
   refine HO_bin rfl rfl rfl rfl (bin_add ?_ ?_) ?_
   ·omega
   ·omega
   refine HO_set (v':=.int .i64 (((4 + bit / 8 % 14 : Nat) : Int))) 118 rfl (by exact congrArg (Value.int .i64) (by omega)) ?_
   refine HO_assign rfl rfl rfl ?_
   refine HO_nil ?_
   refine H_env (ρ':=[(17,_),(7,_),(2,_)]) ⟨rfl,rfl,rfl,trivial⟩ ?_
   refine H_seq ?_
   refine H_seq ?_
   refine H_takeRow ((Net.ix 0 (G.map Rw.hd).length)) (i:=2) (R:=[_,_]) rfl ?_
   refine H_region (l:=[_,_,_,_,_,_,_]) rfl ?_
   iterate 3 refine HO_move rfl rfl rfl ?_
   refine HO_bin rfl rfl rfl rfl (bin_remu (b:=8) ?_) ?_
   ·decide
   refine HO_conv rfl rfl rfl (cv_int Tryz.underlying59 Tryz.underlying3 (wrap_i64_nat ?_)) ?_
   ·omega
   refine HO_call (first:=[]) (capt:=[]) (is:=[1,2,0]) (R:=[_]) rfl rfl rfl rfl rfl Tryz.call21 rfl (spoil_spec _ _ _ _ _ _ _ _ _ _ _ ?_ ?_ ?_ ?_ ?_) ?_
   ·decide
   ·(rw [hGh];omega)
   ·exact Net.hd_at
   ·exact Net.row_le hJ.2.le
   ·exact Net.row_none
   intro y124 hy124
   clear y124 hy124
   refine HO_bin rfl rfl rfl rfl bin_neq ?_
   refine HO_set (v':=.bool (false)) 125 rfl (by exact congrArg Value.bool (show decide (Net.splE 0 (G.map Rw.hd).length (rowAt G (Net.ix 0 (G.map Rw.hd).length)).b ((4 + bit / 8 % 14 : Nat) : Int) ((bit % 8 : Nat) : Int) ≠ 0) = false by rw [ho];rfl)) ?_
   refine HO_nil ?_
   refine H_env (ρ':=[(125,_),(7,_)]) ⟨rfl,rfl,trivial⟩ ?_
   refine H_cond rfl (fun h => nomatch h) (fun _ => ?_)
   refine H_skip ?_
   refine H_seq ?_
   refine H_region (l:=[_,_,_,_,_,_,_,_]) rfl ?_
   refine HO_move rfl rfl rfl ?_
   refine HO_call (first:=[]) (capt:=[]) (is:=[0,1,2]) (R:=[_]) rfl rfl rfl rfl rfl Tryz.call15 rfl (look_spec _ _ _ _ _ _ _ _ _ ?_ ?_ ?_) ?_
   ·decide
   ·(exact fun h => by rw [Net.spl_len];exact Net.hd_at h)
   ·(rw [Net.spl_len];exact Net.row_le hJ.2.le)
   intro y128 hy128
   refine HO_move rfl rfl rfl ?_
   refine HO_extract (vs:=[_,_]) rfl rfl rfl rfl ?_
   refine HO_extract (vs:=[_,_]) rfl rfl rfl rfl ?_
   refine HO_alloc (cs:=[_,_,_,_,_,_,_,_,_,_,_,_,_,_,_,_]) rfl rfl Tryz.zeroValue36 rfl ?_
   intro g18
   refine HO_store (i:=0) (j:=0) (us:=[]) (old:=[_,_,_,_,_,_,_,_,_,_,_,_,_,_,_,_]) (ts:=[]) (cs:=[_,_,_,_,_,_,_,_,_,_,_,_,_,_,_,_]) (R:=[_,_,_,_,_,_,_,_]) (new:=[_,_,_,_,_,_,_,_,_,_,_,_,_,_,_,_]) rfl rfl rfl Tryz.sizeOf36 rfl (by simp [Value.oneCell']) rfl rfl rfl rfl rfl rfl ?_
   refine HO_assign rfl rfl rfl ?_
   refine HO_nil ?_
   refine H_env (ρ':=[(19,_)]) ⟨rfl,trivial⟩ ?_
   refine H_world (kp [nn,nn,nn,yy,nn,nn,nn,nn,yy] [_,_] rfl) ?_
   refine H_seq ?_
   refine H_region (l:=[_,_]) rfl ?_
   refine HO_move rfl rfl rfl ?_
   refine HO_bin rfl rfl rfl rfl bin_neq ?_
   refine HO_set (v':=.bool (false)) 132 rfl (by exact congrArg Value.bool (show decide ((Net.look 0 (G.map Rw.hd).length (Net.spl (rowAt G (Net.ix 0 (G.map Rw.hd).length)).b ((4 + bit / 8 % 14 : Nat) : Int) ((bit % 8 : Nat) : Int))).2 ≠ 8) = false by rw [hb];rfl)) ?_
   refine HO_nil ?_
   refine H_env (ρ':=[(132,_)]) ⟨rfl,trivial⟩ ?_
   refine H_cond rfl (fun h => nomatch h) (fun _ => ?_)
   refine H_skip ?_
   refine H_seq ?_
   refine H_region (l:=[_,_]) rfl ?_
   refine HO_call (first:=[]) (capt:=[]) (is:=[]) (R:=[_,_]) rfl rfl rfl rfl rfl Tryz.call8 rfl lives24_spec ?_
   intro y133 hy133
   clear y133 hy133
   refine HO_assign rfl rfl rfl ?_
   refine HO_nil ?_
   refine H_env (ρ':=[(6,_)]) ⟨rfl,trivial⟩ ?_
   refine H_ret1 Tryz.results4 (.tmp rfl) (fun w hA => ⟨(),congrArg Ending.returned ?_,?_,?_⟩)
   ·(exact congrArg Value.bool (by first | rfl | assumption | simp_all))
   ·trivial
   ·exact hA.keep (m:=[nn,nn]) (Y:=[]) rfl
  intro h113
  replace h113:=dF h113
  refine H_skip ?_
  refine H_seq ?_
  refine H_region (l:=[_,_]) rfl ?_
  refine HO_call (first:=[]) (capt:=[]) (is:=[]) (R:=[_,_,_]) rfl rfl rfl rfl rfl Tryz.call8 rfl lives24_spec ?_
  intro y133 hy133
  clear y133 hy133
  refine HO_assign rfl rfl rfl ?_
  refine HO_nil ?_
  refine H_env (ρ':=[(6,_)]) ⟨rfl,trivial⟩ ?_
  refine H_world (kp [nn,nn,yy] [_] rfl) ?_
  refine H_ret1 Tryz.results4 (.tmp rfl) (fun w hA => ⟨(),congrArg Ending.returned ?_,?_,?_⟩)
  ·(exact congrArg Value.bool (by first | rfl | assumption | simp_all))
  ·trivial
  ·exact hA.keep (m:=[nn]) (Y:=[]) rfl
end Go.Wk
