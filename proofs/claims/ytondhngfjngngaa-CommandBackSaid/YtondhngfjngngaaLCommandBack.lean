/- The law CommandBack of the commands returns true for all inputs and leaves them as they are. -/
import Derived.Test.YtondhngfjngngaaRows
import Derived.Test.YtondhngfjngngaaWkR
import Derived.Test.YtondhngfjngngaaKelaw09c
set_option linter.unusedVariables false
set_option linter.unusedSimpArgs false
namespace Go.Proofs.Ytondhngfjngngaa.commandBack
open Go.ChangeShapes Go.WideShapes Go.ChangeAt Go.RowKit Go.Wk
open Go.ChangeMaps (open_string shut_string)
theorem own : ownKnob Try.prog.godebug = none := by kernel_rfl
theorem laidOut : laidOutB Try.prog = true := by kernel_rfl
set_option maxRecDepth 100000
theorem rd_Cmd : Rd Try.prog 23 kCmd := by
  intro H enc W spare held fuel cs x h hw
  have hl := rd_size Try.underlying23 h (m := 8) (by kernel_rfl)
  obtain ⟨c0, c1, c2, c3, c4, c5, c6, c7, rfl⟩ := list8 hl
  obtain ⟨f0, z0, h0, w0⟩ := rd_field Try.underlying23 h hw (i := 0) (m := 1) rfl (by kernel_rfl)
  obtain ⟨x0, e0, b0⟩ := rd_i64 Try.underlying3 h0
  replace e0 := (List.cons.inj e0).1
  subst e0
  obtain ⟨f1, z1, h1, w1⟩ := rd_field Try.underlying23 h hw (i := 1) (m := 1) rfl (by kernel_rfl)
  obtain ⟨x1, e1, b1⟩ := rd_i64 Try.underlying3 h1
  replace e1 := (List.cons.inj e1).1
  subst e1
  obtain ⟨f2, z2, h2, w2⟩ := rd_field Try.underlying23 h hw (i := 2) (m := 1) rfl (by kernel_rfl)
  obtain ⟨x2, e2, b2⟩ := rd_i64 Try.underlying3 h2
  replace e2 := (List.cons.inj e2).1
  subst e2
  obtain ⟨f3, z3, h3, w3⟩ := rd_field Try.underlying23 h hw (i := 3) (m := 1) rfl (by kernel_rfl)
  obtain ⟨x3, e3, b3⟩ := rd_str Try.underlying9 h3 w3
  replace e3 := (List.cons.inj e3).1
  subst e3
  obtain ⟨f4, z4, h4, w4⟩ := rd_field Try.underlying23 h hw (i := 4) (m := 1) rfl (by kernel_rfl)
  obtain ⟨x4, e4, b4⟩ := rd_str Try.underlying9 h4 w4
  replace e4 := (List.cons.inj e4).1
  subst e4
  obtain ⟨f5, z5, h5, w5⟩ := rd_field Try.underlying23 h hw (i := 5) (m := 1) rfl (by kernel_rfl)
  obtain ⟨x5, e5, b5⟩ := rd_str Try.underlying9 h5 w5
  replace e5 := (List.cons.inj e5).1
  subst e5
  obtain ⟨f6, z6, h6, w6⟩ := rd_field Try.underlying23 h hw (i := 6) (m := 1) rfl (by kernel_rfl)
  obtain ⟨x6, e6, b6⟩ := rd_str Try.underlying9 h6 w6
  replace e6 := (List.cons.inj e6).1
  subst e6
  obtain ⟨f7, z7, h7, w7⟩ := rd_field Try.underlying23 h hw (i := 7) (m := 1) rfl (by kernel_rfl)
  obtain ⟨x7, e7, b7⟩ := rd_i64 Try.underlying3 h7
  replace e7 := (List.cons.inj e7).1
  subst e7
  exact ⟨⟨x0, x1, x2, x3, x4, x5, x6, x7⟩, ⟨b0, b1, b2, b3, b4, b5, b6, b7⟩, (), rfl, (fun a ha => nomatch ha)⟩
theorem rd_Pair : Rd Try.prog 102 kPair := by
  intro H enc W spare held fuel cs x h hw
  have hl := rd_size Try.underlying102 h (m := 2) (by kernel_rfl)
  obtain ⟨c0, c1, rfl⟩ := list2 hl
  obtain ⟨f0, z0, h0, w0⟩ := rd_field Try.underlying102 h hw (i := 0) (m := 1) rfl (by kernel_rfl)
  obtain ⟨x0, e0, b0⟩ := rd_str Try.underlying9 h0 w0
  replace e0 := (List.cons.inj e0).1
  subst e0
  obtain ⟨f1, z1, h1, w1⟩ := rd_field Try.underlying102 h hw (i := 1) (m := 1) rfl (by kernel_rfl)
  obtain ⟨x1, e1, b1⟩ := rd_str Try.underlying9 h1 w1
  replace e1 := (List.cons.inj e1).1
  subst e1
  exact ⟨⟨x0, x1⟩, ⟨b0, b1⟩, (), rfl, (fun a ha => nomatch ha)⟩
theorem rd_Reply : Rd Try.prog 34 kReply := by
  intro H enc W spare held fuel cs x h hw
  have hl := rd_size Try.underlying34 h (m := 5) (by kernel_rfl)
  obtain ⟨c0, c1, c2, c3, c4, rfl⟩ := list5 hl
  obtain ⟨f0, z0, h0, w0⟩ := rd_field Try.underlying34 h hw (i := 0) (m := 1) rfl (by kernel_rfl)
  obtain ⟨x0, e0, b0⟩ := rd_i64 Try.underlying31 h0
  replace e0 := (List.cons.inj e0).1
  subst e0
  obtain ⟨f1, z1, h1, w1⟩ := rd_field Try.underlying34 h hw (i := 1) (m := 1) rfl (by kernel_rfl)
  obtain ⟨x1, e1⟩ := rd_bool Try.underlying4 h1
  replace e1 := (List.cons.inj e1).1
  subst e1
  obtain ⟨f2, z2, h2, w2⟩ := rd_field Try.underlying34 h hw (i := 2) (m := 1) rfl (by kernel_rfl)
  obtain ⟨x2, e2, b2⟩ := rd_str Try.underlying9 h2 w2
  replace e2 := (List.cons.inj e2).1
  subst e2
  obtain ⟨f3, z3, h3, w3⟩ := rd_field Try.underlying34 h hw (i := 3) (m := 1) rfl (by kernel_rfl)
  obtain ⟨x3, e3, b3⟩ := rd_i64 Try.underlying3 h3
  replace e3 := (List.cons.inj e3).1
  subst e3
  obtain ⟨f4, z4, h4, w4⟩ := rd_field Try.underlying34 h hw (i := 4) (m := 1) rfl (by kernel_rfl)
  obtain ⟨a4, q4, x4, e4, b4, d4⟩ := rd_slice (kd := kPair) Try.underlying32 (by kernel_rfl) (by decide) (by decide +kernel) rd_Pair h4 w4
  replace e4 := (List.cons.inj e4).1
  subst e4
  exact ⟨⟨x0, x1, x2, x3, x4⟩, ⟨b0, b2, b3, b4⟩, ⟨a4, q4⟩, rfl, (by intro a ha; simp only [List.mem_cons, List.not_mem_nil, or_false] at ha; rcases ha with rfl <;> first | exact d4)⟩
set_option maxRecDepth 100000 in
theorem lifted (os : Os) (started : os.Started) (H : Type) (enc : TypeId × Value → H) :
    ReturnsInHanded {} Try.checked os 10 .any (Rows.commandBackSpec.pre6 enc Try.prog Try.f10 Rows.commandBackRow.domain false) (Rows.commandBackSpec.post enc Try.prog Try.f10 false true false false) := by
  refine returnsInHanded_of_change_sized (C := Try.checked) own started (by kernel_rfl) Try.func10
    (ChangeSpec.witness6 (enc := enc) (C := Try.checked) false ⟨#[], #[.agg #[.int .i64 (0), .int .i64 (0), .int .i64 (0), .string (ByteArray.empty), .string (ByteArray.empty), .string (ByteArray.empty), .string (ByteArray.empty), .int .i64 (0)], .agg #[.int .i64 (0), .bool (false), .string (ByteArray.empty), .int .i64 (0), .slice none 0 0]], []⟩ 8 (by kernel_rfl) (by kernel_rfl) (by kernel_rfl) (by kernel_rfl)) ?_
  intro W base args ds gs before hval0 hW hcnd hsz0 _
  have hval : ∀ (j : Nat) t v, Try.f10.params[j]? = some t → args[j]? = some v → Value.okWide Try.prog W .any base t v := hval0
  have hsz : (DataW.weightsEach Try.prog (Try.f10.params.toList ++ Rows.commandBackSpec.plain.varTypes Try.prog) (ds ++ gs)).all (· ≤ reachBytes) = true := hsz0
  have hW' := hW
  obtain ⟨p, q, hA0, hV, rfl, hfz, hnd⟩ := hW
  have hA : DataW.TrodAll enc Try.prog W 0 (fun _ => true) true Try.f10.params.toList args.toList ds p := hA0
  rw [Try.params10] at hA hval hsz
  obtain ⟨v0, vs0, d0, ds0, p0, q0, hargs, rfl, rfl, h0, r0⟩ := trodAll_cons hA
  obtain ⟨v1, vs1, d1, ds1, p1, q1, rfl, rfl, rfl, h1, r1⟩ := trodAll_cons r0
  obtain ⟨rfl, rfl, rfl⟩ := trodAll_nil r1
  obtain rfl : args = #[v0, v1] := by cases args; simp_all
  obtain ⟨rfl, rfl⟩ := trodVars_none hV
  have k0 := h0
  have lt0 : ∀ x ∈ p0, x.block < W.heap.size := by obtain ⟨m, hm⟩ := k0; exact DataW.trod_lt m _ _ _ hm
  obtain ⟨cs0, rfl, hz0⟩ := okWide_struct Try.underlying23 (hval 0 23 v0 rfl rfl)
  obtain ⟨c0_0, c0_1, c0_2, c0_3, c0_4, c0_5, c0_6, c0_7, rfl⟩ := arr8 (hz0.trans (by kernel_rfl))
  obtain ⟨fuel0, hf0⟩ := h0
  replace hf0 : DataW.trod enc Try.prog W 0 (fun _ => true) true fuel0 23 [c0_0, c0_1, c0_2, c0_3, c0_4, c0_5, c0_6, c0_7] = some (d0, p0) := hf0
  obtain ⟨x0, hx0⟩ := rd_Cmd hf0 (weigh hsz (j := 0) rfl rfl)
  obtain ⟨I0, y0, e0, F0⟩ := open_Cmd.out hx0
  simp only [List.cons.injEq, and_true] at e0
  obtain ⟨rfl, rfl, rfl, rfl, rfl, rfl, rfl, rfl⟩ := e0
  have k1 := h1
  have lt1 : ∀ x ∈ p1, x.block < W.heap.size := by obtain ⟨m, hm⟩ := k1; exact DataW.trod_lt m _ _ _ hm
  obtain ⟨cs1, rfl, hz1⟩ := okWide_struct Try.underlying34 (hval 1 34 v1 rfl rfl)
  obtain ⟨c1_0, c1_1, c1_2, c1_3, c1_4, rfl⟩ := arr5 (hz1.trans (by kernel_rfl))
  obtain ⟨fuel1, hf1⟩ := h1
  replace hf1 : DataW.trod enc Try.prog W 0 (fun _ => true) true fuel1 34 [c1_0, c1_1, c1_2, c1_3, c1_4] = some (d1, p1) := hf1
  obtain ⟨x1, hx1⟩ := rd_Reply hf1 (weigh hsz (j := 1) rfl rfl)
  obtain ⟨I1, y1, e1, F1⟩ := open_Reply.out hx1
  simp only [List.cons.injEq, and_true] at e1
  obtain ⟨rfl, rfl, rfl, rfl, rfl⟩ := e1
  have g1_0 := (F1 _ (List.mem_cons_self ..)).2
  clear hA0 hval0 hsz0 hsz
  refine ((CommandBack_spec x0.kind x0.sess x0.seq x0.key x0.old x0.val x0.til x0.lim x1.err x1.found x1.val x1.sess x1.pairs y1.1 y1.2 I0.2.2.2.1 I0.2.2.2.2.1 I0.2.2.2.2.2.1 I0.2.2.2.2.2.2.1 ⟨I0.1, I0.2.1, I0.2.2.1, I0.2.2.2.2.2.2.2⟩ I1.1 I1.2.2.1 I1.2.1 I1.2.2.2).law (w := W) (by intro a ha; simp only [List.mem_cons, List.not_mem_nil, or_false] at ha; rcases ha with rfl <;> rfl) (by intro a ha; simp only [List.mem_cons, List.not_mem_nil, or_false] at ha; rcases ha with rfl <;> (first | exact g1_0)) (fun _ _ => rfl)).mono fun e W' ⟨he, bel⟩ => ?_
  subst he
  exact ⟨_, rfl, _, _, _, [], _, [], hW', trodAll_mk1 (shut_bool Try.underlying4 _), (trodAll_cons_mk (Below.trod laidOut (by kernel_rfl) (of_decide_eq_true (by kernel_rfl)) k0 bel lt0) (trodAll_cons_mk (Below.trod laidOut (by kernel_rfl) (of_decide_eq_true (by kernel_rfl)) k1 bel lt1) trodAll_mk0)), rfl, bel.frame _, fun h => by cases h⟩
theorem over : Rows.commandBackRow.holds Try.pinned (OpenSpec.ofChange Rows.commandBackSpec) :=
  OpenClaim.holds_of_wide 10 Try.f10 rfl rfl rfl rfl rfl rfl rfl ⟨rfl, rfl, rfl, rfl, rfl⟩ rfl rfl rfl rfl rfl (by kernel_rfl) Try.func10 (by kernel_rfl)
    (of_decide_eq_true (by kernel_rfl)) (by unfold Func.isWrapper; first | (rw [if_pos (by decide +kernel)]; kernel_rfl) | (rw [if_neg (by decide +kernel)]; exact ⟨rfl, rfl⟩))
    (fun os started H enc _ => lifted os started H enc)
theorem proved : Rows.CommandBackSaid := over
end Go.Proofs.Ytondhngfjngngaa.commandBack
namespace Go.Proofs.Ytondhngfjngngaa
theorem commandBack_holds : Rows.CommandBackSaid := commandBack.proved
#print axioms commandBack_holds
end Go.Proofs.Ytondhngfjngngaa
