/- The law EntryBack of the entries returns true for all inputs and leaves them as they are. -/
import Derived.Test.YtondhngfjngngaaRows
import Derived.Test.YtondhngfjngngaaWkR
import Derived.Test.YtondhngfjngngaaKelaw10b
set_option linter.unusedVariables false
set_option linter.unusedSimpArgs false
namespace Go.Proofs.Ytondhngfjngngaa.entryBack
open Go.ChangeShapes Go.WideShapes Go.ChangeAt Go.RowKit Go.Wk
open Go.ChangeMaps (open_string shut_string)
theorem own : ownKnob Try.prog.godebug = none := by kernel_rfl
theorem laidOut : laidOutB Try.prog = true := by kernel_rfl
set_option maxRecDepth 100000
theorem rd_Ent : Rd Try.prog 61 kEnt := by
  intro H enc W spare held fuel cs x h hw
  have hl := rd_size Try.underlying61 h (m := 13) (by kernel_rfl)
  obtain ⟨c0, c1, c2, c3, c4, c5, c6, c7, c8, c9, c10, c11, c12, rfl⟩ := list13 hl
  obtain ⟨f0, z0, h0, w0⟩ := rd_field Try.underlying61 h hw (i := 0) (m := 1) rfl (by kernel_rfl)
  obtain ⟨x0, e0, b0⟩ := rd_i64 Try.underlying3 h0
  replace e0 := (List.cons.inj e0).1
  subst e0
  obtain ⟨f1, z1, h1, w1⟩ := rd_field Try.underlying61 h hw (i := 1) (m := 1) rfl (by kernel_rfl)
  obtain ⟨x1, e1, b1⟩ := rd_i64 Try.underlying3 h1
  replace e1 := (List.cons.inj e1).1
  subst e1
  obtain ⟨f2, z2, h2, w2⟩ := rd_field Try.underlying61 h hw (i := 2) (m := 1) rfl (by kernel_rfl)
  obtain ⟨x2, e2, b2⟩ := rd_i64 Try.underlying3 h2
  replace e2 := (List.cons.inj e2).1
  subst e2
  obtain ⟨f3, z3, h3, w3⟩ := rd_field Try.underlying61 h hw (i := 3) (m := 8) rfl (by kernel_rfl)
  replace h3 : DataW.trod enc Try.prog W 0 spare held f3 23 [c3, c4, c5, c6, c7, c8, c9, c10] = some z3 := h3
  obtain ⟨f4, z4, h4, w4⟩ := rd_field Try.underlying23 h3 w3 (i := 0) (m := 1) rfl (by kernel_rfl)
  obtain ⟨x3, e3, b3⟩ := rd_i64 Try.underlying3 h4
  replace e3 := (List.cons.inj e3).1
  subst e3
  obtain ⟨f5, z5, h5, w5⟩ := rd_field Try.underlying23 h3 w3 (i := 1) (m := 1) rfl (by kernel_rfl)
  obtain ⟨x4, e4, b4⟩ := rd_i64 Try.underlying3 h5
  replace e4 := (List.cons.inj e4).1
  subst e4
  obtain ⟨f6, z6, h6, w6⟩ := rd_field Try.underlying23 h3 w3 (i := 2) (m := 1) rfl (by kernel_rfl)
  obtain ⟨x5, e5, b5⟩ := rd_i64 Try.underlying3 h6
  replace e5 := (List.cons.inj e5).1
  subst e5
  obtain ⟨f7, z7, h7, w7⟩ := rd_field Try.underlying23 h3 w3 (i := 3) (m := 1) rfl (by kernel_rfl)
  obtain ⟨x6, e6, b6⟩ := rd_str Try.underlying9 h7 w7
  replace e6 := (List.cons.inj e6).1
  subst e6
  obtain ⟨f8, z8, h8, w8⟩ := rd_field Try.underlying23 h3 w3 (i := 4) (m := 1) rfl (by kernel_rfl)
  obtain ⟨x7, e7, b7⟩ := rd_str Try.underlying9 h8 w8
  replace e7 := (List.cons.inj e7).1
  subst e7
  obtain ⟨f9, z9, h9, w9⟩ := rd_field Try.underlying23 h3 w3 (i := 5) (m := 1) rfl (by kernel_rfl)
  obtain ⟨x8, e8, b8⟩ := rd_str Try.underlying9 h9 w9
  replace e8 := (List.cons.inj e8).1
  subst e8
  obtain ⟨f10, z10, h10, w10⟩ := rd_field Try.underlying23 h3 w3 (i := 6) (m := 1) rfl (by kernel_rfl)
  obtain ⟨x9, e9, b9⟩ := rd_str Try.underlying9 h10 w10
  replace e9 := (List.cons.inj e9).1
  subst e9
  obtain ⟨f11, z11, h11, w11⟩ := rd_field Try.underlying23 h3 w3 (i := 7) (m := 1) rfl (by kernel_rfl)
  obtain ⟨x10, e10, b10⟩ := rd_i64 Try.underlying3 h11
  replace e10 := (List.cons.inj e10).1
  subst e10
  obtain ⟨f12, z12, h12, w12⟩ := rd_field Try.underlying61 h hw (i := 4) (m := 2) rfl (by kernel_rfl)
  replace h12 : DataW.trod enc Try.prog W 0 spare held f12 45 [c11, c12] = some z12 := h12
  obtain ⟨f13, z13, h13, w13⟩ := rd_field Try.underlying45 h12 w12 (i := 0) (m := 1) rfl (by kernel_rfl)
  obtain ⟨a11, q11, x11, e11, b11, d11⟩ := rd_slice (kd := kInt) Try.underlying43 (by kernel_rfl) (by decide) (by decide +kernel) (Rd.int Try.underlying3) h13 w13
  replace e11 := (List.cons.inj e11).1
  subst e11
  obtain ⟨f14, z14, h14, w14⟩ := rd_field Try.underlying45 h12 w12 (i := 1) (m := 1) rfl (by kernel_rfl)
  obtain ⟨a12, q12, x12, e12, b12, d12⟩ := rd_slice (kd := kInt) Try.underlying43 (by kernel_rfl) (by decide) (by decide +kernel) (Rd.int Try.underlying3) h14 w14
  replace e12 := (List.cons.inj e12).1
  subst e12
  exact ⟨⟨x0, x1, x2, ⟨x3, x4, x5, x6, x7, x8, x9, x10⟩, ⟨x11, x12⟩⟩, ⟨b0, b1, b2, b3, b4, b5, b6, b7, b8, b9, b10, b11, b12⟩, ⟨⟨a11, q11⟩, ⟨a12, q12⟩⟩, rfl, (by intro a ha; simp only [List.mem_cons, List.not_mem_nil, or_false] at ha; rcases ha with rfl | rfl <;> first | exact d11 | exact d12)⟩
theorem rd_Hard : Rd Try.prog 49 kHard := by
  intro H enc W spare held fuel cs x h hw
  have hl := rd_size Try.underlying49 h (m := 3) (by kernel_rfl)
  obtain ⟨c0, c1, c2, rfl⟩ := list3 hl
  obtain ⟨f0, z0, h0, w0⟩ := rd_field Try.underlying49 h hw (i := 0) (m := 1) rfl (by kernel_rfl)
  obtain ⟨x0, e0, b0⟩ := rd_i64 Try.underlying3 h0
  replace e0 := (List.cons.inj e0).1
  subst e0
  obtain ⟨f1, z1, h1, w1⟩ := rd_field Try.underlying49 h hw (i := 1) (m := 1) rfl (by kernel_rfl)
  obtain ⟨x1, e1, b1⟩ := rd_i64 Try.underlying3 h1
  replace e1 := (List.cons.inj e1).1
  subst e1
  obtain ⟨f2, z2, h2, w2⟩ := rd_field Try.underlying49 h hw (i := 2) (m := 1) rfl (by kernel_rfl)
  obtain ⟨x2, e2, b2⟩ := rd_i64 Try.underlying3 h2
  replace e2 := (List.cons.inj e2).1
  subst e2
  exact ⟨⟨x0, x1, x2⟩, ⟨b0, b1, b2⟩, (), rfl, (fun a ha => nomatch ha)⟩
theorem rd_Snap : Rd Try.prog 47 kSnap := by
  intro H enc W spare held fuel cs x h hw
  have hl := rd_size Try.underlying47 h (m := 5) (by kernel_rfl)
  obtain ⟨c0, c1, c2, c3, c4, rfl⟩ := list5 hl
  obtain ⟨f0, z0, h0, w0⟩ := rd_field Try.underlying47 h hw (i := 0) (m := 1) rfl (by kernel_rfl)
  obtain ⟨x0, e0, b0⟩ := rd_i64 Try.underlying3 h0
  replace e0 := (List.cons.inj e0).1
  subst e0
  obtain ⟨f1, z1, h1, w1⟩ := rd_field Try.underlying47 h hw (i := 1) (m := 1) rfl (by kernel_rfl)
  obtain ⟨x1, e1, b1⟩ := rd_i64 Try.underlying3 h1
  replace e1 := (List.cons.inj e1).1
  subst e1
  obtain ⟨f2, z2, h2, w2⟩ := rd_field Try.underlying47 h hw (i := 2) (m := 2) rfl (by kernel_rfl)
  replace h2 : DataW.trod enc Try.prog W 0 spare held f2 45 [c2, c3] = some z2 := h2
  obtain ⟨f3, z3, h3, w3⟩ := rd_field Try.underlying45 h2 w2 (i := 0) (m := 1) rfl (by kernel_rfl)
  obtain ⟨a2, q2, x2, e2, b2, d2⟩ := rd_slice (kd := kInt) Try.underlying43 (by kernel_rfl) (by decide) (by decide +kernel) (Rd.int Try.underlying3) h3 w3
  replace e2 := (List.cons.inj e2).1
  subst e2
  obtain ⟨f4, z4, h4, w4⟩ := rd_field Try.underlying45 h2 w2 (i := 1) (m := 1) rfl (by kernel_rfl)
  obtain ⟨a3, q3, x3, e3, b3, d3⟩ := rd_slice (kd := kInt) Try.underlying43 (by kernel_rfl) (by decide) (by decide +kernel) (Rd.int Try.underlying3) h4 w4
  replace e3 := (List.cons.inj e3).1
  subst e3
  obtain ⟨f5, z5, h5, w5⟩ := rd_field Try.underlying47 h hw (i := 3) (m := 1) rfl (by kernel_rfl)
  obtain ⟨a4, q4, x4, e4, b4, d4⟩ := rd_slice (kd := kByte) Try.underlying28 (by kernel_rfl) (by decide) (by decide +kernel) (Rd.byte Try.underlying5) h5 w5
  replace e4 := (List.cons.inj e4).1
  subst e4
  exact ⟨⟨x0, x1, ⟨x2, x3⟩, x4⟩, ⟨b0, b1, b2, b3, b4⟩, ⟨⟨a2, q2⟩, ⟨a3, q3⟩, ⟨a4, q4⟩⟩, rfl, (by intro a ha; simp only [List.mem_cons, List.not_mem_nil, or_false] at ha; rcases ha with rfl | rfl | rfl <;> first | exact d2 | exact d3 | exact d4)⟩
set_option maxRecDepth 100000 in
theorem lifted (os : Os) (started : os.Started) (H : Type) (enc : TypeId × Value → H) :
    ReturnsInHanded {} Try.checked os 12 .any (Rows.entryBackSpec.pre6 enc Try.prog Try.f12 Rows.entryBackRow.domain false) (Rows.entryBackSpec.post enc Try.prog Try.f12 false true false false) := by
  refine returnsInHanded_of_change_sized (C := Try.checked) own started (by kernel_rfl) Try.func12
    (ChangeSpec.witness6 (enc := enc) (C := Try.checked) false ⟨#[], #[.agg #[.int .i64 (0), .int .i64 (0), .int .i64 (0), .int .i64 (0), .int .i64 (0), .int .i64 (0), .string (ByteArray.empty), .string (ByteArray.empty), .string (ByteArray.empty), .string (ByteArray.empty), .int .i64 (0), .slice none 0 0, .slice none 0 0], .agg #[.int .i64 (0), .int .i64 (0), .int .i64 (0)], .agg #[.int .i64 (0), .int .i64 (0), .slice none 0 0, .slice none 0 0, .slice none 0 0]], []⟩ 8 (by kernel_rfl) (by kernel_rfl) (by kernel_rfl) (by kernel_rfl)) ?_
  intro W base args ds gs before hval0 hW hcnd hsz0 _
  have hval : ∀ (j : Nat) t v, Try.f12.params[j]? = some t → args[j]? = some v → Value.okWide Try.prog W .any base t v := hval0
  have hsz : (DataW.weightsEach Try.prog (Try.f12.params.toList ++ Rows.entryBackSpec.plain.varTypes Try.prog) (ds ++ gs)).all (· ≤ reachBytes) = true := hsz0
  have hW' := hW
  obtain ⟨p, q, hA0, hV, rfl, hfz, hnd⟩ := hW
  have hA : DataW.TrodAll enc Try.prog W 0 (fun _ => true) true Try.f12.params.toList args.toList ds p := hA0
  rw [Try.params12] at hA hval hsz
  obtain ⟨v0, vs0, d0, ds0, p0, q0, hargs, rfl, rfl, h0, r0⟩ := trodAll_cons hA
  obtain ⟨v1, vs1, d1, ds1, p1, q1, rfl, rfl, rfl, h1, r1⟩ := trodAll_cons r0
  obtain ⟨v2, vs2, d2, ds2, p2, q2, rfl, rfl, rfl, h2, r2⟩ := trodAll_cons r1
  obtain ⟨rfl, rfl, rfl⟩ := trodAll_nil r2
  obtain rfl : args = #[v0, v1, v2] := by cases args; simp_all
  obtain ⟨rfl, rfl⟩ := trodVars_none hV
  have k0 := h0
  have lt0 : ∀ x ∈ p0, x.block < W.heap.size := by obtain ⟨m, hm⟩ := k0; exact DataW.trod_lt m _ _ _ hm
  obtain ⟨cs0, rfl, hz0⟩ := okWide_struct Try.underlying61 (hval 0 61 v0 rfl rfl)
  obtain ⟨c0_0, c0_1, c0_2, c0_3, c0_4, c0_5, c0_6, c0_7, c0_8, c0_9, c0_10, c0_11, c0_12, rfl⟩ := arr13 (hz0.trans (by kernel_rfl))
  obtain ⟨fuel0, hf0⟩ := h0
  replace hf0 : DataW.trod enc Try.prog W 0 (fun _ => true) true fuel0 61 [c0_0, c0_1, c0_2, c0_3, c0_4, c0_5, c0_6, c0_7, c0_8, c0_9, c0_10, c0_11, c0_12] = some (d0, p0) := hf0
  obtain ⟨x0, hx0⟩ := rd_Ent hf0 (weigh hsz (j := 0) rfl rfl)
  obtain ⟨I0, y0, e0, F0⟩ := open_Ent.out hx0
  simp only [List.cons.injEq, and_true] at e0
  obtain ⟨rfl, rfl, rfl, rfl, rfl, rfl, rfl, rfl, rfl, rfl, rfl, rfl, rfl⟩ := e0
  have g0_0 := (F0 _ (List.mem_cons_self ..)).2
  have g0_1 := (F0 _ (List.mem_cons_of_mem _ (List.mem_cons_self ..))).2
  have k1 := h1
  have lt1 : ∀ x ∈ p1, x.block < W.heap.size := by obtain ⟨m, hm⟩ := k1; exact DataW.trod_lt m _ _ _ hm
  obtain ⟨cs1, rfl, hz1⟩ := okWide_struct Try.underlying49 (hval 1 49 v1 rfl rfl)
  obtain ⟨c1_0, c1_1, c1_2, rfl⟩ := arr3 (hz1.trans (by kernel_rfl))
  obtain ⟨fuel1, hf1⟩ := h1
  replace hf1 : DataW.trod enc Try.prog W 0 (fun _ => true) true fuel1 49 [c1_0, c1_1, c1_2] = some (d1, p1) := hf1
  obtain ⟨x1, hx1⟩ := rd_Hard hf1 (weigh hsz (j := 1) rfl rfl)
  obtain ⟨I1, y1, e1, F1⟩ := open_Hard.out hx1
  simp only [List.cons.injEq, and_true] at e1
  obtain ⟨rfl, rfl, rfl⟩ := e1
  have k2 := h2
  have lt2 : ∀ x ∈ p2, x.block < W.heap.size := by obtain ⟨m, hm⟩ := k2; exact DataW.trod_lt m _ _ _ hm
  obtain ⟨cs2, rfl, hz2⟩ := okWide_struct Try.underlying47 (hval 2 47 v2 rfl rfl)
  obtain ⟨c2_0, c2_1, c2_2, c2_3, c2_4, rfl⟩ := arr5 (hz2.trans (by kernel_rfl))
  obtain ⟨fuel2, hf2⟩ := h2
  replace hf2 : DataW.trod enc Try.prog W 0 (fun _ => true) true fuel2 47 [c2_0, c2_1, c2_2, c2_3, c2_4] = some (d2, p2) := hf2
  obtain ⟨x2, hx2⟩ := rd_Snap hf2 (weigh hsz (j := 2) rfl rfl)
  obtain ⟨I2, y2, e2, F2⟩ := open_Snap.out hx2
  simp only [List.cons.injEq, and_true] at e2
  obtain ⟨rfl, rfl, rfl, rfl, rfl⟩ := e2
  have g2_0 := (F2 _ (List.mem_cons_self ..)).2
  have g2_1 := (F2 _ (List.mem_cons_of_mem _ (List.mem_cons_self ..))).2
  have g2_2 := (F2 _ (List.mem_cons_of_mem _ (List.mem_cons_of_mem _ (List.mem_cons_self ..)))).2
  clear hA0 hval0 hsz0 hsz
  refine ((EntryBack_spec x0.idx x0.term x0.kind x0.cmd.kind x0.cmd.sess x0.cmd.seq x0.cmd.key x0.cmd.old x0.cmd.val x0.cmd.til x0.cmd.lim x0.conf.vot x0.conf.lea y0.1.1 y0.1.2 y0.2.1 y0.2.2 x1.term x1.vote x1.commit x2.idx x2.term x2.conf.vot x2.conf.lea y2.1.1 y2.1.2 y2.2.1.1 y2.2.1.2 x2.data y2.2.2.1 y2.2.2.2 I0.2.2.2.2.2.2.1 I0.2.2.2.2.2.2.2.1 I0.2.2.2.2.2.2.2.2.1 I0.2.2.2.2.2.2.2.2.2.1 I0.2.2.2.2.2.2.2.2.2.2.2.1 I0.2.2.2.2.2.2.2.2.2.2.2.2 ⟨I0.1, I0.2.1, I0.2.2.1⟩ ⟨I0.2.2.2.1, I0.2.2.2.2.1, I0.2.2.2.2.2.1, I0.2.2.2.2.2.2.2.2.2.2.1⟩ (Ent.rows_rng g0_0) (Ent.rows_rng g0_1) ⟨I1.1, I1.2.1, I1.2.2⟩ I2.2.2.2.2 I2.2.2.1 I2.2.2.2.1 ⟨I2.1, I2.2.1⟩ (Ent.rows_rng g2_0) (Ent.rows_rng g2_1)).law (w := W) (by intro a ha; simp only [List.mem_cons, List.not_mem_nil, or_false] at ha; rcases ha with rfl | rfl | rfl | rfl | rfl <;> rfl) (by intro a ha; simp only [List.mem_cons, List.not_mem_nil, or_false] at ha; rcases ha with rfl | rfl | rfl | rfl | rfl <;> (first | exact g0_0 | exact g0_1 | exact g2_0 | exact g2_1 | exact g2_2)) (fun _ _ => rfl)).mono fun e W' ⟨he, bel⟩ => ?_
  subst he
  exact ⟨_, rfl, _, _, _, [], _, [], hW', trodAll_mk1 (shut_bool Try.underlying4 _), (trodAll_cons_mk (Below.trod laidOut (by kernel_rfl) (of_decide_eq_true (by kernel_rfl)) k0 bel lt0) (trodAll_cons_mk (Below.trod laidOut (by kernel_rfl) (of_decide_eq_true (by kernel_rfl)) k1 bel lt1) (trodAll_cons_mk (Below.trod laidOut (by kernel_rfl) (of_decide_eq_true (by kernel_rfl)) k2 bel lt2) trodAll_mk0))), rfl, bel.frame _, fun h => by cases h⟩
theorem over : Rows.entryBackRow.holds Try.pinned (OpenSpec.ofChange Rows.entryBackSpec) :=
  OpenClaim.holds_of_wide 12 Try.f12 rfl rfl rfl rfl rfl rfl rfl ⟨rfl, rfl, rfl, rfl, rfl⟩ rfl rfl rfl rfl rfl (by kernel_rfl) Try.func12 (by kernel_rfl)
    (of_decide_eq_true (by kernel_rfl)) (by unfold Func.isWrapper; first | (rw [if_pos (by decide +kernel)]; kernel_rfl) | (rw [if_neg (by decide +kernel)]; exact ⟨rfl, rfl⟩))
    (fun os started H enc _ => lifted os started H enc)
theorem proved : Rows.EntryBackSaid := over
end Go.Proofs.Ytondhngfjngngaa.entryBack
namespace Go.Proofs.Ytondhngfjngngaa
theorem entryBack_holds : Rows.EntryBackSaid := entryBack.proved
#print axioms entryBack_holds
end Go.Proofs.Ytondhngfjngngaa
