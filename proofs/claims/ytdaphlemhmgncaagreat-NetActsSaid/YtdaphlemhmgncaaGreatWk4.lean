/- A small calculus of weakest preconditions over the kit's code: rules for the operations, proved for all programs. -/
import Derived.Test.YtdaphlemhmgncaaGreatWk3
import Derived.Laws.Append
import Derived.Laws.CopyRow
set_option linter.unusedVariables false
set_option linter.unusedSimpArgs false
namespace Go.Wk
open Go Go.RowKit

/-! ### Choosing facts -/
def picks {α : Type} : List Nat → List α → Option (List α × List α)
  | [], X => some ([], X)
  | i :: is, X => match picks is X with
    | some (pre, rest) => match rest[i]? with
      | some a => some (a :: pre, rest.eraseIdx i)
      | none => none
    | none => none
theorem perm_erase {α : Type} : ∀ {X : List α} {i : Nat} {a : α}, X[i]? = some a → X.Perm (a :: X.eraseIdx i)
  | [], i, a, h => by simp at h
  | x :: X, 0, a, h => by simp at h; subst h; simp
  | x :: X, i + 1, a, h => by
    simp at h
    rw [List.eraseIdx_cons_succ]
    exact ((perm_erase h).cons x).trans (List.Perm.swap _ _ _)
theorem picks_perm {α : Type} : ∀ {is : List Nat} {X pre rest : List α}, picks is X = some (pre, rest) → X.Perm (pre ++ rest)
  | [], X, pre, rest, h => by simp [picks] at h; obtain ⟨rfl, rfl⟩ := h; simp
  | i :: is, X, pre, rest, h => by
    simp only [picks] at h
    cases hp : picks is X with
    | none => simp [hp] at h
    | some q =>
      obtain ⟨p1, r1⟩ := q
      simp only [hp] at h
      cases hi : r1[i]? with
      | none => simp [hi] at h
      | some a =>
        simp [hi] at h
        obtain ⟨rfl, rfl⟩ := h
        refine (picks_perm hp).trans ?_
        refine ((perm_erase hi).append_left p1).trans ?_
        exact List.perm_middle

section
variable {P : Program} {Q : Post} {n : Nat} {k : List It} {ρ : Env} {ops : Array Oper} {rest : List Oper}
variable {w0 : World} {ok0 M : Nat → Prop} {X R : List Atom}
variable {d : Nat} {t : TypeId} {pos : String} {after : Array Edge} {g : Option (Nat × Bool)} {x y c : Operand} {v u : Value} {t' : TypeId} {A : World → Prop}

theorem Asn.get {w : World} {a : Atom} {i : Nat} (h : Asn w0 ok0 M X w) (hi : X[i]? = some a) : a.p (okX w0 ok0 X) w := h.holds a (List.mem_of_getElem? hi)
theorem Asn.drop {w : World} {Y Z : List Atom} {is : List Nat} (h : Asn w0 ok0 M X w) (hp : picks is X = some (Y, Z)) : Asn w0 ok0 M Z w :=
  (h.perm (picks_perm hp)).sub (List.sublist_append_right _ _)
theorem Asn.pick {w : World} {Y Z : List Atom} {is : List Nat} (h : Asn w0 ok0 M X w) (hp : picks is X = some (Y, Z)) : Asn w0 ok0 M (Y ++ Z) w := h.perm (picks_perm hp)
theorem Asn.only {w : World} {Y Z : List Atom} {is : List Nat} (h : Asn w0 ok0 M X w) (hp : picks is X = some (Y, Z)) : Asn w0 ok0 M Y w :=
  (h.perm (picks_perm hp)).sub (List.sublist_append_left _ _)
theorem Asn.add {w : World} {a : Atom} (h : Asn w0 ok0 M X w) (hb : a.blk = noB) (ha : a.p (okX w0 ok0 X) w) : Asn w0 ok0 M (a :: X) w := by
  have hk : ∀ b, okX w0 ok0 X b → okX w0 ok0 (a :: X) b := fun b hb' => ⟨hb'.1, fun ⟨c, hc, he⟩ => by
    rcases List.mem_cons.1 hc with rfl | hc
    · rw [hb] at he; cases he
    · exact hb'.2 ⟨c, hc, he⟩⟩
  refine ⟨h.ext, List.pairwise_cons.2 ⟨fun c _ g hg => (by rw [hb] at hg; exact absurd hg (by simp)), h.apart⟩, fun c hc g hg => ?_, fun c hc => ?_⟩
  · rcases List.mem_cons.1 hc with rfl | hc
    · rw [hb] at hg; cases hg
    · exact h.lt c hc g hg
  · rcases List.mem_cons.1 hc with rfl | hc
    · exact Atom.keep _ ha (fun _ _ => rfl) (fun b _ hk' => ⟨hk b hk', rfl⟩)
    · exact Atom.keep _ (h.holds c hc) (fun _ _ => rfl) (fun b _ hk' => ⟨hk b hk', rfl⟩)
theorem Asn.adds {w : World} : ∀ {Y : List Atom}, Asn w0 ok0 M X w → (∀ a ∈ Y, a.blk = noB ∧ a.p (okX w0 ok0 X) w) → Asn w0 ok0 M (Y ++ X) w
  | [], h, _ => h
  | a :: Y, h, hy => by
    have h1 := Asn.adds (Y := Y) h fun b hb => hy b (List.mem_cons_of_mem _ hb)
    have h2 := hy a (List.mem_cons_self ..)
    refine h1.add h2.1 (Atom.keep _ h2.2 (fun _ _ => rfl) fun b _ hk => ⟨⟨hk.1, ?_⟩, rfl⟩)
    rw [blks_append]
    rintro (⟨c, hc, he⟩ | hx)
    · rw [(hy c (List.mem_cons_of_mem _ hc)).1] at he; cases he
    · exact hk.2 hx

/-! ### Cells -/
theorem Atom.loc_cells {gb : Nat} {cs : List Value} {T : TypeId} {ok : Nat → Prop} {w : World} (h : (Atom.loc gb cs T).p ok w) : cellsAt w gb 0 cs := fun j u hj => by
  have h' : w.heap[gb]? = some (.cells cs.toArray T (0, 0)) := h
  simp only [World.cell?, h', Nat.zero_add]
  simpa using hj
theorem Atom.elem_cells {b o : Nat} {cs : List Value} {ok : Nat → Prop} {w : World} (h : (Atom.elem b o cs).p ok w) : cellsAt w b o cs := fun j u hj => by
  have hn : cs ≠ [] := by rintro rfl; simp at hj
  exact (h hn).2 j u hj
theorem add_plain (b o j : Nat) : (⟨b, o, none⟩ : Addr).add j = ⟨b, o + j, none⟩ := by
  unfold Addr.add; split <;> simp_all

inductive Tells : Atom → Nat → Nat → List Value → Prop
  | loc (gb : Nat) (cs : List Value) (T : TypeId) : Tells (.loc gb cs T) gb 0 cs
  | elem (b o : Nat) (cs : List Value) : Tells (.elem b o cs) b o cs
theorem Tells.cells {a : Atom} {b o : Nat} {cs : List Value} (h : Tells a b o cs) {ok : Nat → Prop} {w : World} (hp : a.p ok w) : cellsAt w b o cs := by
  cases h with
  | loc => exact Atom.loc_cells hp
  | elem => exact Atom.elem_cells hp

theorem run_loadVar1 {w : World} {a : Addr} (ha : (isAgg t).run P w = .ok false w) (hc : w.cell? a = some v) : (loadVar t a).run P w = .ok v w := by
  simp [loadVar, ha, hc]
theorem run_loadVarA {w : World} {b o : Nat} {cs : List Value} (ha : (isAgg t).run P w = .ok true w) (hs : (sizeOf t).run P w = .ok cs.length w) (hc : cellsAt w b o cs) : (loadVar t ⟨b, o, none⟩).run P w = .ok (.agg cs.toArray) w := by
  have := run_loadCells_list (P := P) w ⟨b, o, none⟩ cs (fun j v hj => by rw [add_plain]; exact hc j v hj)
  simp [loadVar, ha, hs, this]

theorem HO_load1 {b o q j : Nat} {cs : List Value} {a : Atom} {i : Nat} (hw : wantedB ops ρ g = some true) (hn : Nat.blt d n = true) (hx : ev ρ x = some (.pointer (some ⟨b, q, none⟩))) (ht : ∀ w, (isAgg t).run P w = .ok false w)
    (hi : X[i]? = some a) (ha : Tells a b o cs) (hq : q = o + j) (hj : cs[j]? = some v) (h : HO P Q n ops rest k ((d, v) :: ρ) (Asn w0 ok0 M X)) : HO P Q n ops (⟨some d, .load t x, t', pos, after, g⟩ :: rest) k ρ (Asn w0 ok0 M X) :=
  HO_val hw rfl hn (fun ac w hf hA => by
    subst hq
    have hc := ha.cells (hA.get hi) j v hj
    simp [execOp, hf.ev hx, Instr.loadAt, Instr.sureAddr, run_loadVar1 (ht w) hc]) h
theorem HO_loadA {b o q j m : Nat} {us cs ts : List Value} {a : Atom} {i : Nat} (hw : wantedB ops ρ g = some true) (hn : Nat.blt d n = true) (hx : ev ρ x = some (.pointer (some ⟨b, q, none⟩))) (ht : ∀ w, (isAgg t).run P w = .ok true w) (hs : ∀ w, (sizeOf t).run P w = .ok m w)
    (hi : X[i]? = some a) {all : List Value} (ha : Tells a b o all) (hall : all = us ++ (cs ++ ts)) (hm : cs.length = m) (hj : us.length = j) (hq : q = o + j) (h : HO P Q n ops rest k ((d, .agg cs.toArray) :: ρ) (Asn w0 ok0 M X)) : HO P Q n ops (⟨some d, .load t x, t', pos, after, g⟩ :: rest) k ρ (Asn w0 ok0 M X) :=
  HO_val hw rfl hn (fun ac w hf hA => by
    subst hall hm hj hq
    have hc := (ha.cells (hA.get hi)).part
    simp [execOp, hf.ev hx, Instr.loadAt, Instr.sureAddr, run_loadVarA (ht w) (hs w) hc]) h

theorem HO_fieldAddr {s f b q r : Nat} {fs : Array Field} {fd : Field} {m : Nat} (hw : wantedB ops ρ g = some true) (hn : Nat.blt d n = true) (hx : ev ρ x = some (.pointer (some ⟨b, q, none⟩)))
    (hu : P.underlying s = some (.struct fs)) (hf : fs[f]? = some fd) (hs : ∀ w, (sizeOf fd.type).run P w = .ok (m + 1) w) (hr : q + fd.offset = r) (h : HO P Q n ops rest k ((d, .pointer (some ⟨b, r, none⟩)) :: ρ) A) : HO P Q n ops (⟨some d, .fieldAddr s x f, t, pos, after, g⟩ :: rest) k ρ A :=
  HO_val hw rfl hn (fun ac w hfr hA => by
    subst hr
    simp [execOp, hfr.ev hx, Instr.fieldAt, run_underlying hu, hf, Instr.sureAddr, fieldPlace, hs w, add_plain]) h

theorem run_storeVar {w : World} {gb j : Nat} {us old ts cs : List Value} {T : TypeId} (hs : (sizeOf t).run P w = .ok cs.length w) (hv : v.cells = cs.toArray) (h1 : ∀ u ∈ cs, u.oneCell' = true)
    (hg : w.heap[gb]? = some (.cells (us ++ (old ++ ts)).toArray T (0, 0))) (hl : old.length = cs.length) (hj : us.length = j) :
    (storeVar t ⟨gb, j, none⟩ v).run P w = .ok () (w.setRow gb (us ++ (cs ++ ts)).toArray) := by
  subst hj
  have h := run_storeCells_at (P := P) gb us.length T cs 0 _ w hg (by simp; omega) h1
  have e : ((us ++ (old ++ ts)).toArray.toList.take (us.length + 0) ++ cs ++ (us ++ (old ++ ts)).toArray.toList.drop (us.length + 0 + cs.length)) = us ++ (cs ++ ts) := by
    simp only [Nat.add_zero, List.toList_toArray]
    rw [List.take_left, ← List.drop_drop, List.drop_left, ← hl, List.drop_left, List.append_assoc]
  rw [e] at h
  simp only [storeVar, Sem.run_bind, hs, Result.andThen_ok, hv]
  simp [h]

theorem Ext.setRow {w : World} {gb : Nat} {M' : Nat → Prop} (hM : M' gb) (cs : Array Value) : Ext M' w (w.setRow gb cs) :=
  ⟨rfl, rfl, rfl, by simp [World.setRow], fun b _ hb => setRow_other w gb b cs (fun e => hb (e ▸ hM))⟩

theorem HO_store {gb q j m : Nat} {us old ts cs : List Value} {T : TypeId} {i : Nat} (hw : wantedB ops ρ g = some true) (hx : ev ρ x = some (.pointer (some ⟨gb, q, none⟩))) (hy : ev ρ y = some v) (hs : ∀ w, (sizeOf t).run P w = .ok m w)
    (hv : v.cells = cs.toArray) (h1 : ∀ u ∈ cs, u.oneCell' = true) {all : List Value} (hp : picks [i] X = some ([.loc gb all T], R)) (hall : all = us ++ (old ++ ts)) (hl : old.length = m) (hm : cs.length = m) (hj : us.length = q) {new : List Value} (hnew : us ++ (cs ++ ts) = new)
    (h : HO P Q n ops rest k ρ (Asn w0 ok0 M (.loc gb new T :: R))) : HO P Q n ops (⟨none, .store t x y, t', pos, after, g⟩ :: rest) k ρ (Asn w0 ok0 M X) :=
  HO_skipw hw rfl (fun ac w hf hA => by
    subst hall hnew hj hm
    have hA' := hA.pick hp
    have hg : w.heap[gb]? = some (.cells (us ++ (old ++ ts)).toArray T (0, 0)) := hA'.holds _ (List.mem_cons_self ..)
    have hlt : gb < w.heap.size := (Array.getElem?_eq_some_iff.1 hg).1
    refine ⟨w.setRow gb (us ++ (cs ++ ts)).toArray, ?_, ?_⟩
    · simp [execOp, hf.ev hx, hf.ev hy, Instr.storeAt, Instr.sureAddr, run_storeVar (hs w) hv h1 hg hl rfl]
    · refine Asn.frame (pre := [_]) hA' ⟨Ext.setRow ⟨_, List.mem_cons_self .., rfl⟩ _, List.pairwise_singleton _ _, ?_, ?_⟩
      · intro a ha gg hgg
        rw [List.mem_singleton.1 ha] at hgg
        have hgg : gb = gg := Option.some.inj hgg
        subst hgg
        exact ⟨by simpa [World.setRow] using hlt, fun _ => ⟨_, List.mem_cons_self .., rfl⟩⟩
      · intro a ha
        rw [List.mem_singleton.1 ha]
        exact setRow_heap w gb _ _ T (0, 0) hg) h

theorem Asn.alloc {w : World} (h : Asn w0 ok0 M X w) (cs : List Value) (T : TypeId) : Asn w0 ok0 M (.loc w.heap.size cs T :: X) (w.alloc (.cells cs.toArray T)) := by
  refine Asn.frame (pre := []) (rest := X) h ⟨Ext.of_below ((Below.refl _ _).alloc (Nat.le_refl _) _), List.pairwise_singleton _ _, ?_, ?_⟩
  · intro a ha gg hgg
    rw [List.mem_singleton.1 ha] at hgg
    have hgg : w.heap.size = gg := Option.some.inj hgg
    subst hgg
    exact ⟨by simp, fun hl => absurd hl (Nat.lt_irrefl _)⟩
  · intro a ha
    rw [List.mem_singleton.1 ha]
    exact heap_alloc_new w _
theorem HO_box {cs : List Value} (hw : wantedB ops ρ g = some true) (hn : Nat.blt d n = true) (hx : ev ρ x = some v) (hv : v.cells = cs.toArray)
    (h : ∀ gb, HO P Q n ops rest k ((d, .pointer (some ⟨gb, 0, none⟩)) :: ρ) (Asn w0 ok0 M (.loc gb cs t :: X))) : HO P Q n ops (⟨some d, .box t x, t', pos, after, g⟩ :: rest) k ρ (Asn w0 ok0 M X) :=
  HO_valw (β := Nat) (val := fun gb => .pointer (some ⟨gb, 0, none⟩)) (B := fun gb => Asn w0 ok0 M (.loc gb cs t :: X)) hw rfl hn (fun ac w hf hA => by
    refine ⟨w.heap.size, w.alloc (.cells cs.toArray t), ?_, hA.alloc cs t⟩
    simp only [execOp, hf.ev hx, Instr.box, newVar, newRow, hv]
    rfl) h
theorem HO_alloc {cs : List Value} {z : Value} (hw : wantedB ops ρ g = some true) (hn : Nat.blt d n = true) (hz : ∀ w, (zeroValue t).run P w = .ok z w) (hv : z.cells = cs.toArray)
    (h : ∀ gb, HO P Q n ops rest k ((d, .pointer (some ⟨gb, 0, none⟩)) :: ρ) (Asn w0 ok0 M (.loc gb cs t :: X))) : HO P Q n ops (⟨some d, .alloc t, t', pos, after, g⟩ :: rest) k ρ (Asn w0 ok0 M X) :=
  HO_valw (β := Nat) (val := fun gb => .pointer (some ⟨gb, 0, none⟩)) (B := fun gb => Asn w0 ok0 M (.loc gb cs t :: X)) hw rfl hn (fun ac w hf hA => by
    refine ⟨w.heap.size, w.alloc (.cells cs.toArray t), ?_, hA.alloc cs t⟩
    simp only [execOp, Instr.alloc, newVar, newRow, Sem.run_bind, hz w, Result.andThen_ok, hv]
    rfl) h

/-! ### Calls -/
theorem Asn.callee {w : World} {pre : List Atom} {is : List Nat} (h : Asn w0 ok0 M X w) (hp : picks is X = some (pre, R)) {F : FuncId} {args : Array Value} {β : Type} {val : β → Value} {I : β → Prop} {new : β → List Atom} (hS : Spec P F args pre val I new) :
    Calls P F args w fun e w' => ∃ y, e = .returned (val y) ∧ I y ∧ Asn w0 ok0 M (new y ++ R) w' := by
  have hA := h.pick hp
  refine (hS w _ hA.start).mono ?_
  rintro e w' ⟨y, he, hI, hn⟩
  exact ⟨y, he, hI, hA.frame hn⟩

theorem HO_call {c : Operand} {F : FuncId} {first capt : List Value} {xs : Array Operand} {ts : Array TypeId} {vs : List Value} {β : Type} {val : β → Value} {I : β → Prop} {new : β → List Atom} {pre : List Atom} {is : List Nat} {args : Array Value}
    (hw : wantedB ops ρ g = some true) (hn : Nat.blt d n = true) (hc : ev ρ c = some (.func (.func F) first.toArray capt.toArray)) (hx : evs ρ xs.toList = some vs) (hargs : (first ++ (vs ++ capt)).toArray = args) (hcall : ∀ args w, (callFunc F args).run P w = .ok (.enter F args) w)
    (hp : picks is X = some (pre, R)) (hS : Spec P F args pre val I new)
    (h : ∀ y, I y → HO P Q n ops rest k ((d, val y) :: ρ) (Asn w0 ok0 M (new y ++ R))) :
    HO P Q n ops (⟨some d, .call ⟨.value c, xs, ts⟩, t, pos, after, g⟩ :: rest) k ρ (Asn w0 ok0 M X) := by
  intro a w hf hA
  simp only [goOps]
  rw [wanted_of (o := ⟨some d, .call ⟨.value c, xs, ts⟩, t, pos, after, g⟩) hf hw]
  simp only [if_true]
  have hvs : xs.map a.eval = vs.toArray := by rw [← evs_ev hf hx]; simp [← Array.toList_map]
  unfold Oper.wp
  have hrun : (execOp a.eval ⟨some d, .call ⟨.value c, xs, ts⟩, t, pos, after, g⟩).run P w = .ok (.enter F args) w := by
    subst hargs
    simp only [execOp, resolve, hvs, hf.ev hc, Deferred.ofValue, Sem.run_bind, Sem.run_pure, Result.andThen_ok, invoke]
    rw [show first.toArray ++ vs.toArray ++ capt.toArray = (first ++ (vs ++ capt)).toArray by simp]
    exact hcall _ _
  rw [hrun, Oper.upon_enter]
  refine (hA.callee hp hS).mono ?_
  rintro e w' ⟨y, rfl, hI, hB⟩
  exact h y hI _ _ (hf.put (by simpa [Nat.blt_eq] using hn) _) hB
/-! ### The beginning and the end -/
def envFrom : Nat → List Value → Env
  | _, [] => []
  | i, v :: vs => (i, v) :: envFrom (i + 1) vs
theorem look_envFrom : ∀ (vs : List Value) (i t : Nat) (v : Value), look (envFrom i vs) t = some v → i ≤ t ∧ vs[t - i]? = some v
  | [], i, t, v, h => by simp [envFrom, look] at h
  | u :: us, i, t, v, h => by
    simp only [envFrom, look] at h
    cases hb : Nat.beq i t with
    | true =>
      have : i = t := Nat.eq_of_beq_eq_true hb
      subst this
      simp [hb] at h
      subst h
      simp
    | false =>
      have hne : i ≠ t := Nat.ne_of_beq_eq_false hb
      simp [hb] at h
      have := look_envFrom us (i + 1) t v h
      refine ⟨by omega, ?_⟩
      rw [show t - i = (t - (i + 1)) + 1 by omega]
      simpa using this.2
theorem Spec.enter {F : FuncId} {fn : Func} {c : Code} {vs : List Value} {args : Array Value} {pre : List Atom} {β : Type} {val : β → Value} {I : β → Prop} {new : β → List Atom}
    (hf : P.funcs[F]? = some fn) (hb : fn.body = some c) (hn : fn.ntmps = n) (ha : args = vs.toArray) (hle : vs.length ≤ n)
    (h : ∀ w ok, H P (bodyPost P fn fun e w' => ∃ y, e = .returned (val y) ∧ I y ∧ Asn w ok (blks pre) (new y) w') n [.code c] (envFrom 0 vs) (Asn w ok (blks pre) pre)) : Spec P F args pre val I new := by
  intro w ok hA
  subst hn ha
  refine calls_of_wp hf hb ?_
  have h1 := h w ok { tmps := vs.toArray ++ Array.replicate (fn.ntmps - vs.toArray.size) undef, defers := [] } w ⟨by simp; omega, rfl, fun t v hv => ?_⟩ hA
  · exact wp_mono h1 fun e a w he => by cases e <;> exact he
  · obtain ⟨_, hv⟩ := look_envFrom _ _ _ _ hv
    simp only [Nat.sub_zero] at hv
    have hlt : t < vs.length := (List.getElem?_eq_some_iff.1 hv).1
    simp [Array.getElem?_append, hlt, hv]
    exact (List.getElem?_eq_some_iff.1 hv).2

inductive Res (P : Program) (ρ : Env) (A : World → Prop) : ResultVar → Value → Prop
  | tmp {t : Nat} {v : Value} (h : look ρ t = some v) : Res P ρ A (.tmp t) v
  | cell {ad : Nat} {T : TypeId} {b : Addr} {v : Value} (h : look ρ ad = some (.pointer (some b))) (hl : ∀ w, A w → (loadVar T b).run P w = .ok v w) : Res P ρ A (.cell ad T) v
def resVal (tmps : Array Value) : ResultVar → Sem Value
  | .tmp t => pure (tmps.getD t undef)
  | .cell ad T => do loadVar T (← asAddr (tmps.getD ad undef))
theorem results_eq (fn : Func) (tmps : Array Value) : results fn tmps = (do let vs ← fn.results.mapM (resVal tmps); pure (if h : vs.size = 1 then vs[0] else .tuple vs)) := by
  unfold results
  congr 2

theorem Res.run {ρ : Env} {A : World → Prop} {a : Act} {w : World} (hf : Fr n ρ a) (hA : A w) {r : ResultVar} {v : Value} (h : Res P ρ A r v) : (resVal a.tmps r).run P w = .ok v w := by
  cases h with
  | tmp h => simp [resVal, Array.getD_eq_getD_getElem?, hf.get _ _ h]
  | cell h hl => simp [resVal, Array.getD_eq_getD_getElem?, hf.get _ _ h, asAddr, hl w hA]
theorem H_ret1 {fn : Func} {R : Ending → World → Prop} {r : ResultVar} {v : Value} (hr : fn.results = #[r]) (h1 : Res P ρ A r v) (h : ∀ w, A w → R (.returned v) w) : H P (bodyPost P fn R) n (.code .ret :: k) ρ A :=
  H_ret fun a w hf hA => ⟨hf.defers, v, by
    have := h1.run hf hA
    rw [results_eq, hr]
    simp [this], h w hA⟩
theorem H_ret2 {fn : Func} {R : Ending → World → Prop} {r1 r2 : ResultVar} {v1 v2 : Value} (hr : fn.results = #[r1, r2]) (h1 : Res P ρ A r1 v1) (h2 : Res P ρ A r2 v2) (h : ∀ w, A w → R (.returned (.tuple #[v1, v2])) w) : H P (bodyPost P fn R) n (.code .ret :: k) ρ A :=
  H_ret fun a w hf hA => ⟨hf.defers, .tuple #[v1, v2], by
    have e1 := h1.run hf hA
    have e2 := h2.run hf hA
    rw [results_eq, hr]
    simp [e1, e2], h w hA⟩
theorem H_ret3 {fn : Func} {R : Ending → World → Prop} {r1 r2 r3 : ResultVar} {v1 v2 v3 : Value} (hr : fn.results = #[r1, r2, r3]) (h1 : Res P ρ A r1 v1) (h2 : Res P ρ A r2 v2) (h3 : Res P ρ A r3 v3) (h : ∀ w, A w → R (.returned (.tuple #[v1, v2, v3])) w) : H P (bodyPost P fn R) n (.code .ret :: k) ρ A :=
  H_ret fun a w hf hA => ⟨hf.defers, .tuple #[v1, v2, v3], by
    have e1 := h1.run hf hA
    have e2 := h2.run hf hA
    have e3 := h3.run hf hA
    rw [results_eq, hr]
    simp [e1, e2, e3], h w hA⟩
theorem H_end0 {fn : Func} {R : Ending → World → Prop} (hr : fn.results = #[]) (h : ∀ w, A w → R (.returned (.tuple #[])) w) : H P (bodyPost P fn R) n [] ρ A :=
  fun a w hf hA => ⟨hf.defers, .tuple #[], by
    rw [results_eq, hr]
    simp, h w hA⟩
end
end Go.Wk
