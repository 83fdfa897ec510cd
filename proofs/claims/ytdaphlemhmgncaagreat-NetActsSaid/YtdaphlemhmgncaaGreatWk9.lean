/- A small calculus of weakest preconditions over the kit's code: rules for the operations, proved for all programs. -/
import Derived.Test.YtdaphlemhmgncaaGreatWk8
import Derived.OrdersHeld
set_option linter.unusedVariables false
set_option linter.unusedSimpArgs false
namespace Go.Wk
open Go Go.RowKit
section
variable {P : Program} {Q : Post} {n : Nat} {k : List It} {ρ : Env} {ops : Array Oper} {rest : List Oper}
variable {w0 : World} {ok0 M : Nat → Prop} {X R : List Atom}
variable {d : Nat} {t : TypeId} {pos : String} {after : Array Edge} {g : Option (Nat × Bool)} {x y c : Operand} {v u : Value} {t' : TypeId} {A : World → Prop}
def Val (P : Program) (n : Nat) (ρ : Env) (A : World → Prop) (o : Oper) (v : Value) : Prop := ∀ a w, Fr n ρ a → A w → (execOp a.eval o).run P w = .ok (.value v) w
theorem V_move  (hx : ev ρ x = some v)  : Val P n ρ A ⟨some d, .move x, t, pos, after, g⟩ (v) :=
  fun a w hf _ => by simp only [execOp, hf.ev hx]; rfl
theorem V_assign  (hx : ev ρ x = some v)  : Val P n ρ A ⟨some d, .assign x, t, pos, after, g⟩ (v) :=
  fun a w hf _ => by simp only [execOp, hf.ev hx]; rfl
theorem V_pick_f  (hc : ev ρ c = some (.bool false)) (hy : ev ρ y = some v)  : Val P n ρ A ⟨some d, .pick c x y, t, pos, after, g⟩ (v) :=
  fun a w hf _ => by simp only [execOp, hf.ev hy, hf.ev hc]; rfl
theorem V_nilCheck {ad : Addr}  (hx : ev ρ x = some (.pointer (some ad)))  : Val P n ρ A ⟨some d, .nilCheck x, t, pos, after, g⟩ (.pointer (some ad)) :=
  fun a w hf _ => by simp only [execOp, hf.ev hx]; rfl
theorem V_not {b : Bool}  (hx : ev ρ x = some (.bool b))  : Val P n ρ A ⟨some d, .unOp .not t' x, t, pos, after, g⟩ (.bool (!b)) :=
  fun a w hf _ => by simp only [execOp, hf.ev hx]; rfl
theorem V_extract {vs : List Value} {i : Nat}  (hx : ev ρ x = some (.tuple vs.toArray)) (hi : vs[i]? = some v)  : Val P n ρ A ⟨some d, .extract x i, t, pos, after, g⟩ (v) :=
  fun a w hf _ => by simp [execOp, hf.ev hx, Instr.extract, hi]
theorem V_bin {op : BinOp} {xt yt : TypeId}  (hx : ev ρ x = some v) (hy : ev ρ y = some u) {r : Value} (hr : BinR P op xt x y v u r)  : Val P n ρ A ⟨some d, .binOp op xt x y yt, t, pos, after, g⟩ (r) :=
  fun a w hf _ => by
    simp only [execOp, hf.ev hx, hf.ev hy, Sem.run_bind]
    have := hr w
    simp only [Sem.run_bind] at this
    rw [this]
    rfl
theorem V_load1 {b o q j : Nat} {cs : List Value} {a : Atom} {i : Nat}  (hx : ev ρ x = some (.pointer (some ⟨b, q, none⟩))) (ht : ∀ w, (isAgg t).run P w = .ok false w)
    (hi : X[i]? = some a) (ha : Tells a b o cs) (hq : q = o + j) (hj : cs[j]? = some v)  : Val P n ρ (Asn w0 ok0 M X) ⟨some d, .load t x, t', pos, after, g⟩ (v) :=
  fun ac w hf hA => by
    subst hq
    have hc := ha.cells (hA.get hi) j v hj
    simp [execOp, hf.ev hx, Instr.loadAt, Instr.sureAddr, run_loadVar1 (ht w) hc]
theorem V_loadA {b o q j m : Nat} {us cs ts : List Value} {a : Atom} {i : Nat}  (hx : ev ρ x = some (.pointer (some ⟨b, q, none⟩))) (ht : ∀ w, (isAgg t).run P w = .ok true w) (hs : ∀ w, (sizeOf t).run P w = .ok m w)
    (hi : X[i]? = some a) {all : List Value} (ha : Tells a b o all) (hall : all = us ++ (cs ++ ts)) (hm : cs.length = m) (hj : us.length = j) (hq : q = o + j)  : Val P n ρ (Asn w0 ok0 M X) ⟨some d, .load t x, t', pos, after, g⟩ (.agg cs.toArray) :=
  fun ac w hf hA => by
    subst hall hm hj hq
    have hc := (ha.cells (hA.get hi)).part
    simp [execOp, hf.ev hx, Instr.loadAt, Instr.sureAddr, run_loadVarA (ht w) (hs w) hc]
theorem V_fieldAddr {s f b q r : Nat} {fs : Array Field} {fd : Field} {m : Nat}  (hx : ev ρ x = some (.pointer (some ⟨b, q, none⟩)))
    (hu : P.underlying s = some (.struct fs)) (hf : fs[f]? = some fd) (hs : ∀ w, (sizeOf fd.type).run P w = .ok (m + 1) w) (hr : q + fd.offset = r)  : Val P n ρ A ⟨some d, .fieldAddr s x f, t, pos, after, g⟩ (.pointer (some ⟨b, r, none⟩)) :=
  fun ac w hfr hA => by
    subst hr
    simp [execOp, hfr.ev hx, Instr.fieldAt, run_underlying hu, hf, Instr.sureAddr, fieldPlace, hs w, add_plain]
theorem V_bi {b : Builtin} {xs : Array Operand} {ts : Array TypeId} {vs : List Value}  (hx : evs ρ xs.toList = some vs)
    (hrun : ∀ cs w, A w → (builtin b ts t cs vs.toArray).run P w = .ok (.value v) w)  : Val P n ρ A ⟨some d, .call ⟨.builtin b, xs, ts⟩, t, pos, after, g⟩ (v) :=
  fun a w hf hA => by
    have hvs : xs.map a.eval = vs.toArray := by rw [← evs_ev hf hx]; simp [← Array.toList_map]
    simp only [execOp, resolve, hvs, Sem.run_bind, Sem.run_pure, Result.andThen_ok, invoke]
    exact hrun _ w hA
theorem V_conv {ts td : TypeId}  (hx : ev ρ x = some v) (hr : ∀ w, A w → (convert ts td v).run P w = .ok u w)  : Val P n ρ A ⟨some d, .convert ts td x, t, pos, after, g⟩ (u) :=
  fun a w hf hA => by simp [execOp, hf.ev hx, hr w hA]
theorem V_build {ps : Array (Nat × Operand)} {xo : List (Nat × Operand)} {vs : List Value}  (hps : ps.toList = xo) (hx : evs ρ (xo.map (·.2)) = some vs)
    (hb : ∀ w, (Instr.build t ((xo.map (·.1)).zip vs).toArray).run P w = .ok v w)  : Val P n ρ A ⟨some d, .build t ps, t', pos, after, g⟩ (v) :=
  fun ac w hf hA => by
    have hm : (ps.map fun (p : Nat × Operand) => match p with | (i, x) => (i, ac.eval x)) = ((xo.map (·.1)).zip vs).toArray := by
      apply Array.ext'
      rw [Array.toList_map, hps, ← evs_ev hf hx]
      simp [List.zip_map', List.map_map]
    simp [execOp, hm, hb w]
theorem V_bytesStr {i : Nat} {xs : List UInt8} {a : Option Addr} {m cp : Nat} {td e : TypeId}  (hx : ev ρ x = some (.slice a m cp)) (hs : P.underlying t = some (.slice e)) (hd : P.underlying td = some .string) (he : P.underlying e = some (.int .u8)) (hi : X[i]? = some (.dat kByte.sl xs [.slice a m cp]))
     : Val P n ρ (Asn w0 ok0 M X) ⟨some d, .convert t td x, t', pos, after, g⟩ (.string ⟨xs.toArray⟩) :=
  fun ac w hf hA => by
    have := bytesStr_run (P := P) (t := t) (td := td) hs hd he (hA.get hi)
    simp [execOp, hf.ev hx, this]
/-! ### Regions that draw their order -/
theorem Asn.drew {w : World} (h : Asn w0 ok0 M X w) : Asn w0 ok0 M X { w with drawn := w.drawn + 1 } :=
  ⟨h.ext.trans (Ext.of_below (M := M) ((Below.refl _ _).drew)) (fun _ _ hb => hb), h.apart, h.lt, fun a ha => a.keep (h.holds a ha) (fun _ _ => rfl) (fun b _ hk => ⟨hk, rfl⟩)⟩
def HA (P : Program) (Q : Post) (n : Nat) (ops : Array Oper) (S : World → Prop) (listed : Array Bool) (fuel : Nat) (k : List It) (ρ : Env) (A : World → Prop) : Prop :=
  ∀ a w, Fr n ρ a → A w → wpAnyH P .any ops (post Q (den P Q k)) S fuel listed a w
def QPan (Q : Post) : Prop := ∀ c d v a w, Q (.panic c) (a.put d v) w → Q (.panic c) a w
theorem bodyPost_pan (P : Program) (fn : Func) (R : Ending → World → Prop) : QPan (bodyPost P fn R) := by
  rintro c d v a w ⟨h1, h2⟩
  refine ⟨?_, h2⟩
  cases d <;> exact h1
theorem bp {P : Program} {fn : Func} {R : Ending → World → Prop} : QPan (bodyPost P fn R) := bodyPost_pan P fn R
theorem HA_take {S : World → Prop} {listed listed' : Array Bool} {fuel i : Nat} {o : Oper} (hq : QPan Q) (hi : ops[i]? = some o) (hw : wantedB ops ρ o.guard = some true) (hd : o.dst = some d) (hn : Nat.blt d n = true)
    (hc : (Region.noSelect ops && Region.free .any ops listed i && (Region.ready .any ops listed).contains i) = true) (hl : listed.setIfInBounds i true = listed') (hv : Val P n ρ S o v) (hS : ∀ w, A w → S w)
    (h : HA P Q n ops S listed' fuel k ((d, v) :: ρ) A) : HA P Q n ops S listed (fuel + 1) k ρ A := by
  intro a w hf hA
  simp only [Bool.and_eq_true] at hc
  subst hl
  refine wpAnyH_take hi hc.1.1 hc.1.2 hc.2 (fun c a w hh => ?_) (.inl ⟨wanted_of hf hw, fun w hs => hv a w hf hs⟩) (hS w hA) ?_
  · exact hq _ _ _ _ _ hh
  · rw [hd]
    exact h _ _ (hf.put (by simpa [Nat.blt_eq] using hn) v) hA
theorem HA_set {S : World → Prop} {listed : Array Bool} {fuel : Nat} {v' : Value} (d : Nat) (hl : look ρ d = some v) (he : v = v') (h : HA P Q n ops S listed fuel k ((d, v') :: ρ) A) : HA P Q n ops S listed fuel k ρ A := by
  intro a w hr hA
  have h2 := HO_set (P := P) (Q := fun _ => fun a w => wpAnyH P .any ops (post Q (den P Q k)) S fuel listed a w) (n := n) (k := []) (ρ := ρ) (A := A) (ops := #[]) (rest := []) d hl he (HO_nil (fun a w h1 h2 => h a w h1 h2))
  exact h2 a w hr hA
theorem upon_mono3 {o : Oper} {a : Act} {K K' : Act → World → Prop} {Q Q' : Post} (h : ∀ a w, K a w → K' a w) (hp : ∀ c a w, Q (.panic c) a w → Q' (.panic c) a w) (ho : ∀ a w, Q .outgrown a w → Q' .outgrown a w) {r : Result Next} (hh : o.upon P a K Q r) : o.upon P a K' Q' r := by
  cases r with
  | ok n w' =>
    cases n <;> simp only [Oper.upon] at hh ⊢ <;>
      first
        | exact h _ _ hh
        | exact Calls.mono hh (fun e w'' he => by
            cases e with
            | returned v => exact h _ _ he
            | panicked c => exact hp _ _ _ he
            | outgrown => exact he.imp fun _ h => h.imp fun _ h => ho _ _ h)
        | exact Rows.mono hh (fun _ _ he => h _ _ he)
  | halt x w' => cases x <;> simp only [Oper.upon] at hh ⊢ <;> first | exact hp _ _ _ hh | exact hh
def One (P : Program) (Q : Post) (n : Nat) (ops : Array Oper) (S : World → Prop) (listed : Array Bool) (fuel : Nat) (k : List It) (ρ : Env) (A : World → Prop) (i : Nat) : Prop :=
  ∃ o, ops[i]? = some o ∧ HO P Q n ops [o] (.inv (fun a w => S w ∧ wpAnyH P .any ops (post Q (den P Q k)) S fuel (listed.setIfInBounds i true) a w) :: k) ρ A
theorem HA_loud {S : World → Prop} {listed : Array Bool} {fuel : Nat} {rs : List Nat} (hr : Region.ready .any ops listed = rs) (hne : rs ≠ []) (h : ∀ i ∈ rs, One P Q n ops S listed fuel k ρ A i) : HA P Q n ops S listed (fuel + 1) k ρ A := by
  intro a w hf hA
  refine wpAnyH_all hr hne fun i hi => ?_
  obtain ⟨o, ho, hO⟩ := h i hi
  have h1 := hO a w hf hA
  unfold wpOp
  simp only [ho]
  simp only [goOps] at h1
  split
  · rename_i hw
    rw [if_pos hw] at h1
    exact .inl (upon_mono3 (fun a w hh => hh) (fun c a w hh => hh) (fun a w hh => hh) h1)
  · rename_i hw
    rw [if_neg hw] at h1
    exact h1
theorem HA_loud1 {S : World → Prop} {listed : Array Bool} {fuel i : Nat} {o : Oper} (hr : Region.ready .any ops listed = [i]) (hi : ops[i]? = some o) (h : HO P Q n ops [o] (.inv (fun a w => S w ∧ wpAnyH P .any ops (post Q (den P Q k)) S fuel (listed.setIfInBounds i true) a w) :: k) ρ A) : HA P Q n ops S listed (fuel + 1) k ρ A :=
  HA_loud hr (by simp) (fun j hj => by rw [List.mem_singleton.1 hj]; exact ⟨o, hi, h⟩)
theorem HA_loud2 {S : World → Prop} {listed : Array Bool} {fuel i j : Nat} {o o2 : Oper} (hr : Region.ready .any ops listed = [i, j]) (hi : ops[i]? = some o) (hj : ops[j]? = some o2)
    (h : HO P Q n ops [o] (.inv (fun a w => S w ∧ wpAnyH P .any ops (post Q (den P Q k)) S fuel (listed.setIfInBounds i true) a w) :: k) ρ A) (h2 : HO P Q n ops [o2] (.inv (fun a w => S w ∧ wpAnyH P .any ops (post Q (den P Q k)) S fuel (listed.setIfInBounds j true) a w) :: k) ρ A) : HA P Q n ops S listed (fuel + 1) k ρ A :=
  HA_loud hr (by simp) (fun q hq => by
    simp only [List.mem_cons, List.not_mem_nil, or_false] at hq
    rcases hq with rfl | rfl
    · exact ⟨o, hi, h⟩
    · exact ⟨o2, hj, h2⟩)
theorem HA_loud3 {S : World → Prop} {listed : Array Bool} {fuel i j m : Nat} {o o2 o3 : Oper} (hr : Region.ready .any ops listed = [i, j, m]) (hi : ops[i]? = some o) (hj : ops[j]? = some o2) (hm : ops[m]? = some o3)
    (h : HO P Q n ops [o] (.inv (fun a w => S w ∧ wpAnyH P .any ops (post Q (den P Q k)) S fuel (listed.setIfInBounds i true) a w) :: k) ρ A) (h2 : HO P Q n ops [o2] (.inv (fun a w => S w ∧ wpAnyH P .any ops (post Q (den P Q k)) S fuel (listed.setIfInBounds j true) a w) :: k) ρ A)
    (h3 : HO P Q n ops [o3] (.inv (fun a w => S w ∧ wpAnyH P .any ops (post Q (den P Q k)) S fuel (listed.setIfInBounds m true) a w) :: k) ρ A) : HA P Q n ops S listed (fuel + 1) k ρ A :=
  HA_loud hr (by simp) (fun q hq => by
    simp only [List.mem_cons, List.not_mem_nil, or_false] at hq
    rcases hq with rfl | rfl | rfl
    · exact ⟨o, hi, h⟩
    · exact ⟨o2, hj, h2⟩
    · exact ⟨o3, hm, h3⟩)
theorem HA_back {S : World → Prop} {listed listed' : Array Bool} {fuel i : Nat} (hl : listed.setIfInBounds i true = listed') (hS : ∀ w, A w → S w) (h : HA P Q n ops S listed' fuel k ρ A) : HO P Q n ops [] (.inv (fun a w => S w ∧ wpAnyH P .any ops (post Q (den P Q k)) S fuel (listed.setIfInBounds i true) a w) :: k) ρ A := by
  subst hl
  intro a w hf hA
  exact ⟨hS w hA, h a w hf hA⟩
theorem HA_done {S : World → Prop} {listed : Array Bool} {fuel : Nat} (hr : Region.ready .any ops listed = []) (h : H P Q n k ρ A) : HA P Q n ops S listed fuel k ρ A := fun a w hf hA => wpAnyH_done hr (h a w hf hA) fuel
end
end Go.Wk

