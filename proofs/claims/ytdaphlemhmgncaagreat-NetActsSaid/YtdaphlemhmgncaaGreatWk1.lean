/- A small calculus of weakest preconditions over the kit's code: rules for the operations, proved for all programs. -/
import Derived.Calls
import Derived.Orders
import Derived.LoopN
import Derived.Laws.World
set_option linter.unusedVariables false
set_option linter.unusedSimpArgs false
namespace Go.Wk
open Go

/-! ### 1. What is known of a frame -/
abbrev Env := List (Nat × Value)
def look : Env → Nat → Option Value
  | [], _ => none
  | (k, v) :: r, t => bif Nat.beq k t then some v else look r t
def ev (ρ : Env) : Operand → Option Value
  | .tmp t => look ρ t
  | .const v => some v
  | .global g => some (.pointer (some ⟨g, 0, none⟩))
  | .func f => some (.func (.func f) #[] #[])

structure Fr (n : Nat) (ρ : Env) (a : Act) : Prop where
  size : a.tmps.size = n
  defers : a.defers = []
  get : ∀ t v, look ρ t = some v → a.tmps[t]? = some v

theorem Fr.ev {n : Nat} {ρ : Env} {a : Act} (h : Fr n ρ a) {x : Operand} {v : Value} (hx : ev ρ x = some v) : a.eval x = v := by
  cases x with
  | tmp t => simp only [Wk.ev] at hx; simp [Act.eval, Array.getD_eq_getD_getElem?, h.get _ _ hx]
  | const c => simpa [Wk.ev, Act.eval] using hx
  | global g => simpa [Wk.ev, Act.eval] using hx
  | func f => simpa [Wk.ev, Act.eval] using hx

theorem Fr.put {n : Nat} {ρ : Env} {a : Act} (h : Fr n ρ a) {d : Nat} (hd : d < n) (v : Value) : Fr n ((d, v) :: ρ) (a.put (some d) v) := by
  refine ⟨by simp [Act.put, h.size], by simp [Act.put, h.defers], fun t u hu => ?_⟩
  simp only [look] at hu
  cases hb : Nat.beq d t with
  | true =>
    have : d = t := Nat.eq_of_beq_eq_true hb
    subst this
    simp [hb] at hu
    subst hu
    simp [Act.put, h.size, hd]
  | false =>
    have hne : d ≠ t := Nat.ne_of_beq_eq_false hb
    simp [hb] at hu
    simp only [Act.put]
    rw [Array.getElem?_setIfInBounds_ne hne]
    exact h.get _ _ hu

def Sub (ρ : Env) : Env → Prop
  | [] => True
  | (t, v) :: r => look ρ t = some v ∧ Sub ρ r
theorem Fr.sub {n : Nat} {ρ ρ' : Env} {a : Act} (h : Fr n ρ a) (hs : Sub ρ ρ') : Fr n ρ' a := by
  refine ⟨h.size, h.defers, fun t v ht => ?_⟩
  induction ρ' with
  | nil => simp [look] at ht
  | cons p r ih =>
    obtain ⟨k, u⟩ := p
    simp only [look] at ht
    cases hb : Nat.beq k t with
    | true =>
      have : k = t := Nat.eq_of_beq_eq_true hb
      subst this
      simp [hb] at ht
      subst ht
      exact h.get _ _ hs.1
    | false =>
      simp [hb] at ht
      exact ih hs.2 ht

/-! ### 2. What is still to be run -/
inductive It where
  | code (c : Code)
  | blk (id : Nat)
  | inv (J : Act → World → Prop)
  | rnd (c : Code) (m : Nat)

abbrev Post := Exit → Act → World → Prop
abbrev Den := (Act → World → Prop) × (Nat → Act → World → Prop)
def post (Q : Post) (d : Den) : Post
  | .normal, a, w => d.1 a w
  | .exit id, a, w => d.2 id a w
  | e, a, w => Q e a w
def den (P : Program) (Q : Post) : List It → Den
  | [] => (Q .normal, fun id => Q (.exit id))
  | .code c :: r => (c.wp P (post Q (den P Q r)), (den P Q r).2)
  | .blk i :: r => ((den P Q r).1, fun id => if id = i then (den P Q r).1 else (den P Q r).2 id)
  | .inv J :: r => (J, (den P Q r).2)
  | .rnd c m :: r => (Code.rounds P c (post Q (den P Q r)) m, (den P Q r).2)

def H (P : Program) (Q : Post) (n : Nat) (k : List It) (ρ : Env) (A : World → Prop) : Prop :=
  ∀ a w, Fr n ρ a → A w → (den P Q k).1 a w

def goOps (P : Program) (ops : Array Oper) (Q : Post) : List Oper → Act → World → Prop
  | [], a, w => Q .normal a w
  | o :: rest, a, w =>
    if Region.wanted o (yielded ops a.tmps) then o.wp P a w (goOps P ops Q rest) Q
    else goOps P ops Q rest (a.put o.dst undef) w

theorem goOps_wpOps {P : Program} {ops : Array Oper} {Q : Post} (l : List Nat) : ∀ (a : Act) (w : World), goOps P ops Q (l.filterMap (ops[·]?)) a w → wpOps P ops Q l a w := by
  induction l with
  | nil => intro a w h; simpa [goOps, wpOps] using h
  | cons i rest ih =>
    intro a w h
    simp only [wpOps]
    cases ho : ops[i]? with
    | none =>
      rw [List.filterMap_cons_none (by simpa using ho)] at h
      exact ih a w h
    | some o =>
      rw [List.filterMap_cons_some (b := o) (by simpa using ho)] at h
      simp only [goOps] at h
      dsimp only
      split
      · rename_i hw
        rw [if_pos hw] at h
        exact .inl (Oper.wp_mono (fun a w => ih a w) h)
      · rename_i hw
        rw [if_neg hw] at h
        exact ih _ _ h

def HO (P : Program) (Q : Post) (n : Nat) (ops : Array Oper) (l : List Oper) (k : List It) (ρ : Env) (A : World → Prop) : Prop :=
  ∀ a w, Fr n ρ a → A w → goOps P ops (post Q (den P Q k)) l a w

section
variable {P : Program} {Q : Post} {n : Nat} {k : List It} {ρ : Env} {A : World → Prop}

theorem range_list {α : Type} : ∀ L : List α, (List.range L.length).filterMap (L[·]?) = L
  | [] => rfl
  | x :: L => by
    rw [List.length_cons, List.range_succ_eq_map]
    have h0 : List.filterMap (fun i => (x :: L)[i]?) (0 :: List.map Nat.succ (List.range L.length)) = x :: List.filterMap (fun i => (x :: L)[i]?) (List.map Nat.succ (List.range L.length)) := List.filterMap_cons_some rfl
    rw [h0, List.filterMap_map]
    exact congrArg (x :: ·) (range_list L)
theorem range_ops (ops : Array Oper) : (List.range ops.size).filterMap (ops[·]?) = ops.toList := by
  have h := range_list ops.toList
  simpa using h

theorem H_region {id : Nat} {ops : Array Oper} {l : List Oper} (hl : ops.toList = l) (h : HO P Q n ops l k ρ A) : H P Q n (.code (.region id ops false) :: k) ρ A := by
  intro a w hf hA
  refine wp_region (goOps_wpOps _ _ _ ?_)
  rw [range_ops, hl]
  exact h a w hf hA
theorem H_seq {x y : Code} (h : H P Q n (.code x :: .code y :: k) ρ A) : H P Q n (.code (.seq x y) :: k) ρ A := by
  intro a w hf hA
  refine wp_seq (wp_mono (h a w hf hA) ?_)
  intro e a w he
  cases e <;> exact he
theorem H_skip (h : H P Q n k ρ A) : H P Q n (.code .skip :: k) ρ A := fun a w hf hA => wp_skip (h a w hf hA)
theorem H_cond {c : Operand} {x y : Code} {b : Bool} (hc : ev ρ c = some (.bool b)) (ht : b = true → H P Q n (.code x :: k) ρ A) (hf : b = false → H P Q n (.code y :: k) ρ A) : H P Q n (.code (.cond c x y) :: k) ρ A :=
  fun a w hr hA => wp_cond_split (hr.ev hc) (fun e => ht e a w hr hA) (fun e => hf e a w hr hA)
theorem H_block {id : Nat} {c : Code} (h : H P Q n (.code c :: .blk id :: k) ρ A) : H P Q n (.code (.block id c) :: k) ρ A := by
  intro a w hf hA
  refine wp_block (wp_mono (h a w hf hA) ?_)
  intro e a w he
  cases e with
  | exit i =>
    simp only [post, den, Exit.inBlock] at he ⊢
    split <;> rename_i hi <;> simp only [hi, if_true, if_false] at he <;> exact he
  | _ => exact he
theorem H_blk {id : Nat} (h : H P Q n k ρ A) : H P Q n (.blk id :: k) ρ A := h
def dropTo (id : Nat) : List It → Option (List It)
  | [] => none
  | .blk i :: r => bif Nat.beq i id then some r else dropTo id r
  | _ :: r => dropTo id r
theorem dropTo_den {id : Nat} {k' : List It} : ∀ {k : List It}, dropTo id k = some k' → (den P Q k).2 id = (den P Q k').1
  | [], h => by simp [dropTo] at h
  | .blk i :: r, h => by
    simp only [dropTo] at h
    cases hb : Nat.beq i id with
    | true =>
      have : i = id := Nat.eq_of_beq_eq_true hb
      simp [hb] at h
      subst h
      simp [den, this]
    | false =>
      have : i ≠ id := Nat.ne_of_beq_eq_false hb
      simp [hb] at h
      simp only [den]
      rw [if_neg (fun e => this e.symm)]
      exact dropTo_den h
  | .code c :: r, h => by simp only [dropTo] at h; simp only [den]; exact dropTo_den h
  | .inv J :: r, h => by simp only [dropTo] at h; simp only [den]; exact dropTo_den h
  | .rnd c m :: r, h => by simp only [dropTo] at h; simp only [den]; exact dropTo_den h
theorem H_exit {id : Nat} {k' : List It} (hd : dropTo id k = some k') (h : H P Q n k' ρ A) : H P Q n (.code (.exit id) :: k) ρ A := by
  intro a w hf hA
  refine wp_exit ?_
  simp only [post]
  rw [dropTo_den hd]
  exact h a w hf hA
theorem H_ret (h : ∀ a w, Fr n ρ a → A w → Q .ret a w) : H P Q n (.code .ret :: k) ρ A := fun a w hf hA => wp_ret (h a w hf hA)
theorem H_inv {J : Act → World → Prop} (h : ∀ a w, Fr n ρ a → A w → J a w) : H P Q n (.inv J :: k) ρ A := fun a w hf hA => h a w hf hA
theorem H_cons {ρ' : Env} {A' : World → Prop} (hρ : Sub ρ ρ') (hA : ∀ w, A w → A' w) (h : H P Q n k ρ' A') : H P Q n k ρ A := fun a w hf hw => h a w (hf.sub hρ) (hA w hw)
theorem H_env {ρ' : Env} (hρ : Sub ρ ρ') (h : H P Q n k ρ' A) : H P Q n k ρ A := H_cons hρ (fun _ h => h) h
theorem H_world {A' : World → Prop} (hA : ∀ w, A w → A' w) (h : H P Q n k ρ A') : H P Q n k ρ A := fun a w hf hw => h a w hf (hA w hw)
theorem H_rounds {c : Code} (m : Nat) (h : H P Q n (.rnd c m :: k) ρ A) : H P Q n (.code (.loop c) :: k) ρ A := fun a w hf hA => wp_loop_rounds m (h a w hf hA)
theorem H_rnd {c : Code} {m : Nat} (h : H P Q n (.code c :: .rnd c m :: k) ρ A) : H P Q n (.rnd c (m + 1) :: k) ρ A := by
  intro a w hf hA
  show Code.rounds P c (post Q (den P Q k)) (m + 1) a w
  rw [rounds_succ]
  refine wp_mono (h a w hf hA) ?_
  intro e a w he
  cases e <;> exact he
theorem exists_least {p : Nat → Prop} (h : ∃ n, p n) : ∃ m, p m ∧ ∀ k, p k → m ≤ k := by
  obtain ⟨n, hn⟩ := h
  induction n using Nat.strongRecOn with
  | _ n ih =>
    by_cases hk : ∃ k, k < n ∧ p k
    · obtain ⟨k, hlt, hp⟩ := hk
      exact ih k hlt hp
    · exact ⟨n, hn, fun k hp => Nat.le_of_not_lt fun hlt => hk ⟨k, hlt, hp⟩⟩
theorem H_loop {σ : Type} {c : Code} (I : σ → Prop) (E : σ → Env) (B : σ → World → Prop) (μ : σ → Nat)
    (s0 : σ) (h0 : I s0) (hE : Sub ρ (E s0)) (hB : ∀ w, A w → B s0 w)
    (round : ∀ s, I s → H P Q n (.code c :: .inv (fun a w => ∃ s', I s' ∧ μ s' < μ s ∧ Fr n (E s') a ∧ B s' w) :: k) (E s) (B s)) :
    H P Q n (.code (.loop c) :: k) ρ A := by
  intro a w hf hA
  show (Code.loop c).wp P (post Q (den P Q k)) a w
  let Z : Act → World → Nat → Prop := fun a w m => ∃ s, I s ∧ Fr n (E s) a ∧ B s w ∧ μ s = m
  refine wp_loop (fun a w => ∃ m, Z a w m) (fun a w => open Classical in if h : ∃ m, Z a w m then (exists_least h).choose else 0) ⟨_, s0, h0, hf.sub hE, hB w hA, rfl⟩ ?_
  intro a w hz
  obtain ⟨s, hs, hf, hB, hm⟩ := (exists_least hz).choose_spec.1
  have hr := round s hs a w hf hB
  refine wp_mono hr ?_
  intro e a' w' he
  cases e with
  | normal =>
    obtain ⟨s', hs', hlt, hf', hB'⟩ := he
    have hz2 : ∃ m, Z a' w' m := ⟨_, s', hs', hf', hB', rfl⟩
    refine ⟨hz2, ?_⟩
    rw [dif_pos hz2, dif_pos hz]
    exact Nat.lt_of_le_of_lt ((exists_least hz2).choose_spec.2 _ ⟨s', hs', hf', hB', rfl⟩) (by rw [hm] at hlt; exact hlt)
  | _ => exact he
end
end Go.Wk
