/- Plain facts of the model. -/
import Derived.Test.YtlkdpglngomblaaRep
set_option linter.unusedVariables false
set_option linter.unusedSimpArgs false
namespace Go.Wk
open Go
/-! ### Lists by keys -/
structure SO (K : Type) where
  lt : K → K → Bool
  irr : ∀ a, lt a a = false
  tr : ∀ {a b c}, lt a b = true → lt b c = true → lt a c = true
  tri : ∀ {a b}, lt a b = false → lt b a = false → a = b
namespace SO
variable {K T : Type} (o : SO K) (key : T → K)
theorem asym {a b : K} (h : o.lt a b = true) : o.lt b a = false := by
  cases hb : o.lt b a with
  | false => rfl
  | true => have := o.tr h hb; rw [o.irr] at this; cases this
def rank (k : K) : List T → Nat
  | [] => 0
  | x :: l => if o.lt (key x) k then rank k l + 1 else 0
def Srt (l : List T) : Prop := l.Pairwise fun x y => o.lt (key x) (key y) = true
theorem rank_le (k : K) : ∀ l : List T, o.rank key k l ≤ l.length
  | [] => Nat.le_refl _
  | x :: l => by
    unfold rank
    split
    · have := rank_le k l
      simp only [List.length_cons]
      omega
    · exact Nat.zero_le _
theorem below {k : K} : ∀ {l : List T} {i : Nat} {x : T}, l[i]? = some x → i < o.rank key k l → o.lt (key x) k = true
  | [], i, x, h, _ => by simp at h
  | y :: l, i, x, h, hi => by
    unfold rank at hi
    split at hi
    · rename_i hy
      cases i with
      | zero => simp only [List.getElem?_cons_zero, Option.some.injEq] at h; subst h; exact hy
      | succ i => exact below (by simpa using h) (by omega)
    · omega
theorem above {k : K} : ∀ {l : List T} {i : Nat} {x : T}, o.Srt key l → l[i]? = some x → o.rank key k l ≤ i → o.lt (key x) k = false
  | [], i, x, _, h, _ => by simp at h
  | y :: l, i, x, hs, h, hi => by
    have hs := List.pairwise_cons.1 hs
    unfold rank at hi
    split at hi
    · cases i with
      | zero => omega
      | succ i => exact above hs.2 (by simpa using h) (by omega)
    · rename_i hy
      cases i with
      | zero => simp only [List.getElem?_cons_zero, Option.some.injEq] at h; subst h; simpa using hy
      | succ i =>
        have hx : x ∈ l := List.mem_of_getElem? (by simpa using h)
        cases hk : o.lt (key x) k with
        | false => rfl
        | true => exact absurd (o.tr (hs.1 x hx) hk) hy
theorem rank_is {k : K} {l : List T} {i : Nat} (hi : i ≤ l.length) (hs : o.Srt key l) (h1 : ∀ j x, j < i → l[j]? = some x → o.lt (key x) k = true) (h2 : ∀ j x, i ≤ j → l[j]? = some x → o.lt (key x) k = false) : i = o.rank key k l := by
  have hr := o.rank_le key k l
  rcases Nat.lt_trichotomy i (o.rank key k l) with h | h | h
  · have hx : l[i]? = some l[i] := List.getElem?_eq_getElem (by omega)
    have := o.below key hx h
    rw [h2 i _ (Nat.le_refl _) hx] at this
    cases this
  · exact h
  · have hx : l[o.rank key k l]? = some l[o.rank key k l] := List.getElem?_eq_getElem (by omega)
    have := o.above key hs hx (Nat.le_refl _)
    rw [h1 _ _ h hx] at this
    cases this
def found [DecidableEq K] (k : K) (l : List T) : Bool := match l[o.rank key k l]? with
  | some x => decide (key x = k)
  | none => false
def put [DecidableEq K] (x : T) (l : List T) : List T := if o.found key (key x) l then l.set (o.rank key (key x) l) x else l.take (o.rank key (key x) l) ++ x :: l.drop (o.rank key (key x) l)
def cut [DecidableEq K] (k : K) (l : List T) : List T := if o.found key k l then l.eraseIdx (o.rank key k l) else l
end SO
theorem less_irr : ∀ l : List UInt8, Op.bytesLess l l = false := Cod.less_self
theorem less_cons' (a b : UInt8) (x y : List UInt8) : Op.bytesLess (a :: x) (b :: y) = true ↔ a.toNat < b.toNat ∨ (a.toNat = b.toNat ∧ Op.bytesLess x y = true) := by
  rw [Cod.less_cons]
  simp
theorem less_tr : ∀ {a b c : List UInt8}, Op.bytesLess a b = true → Op.bytesLess b c = true → Op.bytesLess a c = true
  | [], [], _, h, _ => by simp [Op.bytesLess] at h
  | [], _ :: _, [], _, h => by simp [Op.bytesLess] at h
  | [], _ :: _, _ :: _, _, _ => by simp [Op.bytesLess]
  | _ :: _, [], _, h, _ => by simp [Op.bytesLess] at h
  | _ :: _, _ :: _, [], _, h => by simp [Op.bytesLess] at h
  | x :: a, y :: b, z :: c, h1, h2 => by
    rw [less_cons'] at *
    rcases h1 with h1 | ⟨h1, h3⟩
    · rcases h2 with h2 | ⟨h2, _⟩
      · left; omega
      · left; omega
    · rcases h2 with h2 | ⟨h2, h4⟩
      · left; omega
      · right; exact ⟨by omega, less_tr h3 h4⟩
theorem less_tri : ∀ {a b : List UInt8}, Op.bytesLess a b = false → Op.bytesLess b a = false → a = b
  | [], [], _, _ => rfl
  | [], _ :: _, h, _ => by simp [Op.bytesLess] at h
  | _ :: _, [], _, h => by simp [Op.bytesLess] at h
  | x :: a, y :: b, h1, h2 => by
    have n1 : ¬ (x.toNat < y.toNat ∨ (x.toNat = y.toNat ∧ Op.bytesLess a b = true)) := fun h => by rw [(less_cons' _ _ _ _).2 h] at h1; cases h1
    have n2 : ¬ (y.toNat < x.toNat ∨ (y.toNat = x.toNat ∧ Op.bytesLess b a = true)) := fun h => by rw [(less_cons' _ _ _ _).2 h] at h2; cases h2
    have e : x.toNat = y.toNat := by omega
    have e1 : Op.bytesLess a b = false := by
      cases h : Op.bytesLess a b with
      | false => rfl
      | true => exact absurd (.inr ⟨e, h⟩) n1
    have e2 : Op.bytesLess b a = false := by
      cases h : Op.bytesLess b a with
      | false => rfl
      | true => exact absurd (.inr ⟨e.symm, h⟩) n2
    rw [UInt8.toNat.inj e, less_tri e1 e2]
def soStr : SO ByteArray where
  lt a b := Op.bytesLess a.data.toList b.data.toList
  irr a := less_irr _
  tr h1 h2 := less_tr h1 h2
  tri {a b} h1 h2 := by
    have := less_tri h1 h2
    obtain ⟨⟨a⟩⟩ := a
    obtain ⟨⟨b⟩⟩ := b
    simp only at this
    rw [this]
def soInt : SO Int where
  lt a b := decide (a < b)
  irr a := by simp
  tr h1 h2 := by simp at *; omega
  tri h1 h2 := by simp at *; omega
end Go.Wk
