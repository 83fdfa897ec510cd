/- A small calculus of weakest preconditions over the kit's code: rules for the operations, proved for all programs. -/
import Derived.Test.YtdaphlemhmgncaaGreatWk17
import Derived.Test.YtdaphlemhmgncaaGreatKinds
import Derived.Test.YtdaphlemhmgncaaGreatWk9
import Derived.Test.YtdaphlemhmgncaaGreatCod
import Derived.Test.YtdaphlemhmgncaaGreatWk11
set_option linter.unusedVariables false
set_option linter.unusedSimpArgs false
section
namespace Go.Wk
open Go Go.RowKit Go.ChangeShapes Go.WideShapes Go.ChangeAt
theorem open_rows {H : Type} {enc : TypeId × Value → H} {P : Program} {W : World} {r : Reach} {b0 : Nat} {t e : TypeId} {v : Value} {d : DataW H} {ps : List MemPlace} {α : Type} {kd : Kd α} (ht : P.underlying t = some (.slice e)) (hc : P.cellsOf e = kd.n) (hp : 0 < kd.n) (hb : 0 < P.bytesOf e) (hk : Rd P e kd) (hval : Value.okWide P W r b0 t v) (hd : DataW.Trod enc P W 0 (fun _ => true) true t v d ps) (hw : ∀ m ∈ d.weights P t, m ≤ reachBytes) :
    ∃ (a : Option Addr) (c : Nat) (xs : List α), v = .slice a xs.length c ∧ xs.length ≤ BIG ∧ kd.sl.rep (fun _ => True) W xs [.slice a xs.length c] := by
  obtain ⟨a, len, cap, rfl⟩ := okWide_slice ht hval
  obtain ⟨fuel, hf⟩ := hd
  obtain ⟨a', c', xs, e, hb', hd'⟩ := rd_slice (kd := kd) ht hc hp hb hk hf hw
  simp only [Value.cells, List.cons.injEq, Value.slice.injEq, and_true] at e
  obtain ⟨rfl, rfl, rfl⟩ := e
  exact ⟨_, _, xs, rfl, hb', hd'⟩
end Go.Wk
end
section
namespace Go.Wk
open Go Cod
theorem wrap_toI {m : Nat} (h : m < 18446744073709551616) : IntKind.i64.wrap (m : Int) = Cod.toI m := by
  rw [wrap_i64_eq]
  unfold Cod.toI
  split <;> split <;> omega
theorem byte_eq {m m' : Nat} (h : m = m') : Value.int .u8 ((m % 2 ^ IntKind.u8.bits : Nat) : Int) = .int .u8 ((UInt8.ofNat m').toNat : Int) := by
  subst h
  simp [IntKind.bits]
theorem byte_lt {m : Nat} (h : m < 256) : Value.int .u8 (m : Int) = .int .u8 ((UInt8.ofNat m).toNat : Int) := by
  simp [Nat.mod_eq_of_lt h]
theorem head_set1 {u s : Nat} (h : ((beh u : Nat) : Int) < 8) (hs : s = 8 * beh u) : Value.int .u8 ((onesB (beh u) ||| (u / 2 ^ s % 2 ^ IntKind.u8.bits) : Nat) : Int) = .int .u8 ((UInt8.ofNat (headB u)).toNat : Int) := by
  subst hs
  have e : headB u = onesB (beh u) ||| (u / 2 ^ (8 * beh u) % 2 ^ IntKind.u8.bits) := by
    unfold headB
    rw [if_pos (by omega)]
    rfl
  rw [← e]
  exact byte_lt (headB_lt u)
theorem head_set2 {u : Nat} (h : (8 : Int) ≤ (beh u : Int)) : Value.int .u8 (onesB (beh u) : Int) = .int .u8 ((UInt8.ofNat (headB u)).toNat : Int) := by
  have e8 : beh u = 8 := by have := beh_le u; omega
  have e : headB u = onesB (beh u) := by
    unfold headB
    rw [if_neg (by omega), e8]
  rw [← e]
  exact byte_lt (headB_lt u)
end Go.Wk
end
section
namespace Go.Wk
open Go
/-! ### Facts that stay, told by a row of yes and no -/
def keepB {α : Type} : List Bool → List α → List α
  | true :: m, a :: l => a :: keepB m l
  | false :: m, _ :: l => keepB m l
  | _, _ => []
theorem keepB_sub {α : Type} : ∀ (m : List Bool) (l : List α), (keepB m l).Sublist l
  | true :: m, a :: l => (keepB_sub m l).cons_cons a
  | false :: m, a :: l => (keepB_sub m l).cons a
  | [], l => List.nil_sublist l
  | true :: _, [] => List.Sublist.slnil
  | false :: _, [] => List.Sublist.slnil
section
variable {P : Program} {Q : Post} {n : Nat} {k : List It} {ρ : Env} {ops : Array Oper}
variable {w0 : World} {ok0 M : Nat → Prop} {X Y : List Atom}
theorem Asn.keep {w : World} (h : Asn w0 ok0 M X w) {m : List Bool} (e : keepB m X = Y) : Asn w0 ok0 M Y w := e ▸ h.sub (keepB_sub m X)
theorem kp (m : List Bool) (Y : List Atom) (e : keepB m X = Y) : ∀ w, Asn w0 ok0 M X w → Asn w0 ok0 M Y w := fun _ h => h.keep e
theorem H_drawB {id : Nat} {m : List Bool} {Xs : List Atom} {fuel : Nat} {l : Array Bool} (hm : P.follows .mixedOrders = true) (hp : keepB m X = Xs) (hf : ops.size = fuel) (hl : Array.replicate fuel false = l) (h : HA P Q n ops (Asn w0 ok0 M Xs) l fuel k ρ (Asn w0 ok0 M X)) : H P Q n (.code (.region id ops true) :: k) ρ (Asn w0 ok0 M X) := by
  subst hf hl
  intro a w hf hA
  exact wp_region_held hm (h a _ hf hA.drew)
end
end Go.Wk
namespace Go.Wk
theorem dT {p : Prop} [Decidable p] (h : decide p = true) : p := of_decide_eq_true h
theorem dF {p : Prop} [Decidable p] (h : decide p = false) : ¬ p := of_decide_eq_false h
theorem nT {b : Bool} (h : (!b) = true) : b = false := by cases b <;> simp_all
theorem nF {b : Bool} (h : (!b) = false) : b = true := by cases b <;> simp_all
end Go.Wk
namespace Go.Wk
theorem H_meetE {P : Program} {Q : Post} {n : Nat} {k : List It} {ρ : Env} {A : World → Prop} {σ : Type} (x : Code) (I : σ → Prop) (E : σ → Env) (B : σ → World → Prop) (hB : H P Q n (.code x :: .inv (fun a w => ∃ s, I s ∧ Fr n (E s) a ∧ B s w) :: k) ρ A) (hK : ∀ s, I s → H P Q n k (E s) (B s)) : H P Q n (.code x :: k) ρ A := by
  intro a w hf hA
  refine wp_mono (hB a w hf hA) ?_
  intro e a w he
  cases e with
  | normal =>
    obtain ⟨s, h1, h2, h3⟩ := he
    exact hK s h1 a w h2 h3
  | _ => exact he
end Go.Wk
namespace Go.Wk
abbrev yy : Bool := true
abbrev nn : Bool := false
theorem noM {pre : List Atom} {M0 : Nat → Prop} (hM0 : blks pre = M0) (h : ∀ a ∈ pre, a.blk = noB) : ∀ {R : List Atom} (b : Nat), M0 b → blks R b := fun b hb => absurd (hM0 ▸ hb) (blks_none h b)
end Go.Wk
end
