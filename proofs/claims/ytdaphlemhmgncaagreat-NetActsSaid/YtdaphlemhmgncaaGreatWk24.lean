/- A small calculus of weakest preconditions over the kit's code: rules for the operations, proved for all programs. -/
import Derived.Test.YtdaphlemhmgncaaGreatWk11
import Derived.Test.YtdaphlemhmgncaaGreatWkK
set_option linter.unusedVariables false
set_option linter.unusedSimpArgs false
namespace Go.Wk
open Go Go.RowKit
/-! ### Short forms of the rules: what is to be computed stands in one equation -/
/-- The slots that stay, by their numbers. -/
def envB : List Nat → Env → Env
  | [], _ => []
  | t :: ts, ρ => match look ρ t with
    | some v => (t, v) :: envB ts ρ
    | none => envB ts ρ
theorem envB_sub (ρ : Env) : ∀ ts : List Nat, Sub ρ (envB ts ρ)
  | [] => trivial
  | t :: ts => by
    unfold envB
    split
    · rename_i h
      exact ⟨h, envB_sub ρ ts⟩
    · exact envB_sub ρ ts
/-- The facts that stay, by a number's digits. -/
def keepN {α : Type} : Nat → List α → List α
  | _, [] => []
  | m, a :: l => bif Nat.beq (m % 2) 1 then a :: keepN (m / 2) l else keepN (m / 2) l
theorem keepN_sub {α : Type} : ∀ (m : Nat) (l : List α), (keepN m l).Sublist l
  | _, [] => List.Sublist.slnil
  | m, a :: l => by
    unfold keepN
    cases Nat.beq (m % 2) 1
    · exact (keepN_sub (m / 2) l).cons a
    · exact (keepN_sub (m / 2) l).cons_cons a
section
variable {P : Program} {Q : Post} {n : Nat} {k : List It} {ρ : Env} {A : World → Prop} {ops : Array Oper} {rest : List Oper}
variable {w0 : World} {ok0 M : Nat → Prop} {X R : List Atom}
variable {d : Nat} {t : TypeId} {pos : String} {after : Array Edge} {g : Option (Nat × Bool)} {x y c : Operand} {v u : Value} {t' : TypeId}
theorem EV (ts : List Nat) (ρ' : Env) (e : envB ts ρ = ρ') (h : H P Q n k ρ' A) : H P Q n k ρ A := H_env (e ▸ envB_sub ρ ts) h
theorem NI (ts : List Nat) (ρ' : Env) (e : envB ts ρ = ρ') (h : H P Q n k ρ' A) : HO P Q n ops [] k ρ A := HO_nil (EV ts ρ' e h)
theorem kn (m : Nat) (Y : List Atom) (e : keepN m X = Y) : ∀ w, Asn w0 ok0 M X w → Asn w0 ok0 M Y w := fun _ h => e ▸ h.sub (keepN_sub m X)
theorem WD (m : Nat) (Y : List Atom) (e : keepN m X = Y) (h : H P Q n k ρ (Asn w0 ok0 M Y)) : H P Q n k ρ (Asn w0 ok0 M X) := H_world (kn m Y e) h
theorem RG {id : Nat} {l : List Oper} (hl : ops.toList = l) (h : HO P Q n ops l k ρ A) : H P Q n (.code (.region id ops false) :: k) ρ A := H_region hl h
theorem SQ {x y : Code} (h : H P Q n (.code x :: .code y :: k) ρ A) : H P Q n (.code (.seq x y) :: k) ρ A := H_seq h
theorem SK (h : H P Q n k ρ A) : H P Q n (.code .skip :: k) ρ A := H_skip h
theorem BO {id : Nat} {c : Code} (h : H P Q n (.code c :: .blk id :: k) ρ A) : H P Q n (.code (.block id c) :: k) ρ A := H_block h
theorem BD {id : Nat} (h : H P Q n k ρ A) : H P Q n (.blk id :: k) ρ A := h
theorem CT {x y : Code} (hc : ev ρ c = some (.bool true)) (h : H P Q n (.code x :: k) ρ A) : H P Q n (.code (.cond c x y) :: k) ρ A := H_cond hc (fun _ => h) (fun e => nomatch e)
theorem CF {x y : Code} (hc : ev ρ c = some (.bool false)) (h : H P Q n (.code y :: k) ρ A) : H P Q n (.code (.cond c x y) :: k) ρ A := H_cond hc (fun e => nomatch e) (fun _ => h)
theorem MV (e : (wantedB ops ρ g, Nat.blt d n, ev ρ x) = (some true, true, some v)) (h : HO P Q n ops rest k ((d, v) :: ρ) A) : HO P Q n ops (⟨some d, .move x, t, pos, after, g⟩ :: rest) k ρ A := by
  simp only [Prod.mk.injEq] at e
  exact HO_move e.1 e.2.1 e.2.2 h
theorem AS (e : (wantedB ops ρ g, Nat.blt d n, ev ρ x) = (some true, true, some v)) (h : HO P Q n ops rest k ((d, v) :: ρ) A) : HO P Q n ops (⟨some d, .assign x, t, pos, after, g⟩ :: rest) k ρ A := by
  simp only [Prod.mk.injEq] at e
  exact HO_assign e.1 e.2.1 e.2.2 h
theorem NO {o : Oper} (e : (wantedB ops ρ o.guard, o.dst, Nat.blt d n) = (some false, some d, true)) (h : HO P Q n ops rest k ((d, undef) :: ρ) A) : HO P Q n ops (o :: rest) k ρ A := by
  simp only [Prod.mk.injEq] at e
  exact HO_no e.1 e.2.1 e.2.2 h
theorem PT (e : (wantedB ops ρ g, Nat.blt d n, ev ρ c, ev ρ x) = (some true, true, some (.bool true), some v)) (h : HO P Q n ops rest k ((d, v) :: ρ) A) : HO P Q n ops (⟨some d, .pick c x y, t, pos, after, g⟩ :: rest) k ρ A := by
  simp only [Prod.mk.injEq] at e
  exact HO_pick_t e.1 e.2.1 e.2.2.1 e.2.2.2 h
theorem PF (e : (wantedB ops ρ g, Nat.blt d n, ev ρ c, ev ρ y) = (some true, true, some (.bool false), some v)) (h : HO P Q n ops rest k ((d, v) :: ρ) A) : HO P Q n ops (⟨some d, .pick c x y, t, pos, after, g⟩ :: rest) k ρ A := by
  simp only [Prod.mk.injEq] at e
  exact HO_pick_f e.1 e.2.1 e.2.2.1 e.2.2.2 h
theorem BN {op : BinOp} {xt yt : TypeId} {r : Value} (e : (wantedB ops ρ g, Nat.blt d n, ev ρ x, ev ρ y) = (some true, true, some v, some u)) (hr : BinR P op xt x y v u r) (h : HO P Q n ops rest k ((d, r) :: ρ) A) : HO P Q n ops (⟨some d, .binOp op xt x y yt, t, pos, after, g⟩ :: rest) k ρ A := by
  simp only [Prod.mk.injEq] at e
  exact HO_bin e.1 e.2.1 e.2.2.1 e.2.2.2 hr h
theorem FA {s f b q m : Nat} {fs : Array Field} {fd : Field} (r : Nat) (e : (wantedB ops ρ g, Nat.blt d n, ev ρ x) = (some true, true, some (.pointer (some ⟨b, q, none⟩)))) (hu : P.underlying s = some (.struct fs)) (e2 : (fs[f]?, q + fd.offset) = (some fd, r)) (hs : ∀ w, (sizeOf fd.type).run P w = .ok (m + 1) w) (h : HO P Q n ops rest k ((d, .pointer (some ⟨b, r, none⟩)) :: ρ) A) : HO P Q n ops (⟨some d, .fieldAddr s x f, t, pos, after, g⟩ :: rest) k ρ A := by
  simp only [Prod.mk.injEq] at e e2
  exact HO_fieldAddr e.1 e.2.1 e.2.2 hu e2.1 hs e2.2 h
theorem LD {b : Nat} {cs : List Value} {T : TypeId} (i j : Nat) (e : (wantedB ops ρ g, Nat.blt d n, ev ρ x, X[i]?, cs[j]?) = (some true, true, some (.pointer (some ⟨b, j, none⟩)), some (.loc b cs T), some v)) (ht : ∀ w, (isAgg t).run P w = .ok false w) (h : HO P Q n ops rest k ((d, v) :: ρ) (Asn w0 ok0 M X)) : HO P Q n ops (⟨some d, .load t x, t', pos, after, g⟩ :: rest) k ρ (Asn w0 ok0 M X) := by
  simp only [Prod.mk.injEq] at e
  exact HO_load1 (i := i) (j := j) e.1 e.2.1 e.2.2.1 ht e.2.2.2.1 (.loc _ _ _) (Nat.zero_add j).symm e.2.2.2.2 h
theorem LE {b o q : Nat} {cs : List Value} (i j : Nat) (e : (wantedB ops ρ g, Nat.blt d n, ev ρ x, X[i]?, cs[j]?, q) = (some true, true, some (.pointer (some ⟨b, q, none⟩)), some (.elem b o cs), some v, o + j)) (ht : ∀ w, (isAgg t).run P w = .ok false w) (h : HO P Q n ops rest k ((d, v) :: ρ) (Asn w0 ok0 M X)) : HO P Q n ops (⟨some d, .load t x, t', pos, after, g⟩ :: rest) k ρ (Asn w0 ok0 M X) := by
  simp only [Prod.mk.injEq] at e
  exact HO_load1 (i := i) (j := j) e.1 e.2.1 e.2.2.1 ht e.2.2.2.1 (.elem _ _ _) e.2.2.2.2.2 e.2.2.2.2.1 h
theorem LA {b o q m : Nat} {all : List Value} {a : Atom} (i : Nat) (us cs ts : List Value) (e : (wantedB ops ρ g, Nat.blt d n, ev ρ x, X[i]?) = (some true, true, some (.pointer (some ⟨b, q, none⟩)), some a)) (ha : Tells a b o all) (ht : ∀ w, (isAgg t).run P w = .ok true w) (hs : ∀ w, (sizeOf t).run P w = .ok m w) (e2 : (all, cs.length, q) = (us ++ (cs ++ ts), m, o + us.length)) (h : HO P Q n ops rest k ((d, .agg cs.toArray) :: ρ) (Asn w0 ok0 M X)) : HO P Q n ops (⟨some d, .load t x, t', pos, after, g⟩ :: rest) k ρ (Asn w0 ok0 M X) := by
  simp only [Prod.mk.injEq] at e e2
  exact HO_loadA (i := i) e.1 e.2.1 e.2.2.1 ht hs e.2.2.2 ha e2.1 e2.2.1 rfl e2.2.2 h
theorem SR {gb m : Nat} {all : List Value} {T : TypeId} (i : Nat) (us old ts cs : List Value) (R : List Atom) (new : List Value) (hs : ∀ w, (sizeOf t).run P w = .ok m w) (e : (wantedB ops ρ g, ev ρ x, ev ρ y, v.cells, picks [i] X, all, cs.length, new, cs.all Value.oneCell', old.length) = (some true, some (.pointer (some ⟨gb, us.length, none⟩)), some v, cs.toArray, some ([.loc gb all T], R), us ++ (old ++ ts), m, us ++ (cs ++ ts), true, m)) (h : HO P Q n ops rest k ρ (Asn w0 ok0 M (.loc gb new T :: R))) : HO P Q n ops (⟨none, .store t x y, t', pos, after, g⟩ :: rest) k ρ (Asn w0 ok0 M X) := by
  simp only [Prod.mk.injEq] at e
  obtain ⟨e1, e2, e3, e4, e5, e6, e7, e8, e9, e10⟩ := e
  exact HO_store (i := i) (j := 0) e1 e2 e3 hs e4 (fun u hu => List.all_eq_true.1 e9 u hu) e5 e6 e10 e7 rfl e8.symm h
theorem CB {c : Operand} {F : FuncId} {xs : Array Operand} {ts : Array TypeId} {vs : List Value} {β : Type} {val : β → Value} {I : β → Prop} {new : β → List Atom} {pre : List Atom} {args : Array Value} (is : List Nat) (R : List Atom)
    (e : (wantedB ops ρ g, Nat.blt d n, ev ρ c, evs ρ xs.toList, vs.toArray, picks is X) = (some true, true, some (.func (.func F) #[] #[]), some vs, args, some (pre, R))) (hcall : ∀ args w, (callFunc F args).run P w = .ok (.enter F args) w) (hS : Spec P F args pre val I new)
    (h : ∀ y, I y → HO P Q n ops rest k ((d, val y) :: ρ) (Asn w0 ok0 M (new y ++ R))) : HO P Q n ops (⟨some d, .call ⟨.value c, xs, ts⟩, t, pos, after, g⟩ :: rest) k ρ (Asn w0 ok0 M X) := by
  simp only [Prod.mk.injEq] at e
  obtain ⟨e1, e2, e3, e4, e5, e6⟩ := e
  exact HO_call (first := []) (capt := []) (is := is) (R := R) e1 e2 e3 e4 (by rw [List.append_nil]; exact e5) hcall e6 hS h
theorem BX (cs : List Value) (e : (wantedB ops ρ g, Nat.blt d n, ev ρ x, v.cells) = (some true, true, some v, cs.toArray)) (h : ∀ gb, HO P Q n ops rest k ((d, .pointer (some ⟨gb, 0, none⟩)) :: ρ) (Asn w0 ok0 M (.loc gb cs t :: X))) : HO P Q n ops (⟨some d, .box t x, t', pos, after, g⟩ :: rest) k ρ (Asn w0 ok0 M X) := by
  simp only [Prod.mk.injEq] at e
  exact HO_box e.1 e.2.1 e.2.2.1 e.2.2.2 h
theorem AO {z : Value} (cs : List Value) (hz : ∀ w, (zeroValue t).run P w = .ok z w) (e : (wantedB ops ρ g, Nat.blt d n, z.cells) = (some true, true, cs.toArray)) (h : ∀ gb, HO P Q n ops rest k ((d, .pointer (some ⟨gb, 0, none⟩)) :: ρ) (Asn w0 ok0 M (.loc gb cs t :: X))) : HO P Q n ops (⟨some d, .alloc t, t', pos, after, g⟩ :: rest) k ρ (Asn w0 ok0 M X) := by
  simp only [Prod.mk.injEq] at e
  exact HO_alloc e.1 e.2.1 hz e.2.2 h
theorem EX {i : Nat} (vs : List Value) (e : (wantedB ops ρ g, Nat.blt d n, ev ρ x, vs[i]?) = (some true, true, some (.tuple vs.toArray), some v)) (h : HO P Q n ops rest k ((d, v) :: ρ) A) : HO P Q n ops (⟨some d, .extract x i, t, pos, after, g⟩ :: rest) k ρ A := by
  simp only [Prod.mk.injEq] at e
  exact HO_extract e.1 e.2.1 e.2.2.1 e.2.2.2 h
theorem NC {ad : Addr} (e : (wantedB ops ρ g, Nat.blt d n, ev ρ x) = (some true, true, some (.pointer (some ad)))) (h : HO P Q n ops rest k ((d, .pointer (some ad)) :: ρ) A) : HO P Q n ops (⟨some d, .nilCheck x, t, pos, after, g⟩ :: rest) k ρ A := by
  simp only [Prod.mk.injEq] at e
  exact HO_nilCheck e.1 e.2.1 e.2.2 h
theorem BI {b : Builtin} {xs : Array Operand} {ts : Array TypeId} {vs : List Value} (e : (wantedB ops ρ g, Nat.blt d n, evs ρ xs.toList) = (some true, true, some vs)) (hrun : ∀ cs w, A w → (builtin b ts t cs vs.toArray).run P w = .ok (.value v) w) (h : HO P Q n ops rest k ((d, v) :: ρ) A) : HO P Q n ops (⟨some d, .call ⟨.builtin b, xs, ts⟩, t, pos, after, g⟩ :: rest) k ρ A := by
  simp only [Prod.mk.injEq] at e
  exact HO_bi e.1 e.2.1 e.2.2 hrun h
theorem CV {ts td : TypeId} (e : (wantedB ops ρ g, Nat.blt d n, ev ρ x) = (some true, true, some v)) (hr : ∀ w, A w → (convert ts td v).run P w = .ok u w) (h : HO P Q n ops rest k ((d, u) :: ρ) A) : HO P Q n ops (⟨some d, .convert ts td x, t, pos, after, g⟩ :: rest) k ρ A := by
  simp only [Prod.mk.injEq] at e
  exact HO_conv e.1 e.2.1 e.2.2 hr h
theorem NT {b : Bool} (e : (wantedB ops ρ g, Nat.blt d n, ev ρ x) = (some true, true, some (.bool b))) (h : HO P Q n ops rest k ((d, .bool (!b)) :: ρ) A) : HO P Q n ops (⟨some d, .unOp .not t' x, t, pos, after, g⟩ :: rest) k ρ A := by
  simp only [Prod.mk.injEq] at e
  exact HO_not e.1 e.2.1 e.2.2 h
theorem DU {a : Atom} (i : Nat) (e : (X[i]?, a.blk) = (some a, noB)) (h : HO P Q n ops rest k ρ (Asn w0 ok0 M (a :: X))) : HO P Q n ops rest k ρ (Asn w0 ok0 M X) := by
  simp only [Prod.mk.injEq] at e
  exact HO_dup e.1 e.2 h
theorem BK {listed listed' : Array Bool} {fuel i : Nat} (m : Nat) (Y : List Atom) (e : (listed.setIfInBounds i true, keepN m X) = (listed', Y)) (h : HA P Q n ops (Asn w0 ok0 M Y) listed' fuel k ρ (Asn w0 ok0 M X)) : HO P Q n ops [] (.inv (fun a w => Asn w0 ok0 M Y w ∧ wpAnyH P .any ops (post Q (den P Q k)) (Asn w0 ok0 M Y) fuel (listed.setIfInBounds i true) a w) :: k) ρ (Asn w0 ok0 M X) := by
  simp only [Prod.mk.injEq] at e
  exact HA_back e.1 (kn m Y e.2) h
theorem BL {listed listed' : Array Bool} {fuel i : Nat} (e : listed.setIfInBounds i true = listed') (h : HA P Q n ops (Asn w0 ok0 M X) listed' fuel k ρ (Asn w0 ok0 M X)) : HO P Q n ops [] (.inv (fun a w => Asn w0 ok0 M X w ∧ wpAnyH P .any ops (post Q (den P Q k)) (Asn w0 ok0 M X) fuel (listed.setIfInBounds i true) a w) :: k) ρ (Asn w0 ok0 M X) := HA_back e (fun _ h => h) h
theorem LO {S : World → Prop} {listed : Array Bool} {fuel : Nat} {o : Oper} (i : Nat) (hr : Region.ready .any ops listed = [i]) (hi : ops[i]? = some o) (h : HO P Q n ops [o] (.inv (fun a w => S w ∧ wpAnyH P .any ops (post Q (den P Q k)) S fuel (listed.setIfInBounds i true) a w) :: k) ρ A) : HA P Q n ops S listed (fuel + 1) k ρ A := HA_loud1 hr hi h
end
section
variable {P : Program} {n : Nat} {k : List It} {ρ : Env} {A : World → Prop} {ops : Array Oper}
variable {w0 : World} {ok0 M : Nat → Prop} {X Y : List Atom} {d : Nat} {v : Value} {fn : Func} {R : Ending → World → Prop}
theorem TK {listed listed' : Array Bool} {fuel : Nat} {o : Oper} (i m : Nat) (Y : List Atom) (e : (ops[i]?, wantedB ops ρ o.guard, o.dst, Nat.blt d n, listed.setIfInBounds i true, keepN m X) = (some o, some true, some d, true, listed', Y))
    (hc : (Region.noSelect ops && Region.free .any ops listed i && (Region.ready .any ops listed).contains i) = true) (hv : Val P n ρ (Asn w0 ok0 M Y) o v)
    (h : HA P (bodyPost P fn R) n ops (Asn w0 ok0 M Y) listed' fuel k ((d, v) :: ρ) (Asn w0 ok0 M X)) : HA P (bodyPost P fn R) n ops (Asn w0 ok0 M Y) listed (fuel + 1) k ρ (Asn w0 ok0 M X) := by
  simp only [Prod.mk.injEq] at e
  obtain ⟨e1, e2, e3, e4, e5, e6⟩ := e
  exact HA_take (bodyPost_pan _ _ _) e1 e2 e3 e4 hc e5 hv (kn m Y e6) h
theorem TA {listed listed' : Array Bool} {fuel : Nat} {o : Oper} (i : Nat) (e : (ops[i]?, wantedB ops ρ o.guard, o.dst, Nat.blt d n, listed.setIfInBounds i true) = (some o, some true, some d, true, listed'))
    (hc : (Region.noSelect ops && Region.free .any ops listed i && (Region.ready .any ops listed).contains i) = true) (hv : Val P n ρ (Asn w0 ok0 M X) o v)
    (h : HA P (bodyPost P fn R) n ops (Asn w0 ok0 M X) listed' fuel k ((d, v) :: ρ) (Asn w0 ok0 M X)) : HA P (bodyPost P fn R) n ops (Asn w0 ok0 M X) listed (fuel + 1) k ρ (Asn w0 ok0 M X) := by
  simp only [Prod.mk.injEq] at e
  obtain ⟨e1, e2, e3, e4, e5⟩ := e
  exact HA_take (bodyPost_pan _ _ _) e1 e2 e3 e4 hc e5 hv (fun _ h => h) h
variable {β : Type} {val : β → Value} {I : β → Prop} {new : β → List Atom} {wb : World} {okb Mb : Nat → Prop} {t1 t2 : Nat} {v1 v2 : Value}
theorem R1 (hr : fn.results = #[.tmp t1]) (y : β) (e : look ρ t1 = some v1) (h : ∀ w, A w → v1 = val y ∧ I y ∧ Asn wb okb Mb (new y) w) : H P (bodyPost P fn fun e w' => ∃ y, e = .returned (val y) ∧ I y ∧ Asn wb okb Mb (new y) w') n (.code .ret :: k) ρ A :=
  H_ret1 hr (.tmp e) fun w hA => ⟨y, congrArg Ending.returned (h w hA).1, (h w hA).2⟩
theorem R2 (hr : fn.results = #[.tmp t1, .tmp t2]) (y : β) (e : (look ρ t1, look ρ t2) = (some v1, some v2)) (h : ∀ w, A w → .tuple #[v1, v2] = val y ∧ I y ∧ Asn wb okb Mb (new y) w) : H P (bodyPost P fn fun e w' => ∃ y, e = .returned (val y) ∧ I y ∧ Asn wb okb Mb (new y) w') n (.code .ret :: k) ρ A := by
  simp only [Prod.mk.injEq] at e
  exact H_ret2 hr (.tmp e.1) (.tmp e.2) fun w hA => ⟨y, congrArg Ending.returned (h w hA).1, (h w hA).2⟩
end
end Go.Wk
