/- What is literal is what it says: two operands, both literal, and what the model makes of them. No program. -/
import Derived.Test.YthlkbpkjmkdilaaGreatAb30
import Derived.Test.YthlkbpkjmkdilaaGreatAb31
set_option linter.unusedVariables false
set_option linter.unusedSimpArgs false
namespace Go.Ab
def SV.lit : SV → Option Value
  | .int k n => some (.int k n)
  | .bool b => some (.bool b)
  | .nilp => some (.pointer none)
  | .nils => some (.slice none 0 0)
  | .val u => some u
  | _ => none
def litS : List Seg → Option (List Value)
  | [] => some []
  | .one v :: r => match v.lit, litS r with
    | some x, some l => some (x :: l)
    | _, _ => none
  | .ints k n l :: r => match litS r with
    | some q => some ((List.range n).map (fun i => Value.int k (l.getD i 0)) ++ q)
    | none => none
  | .svs .. :: _ => none
def AV.lit : AV → Option Value
  | .s v => v.lit
  | .agg l => (litS l).map fun c => .agg c.toArray
  | .tup _ => none
theorem SV.lit_eq {ρ : Rho} {x : SV} {u v : Value} (h : x.lit = some u) (hr : x.rep ρ v) : v = u := by
  cases x <;> simp only [SV.lit, Option.some.injEq, reduceCtorEq] at h <;> subst h <;> first | exact hr | exact hr.1
theorem litS_at : ∀ {l : List Seg} {c : List Value}, litS l = some c → c.length = sizeS l ∧ ∀ (i : Nat), i < sizeS l → ∃ x u, atS l i = some x ∧ x.lit = some u ∧ c[i]? = some u
  | [], c, h => by
    simp only [litS, Option.some.injEq] at h
    subst h
    exact ⟨rfl, fun i hi => absurd hi (Nat.not_lt_zero i)⟩
  | .one v :: r, c, h => by
    simp only [litS] at h
    split at h
    · rename_i x l hx hl
      simp only [Option.some.injEq] at h
      subst h
      obtain ⟨h1, h2⟩ := litS_at hl
      refine ⟨by simp [sizeS, Seg.size, h1]; omega, fun i hi => ?_⟩
      match i with
      | 0 => exact ⟨v, x, by simp [atS, Seg.size, Seg.at], hx, rfl⟩
      | i + 1 =>
        obtain ⟨y, u, k1, k2, k3⟩ := h2 i (by simp only [sizeS, Seg.size] at hi; omega)
        exact ⟨y, u, by simp [atS, Seg.size, k1], k2, by simpa using k3⟩
    · simp at h
  | .ints k n l :: r, c, h => by
    simp only [litS] at h
    split at h
    · rename_i q hl
      simp only [Option.some.injEq] at h
      subst h
      obtain ⟨h1, h2⟩ := litS_at hl
      refine ⟨by simp [sizeS, Seg.size, h1], fun i hi => ?_⟩
      have hs : (Seg.ints k n l).size = n := rfl
      by_cases h3 : i < n
      · exact ⟨.int k (l.getD i 0), .int k (l.getD i 0), by rw [atS, hs, if_pos h3]; rfl, rfl, by rw [List.getElem?_append_left (by simpa using h3)]; simp [h3]⟩
      · obtain ⟨y, u, k1, k2, k3⟩ := h2 (i - n) (by simp only [sizeS, hs] at hi; omega)
        exact ⟨y, u, by rw [atS, hs, if_neg h3]; exact k1, k2, by rw [List.getElem?_append_right (by simp; omega)]; simpa using k3⟩
    · simp at h
  | .svs .. :: r, c, h => by simp [litS] at h
theorem AV.lit_eq {ρ : Rho} {x : AV} {u v : Value} (h : x.lit = some u) (hr : x.rep ρ v) : v = u := by
  cases x with
  | s x => exact SV.lit_eq h hr
  | agg l =>
    simp only [AV.lit, Option.map_eq_some_iff] at h
    obtain ⟨c, hc, rfl⟩ := h
    obtain ⟨h1, h2⟩ := litS_at hc
    obtain ⟨cs, rfl, hs, hr⟩ := hr
    congr 1
    apply Array.ext_getElem?
    intro i
    by_cases hi : i < sizeS l
    · obtain ⟨x, u, k1, k2, k3⟩ := h2 i hi
      obtain ⟨y, k4, k5⟩ := hr i x k1
      have := SV.lit_eq k2 k5.1
      subst this
      simp only at k4
      rw [k4, List.getElem?_toArray, k3]
    · rw [Array.getElem?_eq_none (by omega), List.getElem?_toArray, List.getElem?_eq_none (by omega)]
  | tup l => simp [AV.lit] at h
section rules
variable {P : Program} {T : Tm} {H : Heap} {d : Option Tmp} {ty : TypeId} {pos : String} {af : Array Edge} {g : Option (Nat × Bool)}
/-- Both operands literal. -/
theorem h_litb {op : BinOp} {t tyy : TypeId} {x y : Operand} {a b : AV} {u v : Value} {r : SV} {z : Value} (hx : ev T x = a) (hy : ev T y = b) (hu : a.lit = some u) (hv : b.lit = some v)
    (hg : ∀ w, (eqGuard op t x y u v).run P w = .ok () w) (hr : ∀ w, (binOp op t u v).run P w = .ok z w) (hz : r.lit = some z) (ho : z.oneCell' = true) : HOk P ⟨d, .binOp op t x y tyy, ty, pos, af, g⟩ T H (.s r) [] :=
  .pure fun W ρ ac w _ hop => by
    obtain ⟨h1, h2⟩ := two (op := .binOp op t x y tyy) rfl hop hx hy
    have h1 := AV.lit_eq hu h1
    have h2 := AV.lit_eq hv h2
    refine ⟨z, by simp [execOp, h1, h2, Sem.run_bind, hg, hr], ?_⟩
    cases r <;> simp only [SV.lit, Option.some.injEq, reduceCtorEq] at hz <;> subst hz <;> first | rfl | exact ⟨rfl, ho⟩
end rules
end Go.Ab
