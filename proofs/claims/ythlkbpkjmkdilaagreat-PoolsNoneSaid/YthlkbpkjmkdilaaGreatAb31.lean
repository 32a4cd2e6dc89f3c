/- Two structs of arrays, as an argument, opened. No program. -/
import Derived.Test.YthlkbpkjmkdilaaGreatAb30
import Derived.OpenShut
set_option linter.unusedVariables false
set_option linter.unusedSimpArgs false
namespace Go.Ab
section
open Go.ChangeShapes
variable {Hh : Type} {enc : TypeId × Value → Hh} {P : Program} {w : World} {base : Nat} {spare : Nat → Bool} {held : Bool}
theorem open_keys2 {r : Reach} {b0 : Nat} {tt t e : TypeId} {f0 f1 : Field} {n m : Nat} {k : IntKind} {v : Value} {d : DataW Hh} {ps : List MemPlace} (htt : P.underlying tt = some (.array 2 t)) (hctt : P.cellsOf tt = 2 * (n + m)) (ht : P.underlying t = some (.struct #[f0, f1])) (h0 : P.underlying f0.type = some (.array n e)) (h1 : P.underlying f1.type = some (.array m e)) (he : P.underlying e = some (.int k)) (hc : P.cellsOf e = 1) (c0 : P.cellsOf f0.type = n) (c1 : P.cellsOf f1.type = m) (o0 : f0.offset = 0) (o1 : f1.offset = n) (hct : P.cellsOf t = n + m)
    (hval : Value.okWide P w r b0 tt v) (hd : DataW.Trod enc P w base spare held tt v d ps) : ∃ l0 l1 l2 l3 : List Int, (l0.length = n ∧ l1.length = m ∧ l2.length = n ∧ l3.length = m) ∧ (∀ y ∈ l1, (Lit.int k y).wf = true) ∧ (∀ y ∈ l3, (Lit.int k y).wf = true) ∧ ∀ ρ, (AV.agg [.ints k n l0, .ints k m l1, .ints k n l2, .ints k m l3]).rep ρ v := by
  simp only [Value.okWide, htt] at hval
  obtain ⟨cs, rfl, _, _⟩ := hval
  obtain ⟨fuel, hf⟩ := hd
  obtain ⟨xs, q, _, _, hl, hlen, hall⟩ := DataW.trod_array htt hf
  match xs, hlen with
  | [y0, y1], _ =>
    have q0 := hall 0 (by omega)
    have q1 := hall 1 (by omega)
    simp only [List.getElem?_cons_zero, List.getElem?_cons_succ, hct] at q0 q1
    obtain ⟨l0, l1, a0, a1, _, w1, e0⟩ := open_keys_cells ht h0 h1 he hc c0 c1 o0 o1 hct q0
    obtain ⟨l2, l3, a2, a3, _, w3, e1⟩ := open_keys_cells ht h0 h1 he hc c0 c1 o0 o1 hct q1
    refine ⟨l0, l1, l2, l3, ⟨a0, a1, a2, a3⟩, w1, w3, fun ρ => ?_⟩
    obtain ⟨l⟩ := cs
    simp only [Value.cells, Nat.zero_mul, List.drop_zero, Nat.one_mul] at e0 e1 hl
    rw [hctt] at hl
    have e' : l = l0.map (Value.int k) ++ (l1.map (Value.int k) ++ (l2.map (Value.int k) ++ (l3.map (Value.int k) ++ []))) := by
      have s1 : l = l.take (n + m) ++ l.drop (n + m) := (List.take_append_drop _ _).symm
      have s2 : (l.drop (n + m)).take (n + m) = l.drop (n + m) := List.take_of_length_le (by simp; omega)
      rw [s2] at e1
      rw [s1, e0, e1, List.append_nil, List.append_assoc]
    rw [e']
    exact rep_cons_ints a0 (rep_cons_ints a1 (rep_cons_ints a2 (rep_cons_ints a3 rep_nil_agg)))
end
end Go.Ab
