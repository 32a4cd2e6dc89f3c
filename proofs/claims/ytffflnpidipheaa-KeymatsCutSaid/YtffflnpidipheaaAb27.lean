/- Arguments opened: a number, structs of arrays, numbers and slices. No program. -/
import Derived.Test.YtffflnpidipheaaAb26
import Derived.Test.YtffflnpidipheaaAb14
import Derived.ChangeSame
namespace Go.Ab
section
open Go.ChangeShapes
variable {Hh : Type} {enc : TypeId × Value → Hh} {P : Program} {w : World} {base : Nat} {spare : Nat → Bool} {held : Bool}
theorem open_int {r : Reach} {b0 : Nat} {t : TypeId} {k : IntKind} {v : Value} {d : DataW Hh} {ps : List MemPlace} (ht : P.underlying t = some (.int k))
    (hval : Value.okWide P w r b0 t v) (hd : DataW.Trod enc P w base spare held t v d ps) : ∃ n, v = .int k n ∧ (Lit.int k n).wf = true := by
  obtain ⟨fuel, hf⟩ := hd
  have hv : v.cells = #[v] := by
    simp only [Value.okWide, ht] at hval
    cases v <;> first | rfl | (simp [Cell.okWide, Cell.ok, ht] at hval)
  rw [hv] at hf
  obtain ⟨z, hz, _, hw⟩ := DataW.trod_int ht hf
  simp at hz
  exact ⟨z, hz, hw⟩
theorem trod_three {t : TypeId} {f0 f1 f2 : Field} {fuel : Nat} {cs : List Value} {x : DataW Hh × List MemPlace} (ht : P.underlying t = some (.struct #[f0, f1, f2])) (h : DataW.trod enc P w base spare held fuel t cs = some x) :
    ∃ y0 y1 y2 n, cs.length = P.cellsOf t ∧ DataW.trod enc P w base spare held n f0.type ((cs.drop f0.offset).take (P.cellsOf f0.type)) = some y0 ∧
      DataW.trod enc P w base spare held n f1.type ((cs.drop f1.offset).take (P.cellsOf f1.type)) = some y1 ∧ DataW.trod enc P w base spare held n f2.type ((cs.drop f2.offset).take (P.cellsOf f2.type)) = some y2 := by
  obtain ⟨xs, n, _, rfl, hl, hlen, hf⟩ := DataW.trod_struct ht h
  match xs, hlen with
  | [y0, y1, y2], _ => exact ⟨y0, y1, y2, n, hl, by simpa using hf 0 f0 rfl, by simpa using hf 1 f1 rfl, by simpa using hf 2 f2 rfl⟩
theorem trod_four {t : TypeId} {f0 f1 f2 f3 : Field} {fuel : Nat} {cs : List Value} {x : DataW Hh × List MemPlace} (ht : P.underlying t = some (.struct #[f0, f1, f2, f3])) (h : DataW.trod enc P w base spare held fuel t cs = some x) :
    ∃ y0 y1 y2 y3 n, cs.length = P.cellsOf t ∧ DataW.trod enc P w base spare held n f0.type ((cs.drop f0.offset).take (P.cellsOf f0.type)) = some y0 ∧
      DataW.trod enc P w base spare held n f1.type ((cs.drop f1.offset).take (P.cellsOf f1.type)) = some y1 ∧ DataW.trod enc P w base spare held n f2.type ((cs.drop f2.offset).take (P.cellsOf f2.type)) = some y2 ∧
      DataW.trod enc P w base spare held n f3.type ((cs.drop f3.offset).take (P.cellsOf f3.type)) = some y3 := by
  obtain ⟨xs, n, _, rfl, hl, hlen, hf⟩ := DataW.trod_struct ht h
  match xs, hlen with
  | [y0, y1, y2, y3], _ => exact ⟨y0, y1, y2, y3, n, hl, by simpa using hf 0 f0 rfl, by simpa using hf 1 f1 rfl, by simpa using hf 2 f2 rfl, by simpa using hf 3 f3 rfl⟩
/-- A struct of a slice and three numbers. -/
theorem open_cuts {r : Reach} {b0 : Nat} {t s e i1 i2 i3 : TypeId} {f0 f1 f2 f3 : Field} {k k1 k2 k3 : IntKind} {v : Value} {d : DataW Hh} {ps : List MemPlace} (ht : P.underlying t = some (.struct #[f0, f1, f2, f3])) (hf0 : f0.type = s) (hf1 : f1.type = i1) (hf2 : f2.type = i2) (hf3 : f3.type = i3)
    (o0 : f0.offset = 0) (o1 : f1.offset = 1) (o2 : f2.offset = 2) (o3 : f3.offset = 3) (hs : P.underlying s = some (.slice e)) (he : P.underlying e = some (.int k)) (h1 : P.underlying i1 = some (.int k1)) (h2 : P.underlying i2 = some (.int k2)) (h3 : P.underlying i3 = some (.int k3))
    (hc : P.cellsOf e = 1) (hcs : P.cellsOf s = 1) (c1 : P.cellsOf i1 = 1) (c2 : P.cellsOf i2 = 1) (c3 : P.cellsOf i3 = 1) (hct : P.cellsOf t = 4)
    (hval : Value.okWide P w r b0 t v) (hd : DataW.Trod enc P w base spare held t v d ps) : ∃ c n1 n2 n3, v = .agg #[c, .int k1 n1, .int k2 n2, .int k3 n3] ∧ Sl k w c ∧ (Lit.int k1 n1).wf = true ∧ (Lit.int k2 n2).wf = true ∧ (Lit.int k3 n3).wf = true := by
  subst hf0; subst hf1; subst hf2; subst hf3
  simp only [Value.okWide, ht] at hval
  obtain ⟨cs, rfl, hsz, _⟩ := hval
  obtain ⟨fuel, hf⟩ := hd
  obtain ⟨y0, y1, y2, y3, m, hl, q0, q1, q2, q3⟩ := trod_four ht hf
  obtain ⟨l⟩ := cs
  have hl : l.length = 4 := by rw [hct] at hsz; simpa using hsz
  obtain ⟨a0, a1, a2, a3, rfl⟩ : ∃ a0 a1 a2 a3, l = [a0, a1, a2, a3] := by
    match l, hl with
    | [a0, a1, a2, a3], _ => exact ⟨a0, a1, a2, a3, rfl⟩
  simp only [o0, o1, o2, o3, hcs, c1, c2, c3, Value.cells] at q0 q1 q2 q3
  obtain ⟨z1, hz1, _, w1⟩ := DataW.trod_int h1 q1
  obtain ⟨z2, hz2, _, w2⟩ := DataW.trod_int h2 q2
  obtain ⟨z3, hz3, _, w3⟩ := DataW.trod_int h3 q3
  simp at hz1 hz2 hz3
  subst hz1; subst hz2; subst hz3
  refine ⟨a0, z1, z2, z3, rfl, ?_, w1, w2, w3⟩
  rcases open_sl hs he hc q0 with ⟨a, c, hh⟩ | ⟨v, b, o, len, cap, zs, hh, hi⟩
  · simp at hh; exact .inl ⟨a, c, hh⟩
  · simp at hh; subst hh; exact .inr ⟨b, o, len, cap, zs, hi⟩
theorem rep_nil_agg {ρ : Rho} : (AV.agg []).rep ρ (.agg ([] : List Value).toArray) := ⟨_, rfl, rfl, fun i x hx => by simp [atS] at hx⟩
theorem rep_cons_one {ρ : Rho} {v : SV} {u : Value} {segs : List Seg} {cs : List Value} (hv : v.cell ρ u) (h : (AV.agg segs).rep ρ (.agg cs.toArray)) : (AV.agg (.one v :: segs)).rep ρ (.agg (u :: cs).toArray) := by
  obtain ⟨cs', e, hs, hr⟩ := h
  cases e
  refine ⟨_, rfl, by simp [sizeS, Seg.size] at hs ⊢; omega, fun i x hx => ?_⟩
  cases i with
  | zero => simp [atS, Seg.size, Seg.at] at hx; subst hx; exact ⟨u, by simp, hv⟩
  | succ i =>
    simp [atS, Seg.size] at hx
    obtain ⟨y, h1, h2⟩ := hr i x hx
    exact ⟨y, by simpa using h1, h2⟩
theorem rep_cons_ints {ρ : Rho} {k : IntKind} {n : Nat} {l : List Int} {segs : List Seg} {cs : List Value} (hl : l.length = n) (h : (AV.agg segs).rep ρ (.agg cs.toArray)) : (AV.agg (.ints k n l :: segs)).rep ρ (.agg (l.map (Value.int k) ++ cs).toArray) := by
  obtain ⟨cs', e, hs, hr⟩ := h
  cases e
  refine ⟨_, rfl, by simp [sizeS, Seg.size] at hs ⊢; omega, fun i x hx => ?_⟩
  simp only [atS] at hx
  by_cases hi : i < (Seg.ints k n l).size
  · rw [if_pos hi] at hx
    have hi : i < n := hi
    simp only [Seg.at, Option.some.injEq] at hx
    subst hx
    refine ⟨.int k (l.getD i 0), ?_, rfl, rfl⟩
    have hi' : i < l.length := by omega
    simp [List.getElem?_append_left, hi']
  · rw [if_neg hi] at hx
    have hi : ¬ i < n := hi
    have hx : atS segs (i - n) = some x := hx
    obtain ⟨y, h1, h2⟩ := hr (i - n) x hx
    refine ⟨y, ?_, h2⟩
    simp at h1 ⊢
    rw [List.getElem?_append_right (by simp; omega)]
    simpa [hl] using h1
/-- Two arrays of integers, as cells. -/
theorem open_keys_cells {t e : TypeId} {f0 f1 : Field} {n m : Nat} {k : IntKind} {fuel : Nat} {cs : List Value} {x : DataW Hh × List MemPlace} (ht : P.underlying t = some (.struct #[f0, f1])) (h0 : P.underlying f0.type = some (.array n e)) (h1 : P.underlying f1.type = some (.array m e)) (he : P.underlying e = some (.int k)) (hc : P.cellsOf e = 1) (c0 : P.cellsOf f0.type = n) (c1 : P.cellsOf f1.type = m) (o0 : f0.offset = 0) (o1 : f1.offset = n) (hct : P.cellsOf t = n + m)
    (h : DataW.trod enc P w base spare held fuel t cs = some x) : ∃ l0 l1 : List Int, l0.length = n ∧ l1.length = m ∧ (∀ y ∈ l0, (Lit.int k y).wf = true) ∧ (∀ y ∈ l1, (Lit.int k y).wf = true) ∧ cs = l0.map (Value.int k) ++ l1.map (Value.int k) := by
  obtain ⟨y0, y1, q, _, hl, q0, q1⟩ := trod_struct2 ht h
  rw [c0, o0] at q0
  rw [c1, o1] at q1
  obtain ⟨_, l0, a1, a2, a3⟩ := open_arr_cells h0 he hc c0 q0
  obtain ⟨_, l1, b1, b2, b3⟩ := open_arr_cells h1 he hc c1 q1
  refine ⟨l0, l1, a1, b1, a2, b2, ?_⟩
  rw [← a3, ← b3, List.drop_zero]
  rw [hct] at hl
  have : (cs.drop n).take m = cs.drop n := List.take_of_length_le (by simp; omega)
  rw [this, List.take_append_drop]
theorem open_keys {r : Reach} {b0 : Nat} {t e : TypeId} {f0 f1 : Field} {n m : Nat} {k : IntKind} {v : Value} {d : DataW Hh} {ps : List MemPlace} (ht : P.underlying t = some (.struct #[f0, f1])) (h0 : P.underlying f0.type = some (.array n e)) (h1 : P.underlying f1.type = some (.array m e)) (he : P.underlying e = some (.int k)) (hc : P.cellsOf e = 1) (c0 : P.cellsOf f0.type = n) (c1 : P.cellsOf f1.type = m) (o0 : f0.offset = 0) (o1 : f1.offset = n) (hct : P.cellsOf t = n + m)
    (hval : Value.okWide P w r b0 t v) (hd : DataW.Trod enc P w base spare held t v d ps) : ∃ l0 l1 : List Int, l0.length = n ∧ l1.length = m ∧ (∀ y ∈ l0, (Lit.int k y).wf = true) ∧ (∀ y ∈ l1, (Lit.int k y).wf = true) ∧ ∀ ρ, (AV.agg [.ints k n l0, .ints k m l1]).rep ρ v := by
  simp only [Value.okWide, ht] at hval
  obtain ⟨cs, rfl, _, _⟩ := hval
  obtain ⟨fuel, hf⟩ := hd
  obtain ⟨l0, l1, a0, a1, w0, w1, e⟩ := open_keys_cells ht h0 h1 he hc c0 c1 o0 o1 hct hf
  refine ⟨l0, l1, a0, a1, w0, w1, fun ρ => ?_⟩
  have e' : cs = (l0.map (Value.int k) ++ (l1.map (Value.int k) ++ [])).toArray := by
    rw [List.append_nil, ← e]; rfl
  rw [e']
  exact rep_cons_ints a0 (rep_cons_ints a1 rep_nil_agg)
/-- Keys, and two numbers. -/
theorem open_given {r : Reach} {b0 : Nat} {t tk e i1 i2 : TypeId} {g0 g1 g2 f0 f1 : Field} {n m : Nat} {k k1 k2 : IntKind} {v : Value} {d : DataW Hh} {ps : List MemPlace} (ht : P.underlying t = some (.struct #[g0, g1, g2])) (hg0 : g0.type = tk) (hg1 : g1.type = i1) (hg2 : g2.type = i2) (p0 : g0.offset = 0) (p1 : g1.offset = n + m) (p2 : g2.offset = n + m + 1) (hi1 : P.underlying i1 = some (.int k1)) (hi2 : P.underlying i2 = some (.int k2)) (ci1 : P.cellsOf i1 = 1) (ci2 : P.cellsOf i2 = 1) (ct : P.cellsOf t = n + m + 2)
    (htk : P.underlying tk = some (.struct #[f0, f1])) (h0 : P.underlying f0.type = some (.array n e)) (h1 : P.underlying f1.type = some (.array m e)) (he : P.underlying e = some (.int k)) (hc : P.cellsOf e = 1) (c0 : P.cellsOf f0.type = n) (c1 : P.cellsOf f1.type = m) (o0 : f0.offset = 0) (o1 : f1.offset = n) (hct : P.cellsOf tk = n + m)
    (hval : Value.okWide P w r b0 t v) (hd : DataW.Trod enc P w base spare held t v d ps) : ∃ (l0 l1 : List Int) (a b : Int), l0.length = n ∧ l1.length = m ∧ (∀ y ∈ l0, (Lit.int k y).wf = true) ∧ (∀ y ∈ l1, (Lit.int k y).wf = true) ∧ (Lit.int k1 a).wf = true ∧ (Lit.int k2 b).wf = true ∧ ∀ ρ, (AV.agg [.ints k n l0, .ints k m l1, .one (.int k1 a), .one (.int k2 b)]).rep ρ v := by
  subst hg0; subst hg1; subst hg2
  simp only [Value.okWide, ht] at hval
  obtain ⟨cs, rfl, hsz, _⟩ := hval
  obtain ⟨fuel, hf⟩ := hd
  obtain ⟨y0, y1, y2, q, hl, q0, q1, q2⟩ := trod_three ht hf
  rw [hct, p0] at q0
  rw [ci1, p1] at q1
  rw [ci2, p2] at q2
  obtain ⟨l0, l1, a0, a1, w0, w1, e0⟩ := open_keys_cells htk h0 h1 he hc c0 c1 o0 o1 hct q0
  obtain ⟨z1, hz1, _, u1⟩ := DataW.trod_int hi1 q1
  obtain ⟨z2, hz2, _, u2⟩ := DataW.trod_int hi2 q2
  refine ⟨l0, l1, z1, z2, a0, a1, w0, w1, u1, u2, fun ρ => ?_⟩
  obtain ⟨l⟩ := cs
  simp only [Value.cells, List.drop_zero] at e0 hz1 hz2 hl
  rw [ct] at hl
  have e' : l = l0.map (Value.int k) ++ (l1.map (Value.int k) ++ (.int k1 z1 :: .int k2 z2 :: [])) := by
    have s1 : l = l.take (n + m) ++ l.drop (n + m) := (List.take_append_drop _ _).symm
    have s2 : l.drop (n + m) = (l.drop (n + m)).take 1 ++ (l.drop (n + m)).drop 1 := (List.take_append_drop _ _).symm
    have s3 : (l.drop (n + m)).drop 1 = [.int k2 z2] := by
      rw [List.drop_drop, ← hz2]
      exact (List.take_of_length_le (by simp; omega)).symm
    rw [hz1, s3] at s2
    rw [s1, s2, e0, List.append_assoc]
    rfl
  rw [e']
  exact rep_cons_ints a0 (rep_cons_ints a1 (rep_cons_one ⟨rfl, rfl⟩ (rep_cons_one ⟨rfl, rfl⟩ rep_nil_agg)))
end
end Go.Ab
