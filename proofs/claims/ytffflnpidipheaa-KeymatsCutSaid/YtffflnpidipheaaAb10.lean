/- A part of the proofs of this claim: Ab10. No conditions. -/
import Derived.Test.YtffflnpidipheaaAb9
import Derived.Laws.StructEq
namespace Go.Ab
section
variable {P : Program} {w : World}
theorem run_equalIn_ints (d : Nat) {t e : TypeId} {n : Nat} {k : IntKind} {xs ys : Array Value} {l m : Nat → Int} (hu : P.underlying t = some (.array n e)) (he : P.underlying e = some (.int k)) (hs : ∀ w, (sizeOf e).run P w = .ok 1 w) (ha : ∀ w, (isAgg e).run P w = .ok false w)
    (hx : ∀ i, i < n → xs[i]? = some (.int k (l i))) (hy : ∀ i, i < n → ys[i]? = some (.int k (m i))) : (Op.equalIn (d + 2) t (.agg xs) (.agg ys)).run P w = .ok (decide (∀ i, i < n → l i = m i)) w := by
  have hpart : ∀ i, i < n → (part e xs (i * 1)).run P w = .ok (.int k (l i)) w := fun i hi => by simp [part, Sem.run_bind, ha, hx i hi]
  have hpart2 : ∀ i, i < n → (part e ys (i * 1)).run P w = .ok (.int k (m i)) w := fun i hi => by simp [part, Sem.run_bind, ha, hy i hi]
  rw [Op.equalIn]
  simp only [Sem.run_bind, run_underlying hu, Result.andThen_ok, hs]
  let body : Nat → Option Bool × Unit → Sem (ForInStep (Option Bool × Unit)) := fun i _ => do
    let a ← part e xs (i * 1)
    let b ← part e ys (i * 1)
    let c ← Op.equalIn (d + 1) e a b
    if (!c) = true then pure (ForInStep.done (some false, ())) else pure (ForInStep.yield (none, ()))
  have step : ∀ i, i < n → ∀ s, (body i s).run P w = .ok (if l i = m i then .yield (none, ()) else .done (some false, ())) w := by
    intro i hi s
    simp only [body, Sem.run_bind, hpart i hi, hpart2 i hi, Result.andThen_ok]
    rw [run_equalIn_int w d e k k _ _ he]
    simp only [Result.andThen_ok]
    by_cases h : l i = m i
    · simp [h]
    · have : (l i == m i) = false := by simpa using h
      simp [this, h]
  have key : ∀ (is : List Nat), (∀ i ∈ is, i < n) → (forIn is ((none : Option Bool), ()) body).run P w = .ok (if ∀ i ∈ is, l i = m i then (none, ()) else (some false, ())) w := by
    intro is
    induction is with
    | nil => intro _; simp
    | cons i r ih =>
      intro h
      rw [List.forIn_cons, Sem.run_bind, step i (h i (by simp)) (none, ())]
      simp only [Result.andThen_ok]
      by_cases hi : l i = m i
      · simp only [hi, if_true]
        rw [ih (fun j hj => h j (by simp [hj]))]
        simp [hi]
      · simp [hi]
  have h0 := key (List.range' 0 n) (fun i hi => by simp at hi; omega)
  rw [Std.Legacy.Range.forIn_eq_forIn_range']
  simp only [Std.Legacy.Range.size, Nat.sub_zero, Nat.add_sub_cancel, Nat.div_one]
  show ((Sem.run P (forIn (List.range' 0 n) ((none : Option Bool), ()) body) w).andThen _) = _
  rw [h0]
  simp only [Result.andThen_ok]
  by_cases hall : ∀ i, i < n → l i = m i
  · have : ∀ i ∈ List.range' 0 n, l i = m i := fun i hi => hall i (by simp at hi; omega)
    rw [if_pos this]
    show Result.ok true w = _
    rw [decide_eq_true hall]
  · have : ¬ ∀ i ∈ List.range' 0 n, l i = m i := fun h => hall fun i hi => h i (by simp [List.mem_range'_1]; omega)
    rw [if_neg this]
    show Result.ok false w = _
    rw [decide_eq_false hall]
end

section rules
variable {P : Program} {T : Tm} {H : Heap} {d : Option Tmp} {ty : TypeId} {pos : String} {af : Array Edge} {g : Option (Nat × Bool)}
theorem agg_ints_cells {ρ : Rho} {k : IntKind} {n : Nat} {l : List Int} {v : Value} (h : (AV.agg [.ints k n l]).rep ρ v) : ∃ cs : Array Value, v = .agg cs ∧ ∀ i, i < n → cs[i]? = some (.int k (l.getD i 0)) := by
  obtain ⟨cs, h1, h2, h3⟩ := h
  refine ⟨cs, h1, fun i hi => ?_⟩
  obtain ⟨u, hu, hr, _⟩ := h3 i (.int k (l.getD i 0)) (by
    have hs : (Seg.ints k n l).size = n := rfl
    simp only [atS]; rw [if_pos (by rw [hs]; exact hi)]; rfl)
  exact hu.trans (congrArg some hr)

theorem h_eql_ints {t e : TypeId} {x y : Operand} {tyy : TypeId} {n : Nat} {k : IntKind} {l m : List Int} {r : Bool} (hx : ev T x = .agg [.ints k n l]) (hy : ev T y = .agg [.ints k n m]) (hu : P.underlying t = some (.array n e)) (he : P.underlying e = some (.int k)) (hs : ∀ w, (sizeOf e).run P w = .ok 1 w) (ha : ∀ w, (isAgg e).run P w = .ok false w)
    (hg : P.eqGuardType P.depth t = false) (hr : decide (∀ i, i < n → l.getD i 0 = m.getD i 0) = r) : HOk P ⟨d, .binOp .eql t x y tyy, ty, pos, af, g⟩ T H (.s (.bool r)) [] :=
  .pure fun W ρ a w _ ho => by
    obtain ⟨h1, h2⟩ := two (op := .binOp .eql t x y tyy) rfl ho hx hy
    obtain ⟨xs, e1, c1⟩ := agg_ints_cells h1
    obtain ⟨ys, e2, c2⟩ := agg_ints_cells h2
    refine ⟨.bool r, ?_, rfl⟩
    have := run_equalIn_ints (P := P) (w := w) 9998 hu he hs ha c1 c2
    simp only [execOp, e1, e2, Sem.run_bind, run_eqGuard_agg w .eql t x y xs ys hg, Result.andThen_ok, run_eql_struct w t xs ys]
    rw [show (Op.equalIn 10000 t (.agg xs) (.agg ys)).run P w = _ from this]
    simp only [Result.andThen_ok, hr, Sem.run_pure]
theorem h_neq_ints {t e : TypeId} {x y : Operand} {tyy : TypeId} {n : Nat} {k : IntKind} {l m : List Int} {r : Bool} (hx : ev T x = .agg [.ints k n l]) (hy : ev T y = .agg [.ints k n m]) (hu : P.underlying t = some (.array n e)) (he : P.underlying e = some (.int k)) (hs : ∀ w, (sizeOf e).run P w = .ok 1 w) (ha : ∀ w, (isAgg e).run P w = .ok false w)
    (hg : P.eqGuardType P.depth t = false) (hr : (!decide (∀ i, i < n → l.getD i 0 = m.getD i 0)) = r) : HOk P ⟨d, .binOp .neq t x y tyy, ty, pos, af, g⟩ T H (.s (.bool r)) [] :=
  .pure fun W ρ a w _ ho => by
    obtain ⟨h1, h2⟩ := two (op := .binOp .neq t x y tyy) rfl ho hx hy
    obtain ⟨xs, e1, c1⟩ := agg_ints_cells h1
    obtain ⟨ys, e2, c2⟩ := agg_ints_cells h2
    refine ⟨.bool r, ?_, rfl⟩
    have := run_equalIn_ints (P := P) (w := w) 9998 hu he hs ha c1 c2
    simp only [execOp, e1, e2, Sem.run_bind, run_eqGuard_agg w .neq t x y xs ys hg, Result.andThen_ok, run_neq_struct w t xs ys]
    rw [show (Op.equalIn 10000 t (.agg xs) (.agg ys)).run P w = _ from this]
    simp only [Result.andThen_ok, hr, Sem.run_pure]
end rules
end Go.Ab
