/- Any struct of numbers, arrays of numbers and single cells, opened cell by cell. No program. -/
import Derived.Test.YthlkbpkjmkdilaaGreatAb31
set_option linter.unusedVariables false
set_option linter.unusedSimpArgs false
namespace Go.Ab
section
variable {P : Program} {w : World}
theorem okWide_one {r : Reach} {b0 : Nat} {t : TypeId} {v : Value} (h : Cell.okWide P w r b0 t v) : v.oneCell' = true := by
  cases v <;> first
    | rfl
    | (simp only [Cell.okWide] at h
       split at h <;> first
         | (rename_i e; cases e; done)
         | (simp only [Cell.ok] at h
            split at h <;> first | (rename_i e; cases e; done) | exact h.elim)
         | exact h.elim)
theorem okWide_int {r : Reach} {b0 : Nat} {t : TypeId} {k : IntKind} {v : Value} (ht : P.underlying t = some (.int k)) (h : Cell.okWide P w r b0 t v) : ∃ n, v = .int k n := by
  cases v <;> simp [Cell.okWide, Cell.ok, ht] at h
  obtain ⟨rfl, _⟩ := h
  exact ⟨_, rfl⟩
def CellsOk (P : Program) (w : World) (r : Reach) (b0 : Nat) (ts : List TypeId) (L : List Value) : Prop := L.length = ts.length ∧ ∀ (i : Nat) (u : Value), L[i]? = some u → ∃ q, ts[i]? = some q ∧ Cell.okWide P w r b0 q u
theorem row_cells {r : Reach} {b0 : Nat} {t : TypeId} {v : Value} {fs : Array Field} {ts : List TypeId} (ht : P.underlying t = some (.struct fs)) (hts : P.cellTypes P.depth t = some ts) (hc : P.cellsOf t = ts.length) (hval : Value.okWide P w r b0 t v) :
    ∃ L : List Value, v = .agg L.toArray ∧ CellsOk P w r b0 ts L := by
  simp only [Value.okWide, ht] at hval
  obtain ⟨cs, rfl, hsz, ts', hts', _, hcells⟩ := hval
  rw [hts] at hts'
  cases hts'
  refine ⟨cs.toList, by simp, by simp [hsz, hc], fun i u hu => ?_⟩
  have hi : i < ts.length := by
    have := (List.getElem?_eq_some_iff.1 hu).1
    simp at this; omega
  obtain ⟨q, h1, h2⟩ := hcells i u (by simpa using hu)
  rw [Nat.mod_eq_of_lt hi] at h1
  exact ⟨q, h1, h2⟩
theorem drop_split (L : List Value) (a n : Nat) : L.drop a = (L.drop a).take n ++ L.drop (a + n) := by
  rw [← List.drop_drop]; exact (List.take_append_drop n (L.drop a)).symm
theorem ints_of : ∀ (M : List Value) (k : IntKind), (∀ (i : Nat) (u : Value), M[i]? = some u → ∃ n, u = .int k n) → ∃ l : List Int, l.length = M.length ∧ M = l.map (Value.int k)
  | [], k, _ => ⟨[], rfl, rfl⟩
  | x :: r, k, h => by
    obtain ⟨n, rfl⟩ := h 0 x rfl
    obtain ⟨l, h1, h2⟩ := ints_of r k (fun i u hu => h (i + 1) u hu)
    exact ⟨n :: l, by simp [h1], by simp [← h2]⟩
theorem chunk_ints {r : Reach} {b0 : Nat} {ts : List TypeId} {L : List Value} (h : CellsOk P w r b0 ts L) (a n : Nat) {t : TypeId} {k : IntKind} (hu : P.underlying t = some (.int k)) (ht : ((List.range n).all fun i => ts[a + i]? == some t) = true) :
    ∃ l : List Int, l.length = n ∧ (L.drop a).take n = l.map (Value.int k) := by
  have hn : a + n ≤ L.length ∨ n = 0 := by
    rcases Nat.eq_zero_or_pos n with h0 | h0
    · exact .inr h0
    · have := List.all_eq_true.1 ht (n - 1) (List.mem_range.2 (by omega))
      have := (List.getElem?_eq_some_iff.1 (beq_iff_eq.1 this)).1
      rw [h.1]; exact .inl (by omega)
  obtain ⟨l, h1, h2⟩ := ints_of ((L.drop a).take n) k (fun i u hi => by
    have hin : i < n := by
      have := (List.getElem?_eq_some_iff.1 hi).1
      simp at this; omega
    rw [List.getElem?_take_of_lt hin, List.getElem?_drop] at hi
    obtain ⟨q, h3, h4⟩ := h.2 _ u hi
    have := beq_iff_eq.1 (List.all_eq_true.1 ht i (List.mem_range.2 hin))
    rw [h3] at this
    cases this
    exact okWide_int hu h4)
  refine ⟨l, ?_, h2⟩
  rw [h1, List.length_take, List.length_drop]
  omega
theorem chunk_int {r : Reach} {b0 : Nat} {ts : List TypeId} {L : List Value} (h : CellsOk P w r b0 ts L) (a : Nat) {t : TypeId} {k : IntKind} (hu : P.underlying t = some (.int k)) (ht : ts[a]? = some t) : ∃ n : Int, (L.drop a).take 1 = [.int k n] := by
  obtain ⟨l, h1, h2⟩ := chunk_ints h a 1 hu (by simp [ht])
  match l, h1 with
  | [n], _ => exact ⟨n, h2⟩
theorem chunk_any {r : Reach} {b0 : Nat} {ts : List TypeId} {L : List Value} (h : CellsOk P w r b0 ts L) (a : Nat) (ht : a < ts.length) : ∃ u : Value, (L.drop a).take 1 = [u] ∧ u.oneCell' = true := by
  have hl : a < L.length := by rw [h.1]; exact ht
  refine ⟨L[a], ?_, ?_⟩
  · rw [List.drop_eq_getElem_cons hl]; rfl
  · obtain ⟨q, _, h4⟩ := h.2 a L[a] (by simp [hl])
    exact okWide_one h4
end
end Go.Ab
