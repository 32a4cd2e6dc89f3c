/- A struct whose first part is an address; more rules. No program. -/
import Derived.Test.YtffflnpidipheaaAb19
namespace Go.Ab
section rules
variable {P : Program} {d : Option Tmp} {ty : TypeId} {pos : String} {af : Array Edge} {g : Option (Tmp × Bool)} {T : Tm} {H : Heap}
theorem h_build_ptr {t : TypeId} {x : Operand} {id base idx : Nat} {segs : List Seg} {cs : Array Value} (hx : ev T x = .s (.ptr id base idx)) (hb : ∀ p w, (Instr.build t #[(0, .pointer p)]).run P w = .ok (.agg (#[.pointer p] ++ cs)) w) (hk : rowOk segs cs = true) :
    HOk P ⟨d, .build t #[(0, x)], ty, pos, af, g⟩ T H (.agg (.one (.ptr id base idx) :: segs)) [] :=
  .pure fun W ρ a w _ ho => by
    have h1 : (ev T x).rep ρ (a.eval x) := ho x (by simp [Op.operands])
    rw [hx] at h1
    obtain ⟨b, o, h2, h3⟩ := h1
    obtain ⟨r1, r2⟩ := rowOk_rep hk
    refine ⟨.agg (#[.pointer (some ⟨b, o + base + idx, none⟩)] ++ cs), by simp [execOp, h3, Sem.run_bind, hb], _, rfl, by simp [sizeS, Seg.size, r1], fun i y hy => ?_⟩
    cases i with
    | zero =>
      simp [atS, Seg.size, Seg.at] at hy
      subst hy
      exact ⟨.pointer (some ⟨b, o + base + idx, none⟩), by show (#[Value.pointer (some ⟨b, o + base + idx, none⟩)] ++ cs)[0]? = _; rw [Array.getElem?_append_left (by simp)]; rfl, ⟨b, o, h2, rfl⟩, rfl⟩
    | succ i =>
      have hy : atS segs i = some y := by simpa [atS, Seg.size] using hy
      obtain ⟨u, hu, hc⟩ := r2 ρ i y hy
      refine ⟨u, ?_, hc⟩
      show (#[Value.pointer _] ++ cs)[i + 1]? = some u
      rw [Array.getElem?_append_right (by simp)]
      simpa using hu
end rules
end Go.Ab
