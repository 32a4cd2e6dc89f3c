/- How long a slice that is handed in may be: the form's own reach. No program. -/
import Derived.Test.YtffflnpidipheaaAb31
import Derived.SizedLaws
set_option linter.unusedVariables false
set_option linter.unusedSimpArgs false
namespace Go.Ab
section
open Go.ChangeShapes
variable {Hh : Type} {enc : TypeId × Value → Hh} {P : Program} {w : World} {base : Nat} {spare : Nat → Bool} {held : Bool}
theorem open_size {t e : TypeId} {v : Value} {d : DataW Hh} {ps : List MemPlace} {ts : List TypeId} {ds : List (DataW Hh)} {j : Nat} (ht : P.underlying t = some (.slice e)) (hb : 1 ≤ P.bytesOf e) (hsz : (DataW.weightsEach P ts ds).all (· ≤ reachBytes) = true) (hts : ts[j]? = some t) (hds : ds[j]? = some d)
    (hd : DataW.Trod enc P w base spare held t v d ps) : ∀ a n c, v = .slice a n c → n < 140737488355328 := by
  rintro a n c rfl
  obtain ⟨fuel, hf⟩ := hd
  have hf : DataW.trod enc P w base spare held fuel t [Value.slice a n c] = some (d, ps) := hf
  rcases DataW.trod_slice ht hf with ⟨hcs, _⟩ | ⟨a', len, cap, elems, rest, m, _, hcs, hx, _, _, _, hel, _⟩
  · simp at hcs; omega
  · simp at hcs
    obtain ⟨_, rfl, _⟩ := hcs
    have hd : d = .slice (elems.map (·.1)) (rest.map (·.1)) := (congrArg Prod.fst hx)
    subst hd
    have h1 := sized_slice hsz hts hds ht
    have h2 : reachBytes < 140737488355328 := by decide
    have h3 : n ≤ ((elems.map (·.1)).length + (rest.map (·.1)).length) * P.bytesOf e := by
      rw [List.length_map, hel]
      exact Nat.le_trans (Nat.le_add_right _ _) (Nat.le_mul_of_pos_right _ hb)
    omega
end
end Go.Ab
