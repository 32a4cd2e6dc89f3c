/- More rules: guards whose tests are not known; a struct of a part that is a row; numbers that stay what they are. No program. -/
import Derived.Test.YtffflnpidipheaaAb14
namespace Go.Ab
section steps
variable {P : Program} {ops : Array Oper} {T : Tm} {H : Heap} {ty : TypeId} {pos : String} {af : Array Edge} {r l2 : List Oper} {op : Op} {d : Nat} {K : Tm → Heap → Prop}
theorem s_opt {j t : Nat} {B : Bool} {v : AV} (ht : (ops[j]?).bind (·.dst) = some t) (hv : look T t = .s (.bool B)) (h : B = true → HOk P ⟨some d, op, ty, pos, af, some (j, true)⟩ T H v []) (k : SK P ops r ((d, bif B then v else .s .junk) :: T) H K) : SK P ops (⟨some d, op, ty, pos, af, some (j, true)⟩ :: r) T H K := by
  cases B with
  | true => exact s_on ht hv rfl (h rfl) k
  | false => exact s_off ht hv rfl k
theorem t_opt {j t : Nat} {B : Bool} {v : AV} (ht : (ops[j]?).bind (·.dst) = some t) (hv : look T t = .s (.bool B)) (h : B = true → HOk P ⟨some d, op, ty, pos, af, some (j, true)⟩ T H v []) (k : TK P ops r ((d, bif B then v else .s .junk) :: T) H l2 K) : TK P ops (⟨some d, op, ty, pos, af, some (j, true)⟩ :: r) T H l2 K := by
  cases B with
  | true => exact t_on ht hv rfl (h rfl) k
  | false => exact t_off ht hv rfl k
theorem s_opf {j t : Nat} {B : Bool} {v : AV} (ht : (ops[j]?).bind (·.dst) = some t) (hv : look T t = .s (.bool B)) (h : B = false → HOk P ⟨some d, op, ty, pos, af, some (j, false)⟩ T H v []) (k : SK P ops r ((d, bif B then .s .junk else v) :: T) H K) : SK P ops (⟨some d, op, ty, pos, af, some (j, false)⟩ :: r) T H K := by
  cases B with
  | true => exact s_off ht hv rfl k
  | false => exact s_on ht hv rfl (h rfl) k
theorem t_opf {j t : Nat} {B : Bool} {v : AV} (ht : (ops[j]?).bind (·.dst) = some t) (hv : look T t = .s (.bool B)) (h : B = false → HOk P ⟨some d, op, ty, pos, af, some (j, false)⟩ T H v []) (k : TK P ops r ((d, bif B then .s .junk else v) :: T) H l2 K) : TK P ops (⟨some d, op, ty, pos, af, some (j, false)⟩ :: r) T H l2 K := by
  cases B with
  | true => exact t_off ht hv rfl k
  | false => exact t_on ht hv rfl (h rfl) k
end steps
section rules
variable {P : Program} {T : Tm} {H : Heap} {d : Option Tmp} {ty : TypeId} {pos : String} {af : Array Edge} {g : Option (Nat × Bool)}
theorem h_pick_and {c x y : Operand} {B C : Bool} (hc : ev T c = .s (.bool B)) (hx : ev T x = bif B then .s (.bool C) else .s .junk) (hy : ev T y = .s (.bool false)) : HOk P ⟨d, .pick c x y, ty, pos, af, g⟩ T H (.s (.bool (B && C))) [] := by
  cases B with
  | true => exact h_pick_t hc rfl hx
  | false => exact h_pick_f hc rfl hy
theorem h_pick_or {c x y : Operand} {B C : Bool} (hc : ev T c = .s (.bool B)) (hx : ev T x = .s (.bool true)) (hy : ev T y = bif B then .s .junk else .s (.bool C)) : HOk P ⟨d, .pick c x y, ty, pos, af, g⟩ T H (.s (.bool (B || C))) [] := by
  cases B with
  | true => exact h_pick_t hc rfl hx
  | false => exact h_pick_f hc rfl hy
theorem agg_ints_val {ρ : Rho} {k : IntKind} {n : Nat} {l : List Int} {v : Value} (hl : l.length = n) (h : (AV.agg [.ints k n l]).rep ρ v) : v = .agg (l.map (Value.int k)).toArray := by
  obtain ⟨cs, rfl, h2, h3⟩ := h
  congr 1
  apply Array.ext
  · simp [h2, sizeS, Seg.size, hl]
  · intro i h4 h5
    have hi : i < n := by simp at h5; omega
    obtain ⟨v, hv, hc⟩ := h3 i (.int k (l.getD i 0)) (by simp [atS, Seg.size, Seg.at, hi])
    have e : v = .int k (l.getD i 0) := hc.1
    have hv : cs[i]? = some v := hv
    subst e
    have h6 : cs[i]? = some cs[i] := by simp [h4]
    rw [h6] at hv
    have : i < l.length := by omega
    simpa [this] using Option.some.inj hv
/-- A struct by one part that is a row. -/
theorem h_build_agg {t : TypeId} {x : Operand} {f n : Nat} {k : IntKind} {l : List Int} {cs : Array Value} {segs : List Seg} (hx : ev T x = .agg [.ints k n l]) (hl : l.length = n) (hb : ∀ w, (Instr.build t #[(f, .agg (l.map (Value.int k)).toArray)]).run P w = .ok (.agg cs) w) (hk : rowOk segs cs = true) :
    HOk P ⟨d, .build t #[(f, x)], ty, pos, af, g⟩ T H (.agg segs) [] :=
  .pure fun W ρ a w _ ho => by
    have h1 : (ev T x).rep ρ (a.eval x) := ho x (by simp [Op.operands])
    rw [hx] at h1
    have e := agg_ints_val hl h1
    exact ⟨.agg cs, by simp [execOp, e]; simpa [Sem.run_bind] using congrArg (fun q => q.andThen fun a w' => Result.ok (Next.value a) w') (hb w), cs, rfl, (rowOk_rep hk).1, (rowOk_rep hk).2 ρ⟩
end rules
theorem wr_n {m : Int} {c : Nat} (h : m = (c : Int)) (hc : c < 4611686018427387904) : IntKind.i64.wrap m = (c : Int) := by
  subst h; exact Go.IntWalk.i64_in _ (by omega)
end Go.Ab
