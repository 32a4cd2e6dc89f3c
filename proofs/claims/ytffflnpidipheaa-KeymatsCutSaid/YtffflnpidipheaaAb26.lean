/- Slices cut, bools and structs compared. No program. -/
import Derived.Test.YtffflnpidipheaaAb25
import Derived.Test.YtffflnpidipheaaAb10
namespace Go.Ab
section rules
variable {P : Program} {T : Tm} {H : Heap} {d : Option Tmp} {ty : TypeId} {pos : String} {af : Array Edge} {g : Option (Nat × Bool)}
theorem h_bneq {t tyy : TypeId} {x y : Operand} {p q r : Bool} (hx : ev T x = .s (.bool p)) (hy : ev T y = .s (.bool q)) (hu : P.underlying t = some .bool) (hr : (!(p == q)) = r) : HOk P ⟨d, .binOp .neq t x y tyy, ty, pos, af, g⟩ T H (.s (.bool r)) [] :=
  .pure fun W ρ a w _ ho => by
    obtain ⟨h1, h2⟩ := two (op := .binOp .neq t x y tyy) rfl ho hx hy
    simp only [AV.rep, SV.rep] at h1 h2
    exact ⟨.bool r, by simp [execOp, h1, h2, Sem.run_bind, eqGuard, binOp, Op.equal, Op.maxDepth, run_equalIn_bool w 9999 _ _ hu, hr], rfl⟩
theorem h_slice_lh {t e : TypeId} {x i j : Operand} {id base idx len cap l h n c : Nat} {k k' : IntKind} {z z' : Int} (hx : ev T x = .s (.slice id base idx len cap)) (hi : ev T i = .s (.int k z)) (hj : ev T j = .s (.int k' z')) (hz : z = (l : Int)) (hz' : z' = (h : Int)) (hu : P.underlying t = some (.slice e)) (hs : ∀ w, (sizeOf e).run P w = .ok 1 w) (h1 : l ≤ h) (h2 : h ≤ cap) (h3 : l < cap) (e1 : h - l = n) (e2 : cap - l = c) :
    HOk P ⟨d, .slice t x (some i) (some j) none, ty, pos, af, g⟩ T H (.s (.slice id base (idx + l) n c)) [] :=
  .pure fun W ρ a w _ ho => by
    subst hz; subst hz'; subst e1; subst e2
    have k1 := ho x (by simp [Op.operands])
    have k2 := ho i (by simp [Op.operands])
    have k3 := ho j (by simp [Op.operands])
    rw [hx] at k1
    rw [hi] at k2
    rw [hj] at k3
    simp only [AV.rep, SV.rep] at k2 k3
    obtain ⟨ad, e1, e2⟩ := sliced_rep (l := l) (h := h) (m := cap) k1
    have hr := sl_run (P := P) (w := w) (a := ad) hu hs (sb_lh (len := len) (k := k) (k' := k') h1 h2)
    refine ⟨sliced ad l h cap 1, by simp [execOp, e1, k2, k3, Sem.run_bind, hr], ?_⟩
    rw [if_neg (by omega)] at e2
    exact e2
theorem slice_base {o : Oper} {id base idx len cap L : Nat} (h : HOk P o T H (.s (.slice id base idx len cap)) []) (e : base + idx = L) : HOk P o T H (.s (.slice id (0 + L) 0 len cap)) [] := by
  subst e
  intro W ρ a w hH hn ho next Q hq
  refine h W ρ a w hH hn ho next Q ?_
  rintro v' w' ⟨ρ', h1, b, o, h2, h3⟩
  refine hq v' w' ⟨ρ', h1, b, o, h2, ?_⟩
  rw [h3]
  simp only [Nat.add_zero, Nat.zero_add, Nat.add_assoc]
theorem h_slice_l3 {t e : TypeId} {x i : Operand} {id base idx len cap l n c : Nat} {k : IntKind} {z : Int} (hx : ev T x = .s (.slice id base idx len cap)) (hi : ev T i = .s (.int k z)) (hz : z = (l : Int)) (hu : P.underlying t = some (.slice e)) (hs : ∀ w, (sizeOf e).run P w = .ok 1 w) (h1 : l ≤ len) (h2 : l < cap) (e1 : len - l = n) (e2 : cap - l = c) :
    HOk P ⟨d, .slice t x (some i) none none, ty, pos, af, g⟩ T H (.s (.slice id base (idx + l) n c)) [] := by
  subst e1; subst e2
  exact h_slice_l2 hx hi hz hu hs h1 h2
theorem two_cells {ρ : Rho} {k : IntKind} {n0 n1 : Nat} {l0 l1 : List Int} {v : Value} (h : (AV.agg [.ints k n0 l0, .ints k n1 l1]).rep ρ v) : ∃ cs : Array Value, v = .agg cs ∧ cs.size = n0 + n1 ∧ (∀ i, i < n0 → cs[i]? = some (.int k (l0.getD i 0))) ∧ ∀ i, i < n1 → cs[n0 + i]? = some (.int k (l1.getD i 0)) := by
  obtain ⟨cs, h1, h2, h3⟩ := h
  have z0 : (Seg.ints k n0 l0).size = n0 := rfl
  have z1 : (Seg.ints k n1 l1).size = n1 := rfl
  refine ⟨cs, h1, by rw [h2]; simp [sizeS, z0, z1], fun i hi => ?_, fun i hi => ?_⟩
  · obtain ⟨u, hu, hr, _⟩ := h3 i (.int k (l0.getD i 0)) (by simp only [atS]; rw [if_pos (by rw [z0]; exact hi)]; rfl)
    exact hu.trans (congrArg some hr)
  · obtain ⟨u, hu, hr, _⟩ := h3 (n0 + i) (.int k (l1.getD i 0)) (by simp only [atS]; rw [if_neg (by rw [z0]; omega), z0, Nat.add_sub_cancel_left, if_pos (by rw [z1]; exact hi)]; rfl)
    exact hu.trans (congrArg some hr)
theorem h_eql_two {t e : TypeId} {f0 f1 : Field} {x y : Operand} {tyy : TypeId} {n0 n1 : Nat} {k : IntKind} {l0 l1 m0 m1 : List Int} {r : Bool} (hx : ev T x = .agg [.ints k n0 l0, .ints k n1 l1]) (hy : ev T y = .agg [.ints k n0 m0, .ints k n1 m1]) (ht : P.underlying t = some (.struct (P.fieldsOf t))) (hp : P.stoodInHeld t = false) (hf : (P.fieldsOf t).toList = [f0, f1])
    (q0 : f0.name ≠ "_") (q1 : f1.name ≠ "_") (o0 : f0.offset = 0) (o1 : f1.offset = n0) (hu0 : P.underlying f0.type = some (.array n0 e)) (hu1 : P.underlying f1.type = some (.array n1 e)) (he : P.underlying e = some (.int k)) (hs : ∀ w, (sizeOf e).run P w = .ok 1 w) (ha : ∀ w, (isAgg e).run P w = .ok false w)
    (a0 : ∀ w, (isAgg f0.type).run P w = .ok true w) (a1 : ∀ w, (isAgg f1.type).run P w = .ok true w) (z0 : ∀ w, (sizeOf f0.type).run P w = .ok n0 w) (z1 : ∀ w, (sizeOf f1.type).run P w = .ok n1 w)
    (hg : P.eqGuardType P.depth t = false) (hr : (decide (∀ i, i < n0 → l0.getD i 0 = m0.getD i 0) && decide (∀ i, i < n1 → l1.getD i 0 = m1.getD i 0)) = r) : HOk P ⟨d, .binOp .eql t x y tyy, ty, pos, af, g⟩ T H (.s (.bool r)) [] :=
  .pure fun W ρ a w _ ho => by
    obtain ⟨h1, h2⟩ := two (op := .binOp .eql t x y tyy) rfl ho hx hy
    obtain ⟨xs, e1, sx, c1, c1'⟩ := two_cells h1
    obtain ⟨ys, e2, sy, c2, c2'⟩ := two_cells h2
    refine ⟨.bool r, ?_, rfl⟩
    have px0 : (part f0.type xs 0).run P w = .ok (.agg (xs.extract 0 n0)) w := by simp [part, Sem.run_bind, a0, z0]
    have py0 : (part f0.type ys 0).run P w = .ok (.agg (ys.extract 0 n0)) w := by simp [part, Sem.run_bind, a0, z0]
    have px1 : (part f1.type xs n0).run P w = .ok (.agg (xs.extract n0 (n0 + n1))) w := by simp [part, Sem.run_bind, a1, z1]
    have py1 : (part f1.type ys n0).run P w = .ok (.agg (ys.extract n0 (n0 + n1))) w := by simp [part, Sem.run_bind, a1, z1]
    have E0 := run_equalIn_ints (P := P) (w := w) 9997 (xs := xs.extract 0 n0) (ys := ys.extract 0 n0) (l := fun i => l0.getD i 0) (m := fun i => m0.getD i 0) hu0 he hs ha (fun i hi => by rw [Array.getElem?_extract, if_pos (by omega), Nat.zero_add]; exact c1 i hi) (fun i hi => by rw [Array.getElem?_extract, if_pos (by omega), Nat.zero_add]; exact c2 i hi)
    have E1 := run_equalIn_ints (P := P) (w := w) 9997 (xs := xs.extract n0 (n0 + n1)) (ys := ys.extract n0 (n0 + n1)) (l := fun i => l1.getD i 0) (m := fun i => m1.getD i 0) hu1 he hs ha (fun i hi => by rw [Array.getElem?_extract, if_pos (by omega)]; exact c1' i hi) (fun i hi => by rw [Array.getElem?_extract, if_pos (by omega)]; exact c2' i hi)
    have := run_equalIn_struct (P := P) w 9999 t xs ys ht hp
    simp only [execOp, e1, e2, Sem.run_bind, run_eqGuard_agg w .eql t x y xs ys hg, Result.andThen_ok, run_eql_struct w t xs ys]
    rw [show (Op.equalIn 10000 t (.agg xs) (.agg ys)).run P w = _ from this, hf]
    have h2 : (Op.eqFields 9999 xs ys [f1]).run P w = .ok (decide (∀ i, i < n1 → l1.getD i 0 = m1.getD i 0)) w := by
      simp only [Op.eqFields, if_pos q1, Sem.run_bind, o1, px1, py1, Result.andThen_ok, E1]
      cases decide (∀ i, i < n1 → l1.getD i 0 = m1.getD i 0) <;> simp
    rw [Op.eqFields, if_pos q0]
    simp only [Sem.run_bind, o0, px0, py0, Result.andThen_ok, E0]
    rw [← hr]
    cases decide (∀ i, i < n0 → l0.getD i 0 = m0.getD i 0)
    · simp
    · simp only [Bool.not_true, Bool.false_eq_true, if_false, Bool.true_and, h2, Result.andThen_ok, Sem.run_pure]
end rules
end Go.Ab
