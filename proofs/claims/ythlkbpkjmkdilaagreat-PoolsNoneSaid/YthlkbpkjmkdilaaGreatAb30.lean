/- Structs built of parts of any kind. No program. -/
import Derived.Test.YthlkbpkjmkdilaaGreatAbD
import Derived.Great.FillDense
set_option linter.unusedVariables false
set_option linter.unusedSimpArgs false
namespace Go.Ab
theorem atS_append : ∀ (P Q : List Seg) (i : Nat), atS (P ++ Q) i = if i < sizeS P then atS P i else atS Q (i - sizeS P)
  | [], Q, i => by simp [sizeS]
  | s :: r, Q, i => by
    have e : sizeS (s :: r) = s.size + sizeS r := rfl
    rw [List.cons_append, atS, atS, atS_append r Q (i - s.size)]
    by_cases h : i < s.size
    · rw [if_pos h, if_pos h, if_pos (show i < sizeS (s :: r) by omega)]
    · rw [if_neg h, if_neg h]
      by_cases h2 : i - s.size < sizeS r
      · rw [if_pos h2, if_pos (show i < sizeS (s :: r) by omega)]
      · rw [if_neg h2, if_neg (show ¬ i < sizeS (s :: r) by omega), e, Nat.sub_sub]
theorem sizeS_append : ∀ (P Q : List Seg), sizeS (P ++ Q) = sizeS P + sizeS Q
  | [], Q => by simp [sizeS]
  | s :: r, Q => by rw [List.cons_append]; simp only [sizeS, sizeS_append r Q]; omega
def AV.row : AV → List Seg
  | .s v => [.one v]
  | .agg l => l
  | .tup _ => []
def AV.solid : AV → Bool
  | .s .junk => false
  | .tup _ => false
  | _ => true
theorem rep_app {ρ : Rho} {P Q : List Seg} {A B : List Value} (h : (AV.agg P).rep ρ (.agg A.toArray)) (h2 : (AV.agg Q).rep ρ (.agg B.toArray)) : (AV.agg (P ++ Q)).rep ρ (.agg (A ++ B).toArray) := by
  obtain ⟨cs, e, hs, hr⟩ := h
  obtain ⟨ds, e2, hs2, hr2⟩ := h2
  cases e; cases e2
  have hs : A.length = sizeS P := by simpa using hs
  have hs2 : B.length = sizeS Q := by simpa using hs2
  refine ⟨_, rfl, by simp [sizeS_append, hs, hs2], fun i x hx => ?_⟩
  rw [atS_append] at hx
  by_cases h : i < sizeS P
  · rw [if_pos h] at hx
    obtain ⟨y, h1, h2⟩ := hr i x hx
    refine ⟨y, ?_, h2⟩
    have h1 : A[i]? = some y := by simpa using h1
    show (A ++ B).toArray[i]? = some y
    rw [List.getElem?_toArray, List.getElem?_append_left (by omega), h1]
  · rw [if_neg h] at hx
    obtain ⟨y, h1, h2⟩ := hr2 (i - sizeS P) x hx
    refine ⟨y, ?_, h2⟩
    have h1 : B[i - sizeS P]? = some y := by simpa using h1
    show (A ++ B).toArray[i]? = some y
    rw [List.getElem?_toArray, List.getElem?_append_right (by omega), hs, h1]
theorem av_row {ρ : Rho} {x : AV} {u : Value} (hx : x.solid = true) (h : x.rep ρ u) : (AV.agg x.row).rep ρ (.agg u.cells.toList.toArray) ∧ u.cells.size = sizeS x.row := by
  cases x with
  | s v =>
    have hj : v ≠ .junk := by rintro rfl; simp [AV.solid] at hx
    have h : v.rep ρ u := h
    have c := SV.oneCell h hj
    have k := cells_one c
    rw [k]
    refine ⟨⟨_, rfl, rfl, fun i y hy => ?_⟩, rfl⟩
    match i, hy with
    | 0, hy => simp [AV.row, atS, Seg.size, Seg.at] at hy; subst hy; exact ⟨u, rfl, h, c⟩
    | i + 1, hy => simp [AV.row, atS, Seg.size] at hy
  | agg l =>
    obtain ⟨cs, rfl, hs, hr⟩ := h
    exact ⟨⟨cs, by simp [Value.cells], hs, hr⟩, hs⟩
  | tup l => simp [AV.solid] at hx
/-- One part goes in. -/
theorem fill_step {place : Nat → Option (Nat × Nat)} {pre mid post : List Value} {i : Nat} {v : Value} {rest : List (Nat × Value)} (hp : place i = some (pre.length, mid.length)) (hv : v.cells.size = mid.length) :
    Instr.fill place (pre ++ mid ++ post).toArray ((i, v) :: rest) = Instr.fill place (pre ++ v.cells.toList ++ post).toArray rest := by
  rw [Instr.fill, hp]
  simp only
  rw [if_neg (by simp [hv])]
  congr 1
  rw [← Array.foldl_toList, Array.toList_zipIdx]
  obtain ⟨g1, g2⟩ := Great.foldl_set pre.length v.cells.toList 0 (pre ++ mid ++ post).toArray
  apply Array.ext_getElem?
  intro k
  rw [g2 k, List.getElem?_toArray, List.getElem?_toArray]
  have hl : v.cells.toList.length = mid.length := by simpa using hv
  simp only [Nat.add_zero, List.size_toArray, List.length_append]
  by_cases h1 : k < pre.length
  · rw [if_neg (by omega), List.getElem?_append_left (by simp; omega), List.getElem?_append_left (by omega), List.getElem?_append_left (by simp; omega), List.getElem?_append_left (by omega)]
  · by_cases h2 : k < pre.length + mid.length
    · rw [if_pos ⟨by omega, by omega, by omega⟩, List.getElem?_append_left (by rw [List.length_append, hl]; omega), List.getElem?_append_right (by omega)]
    · rw [if_neg (by omega), List.getElem?_append_right (by simp; omega), List.getElem?_append_right (by rw [List.length_append, hl]; omega)]
      simp [hv]
section rules
variable {P : Program} {T : Tm} {H : Heap} {d : Option Tmp} {ty : TypeId} {pos : String} {af : Array Edge} {g : Option (Nat × Bool)}
theorem build_run {t : TypeId} {fields : Array Field} {places : Array (Nat × Nat)} {z : Value} {w : World} {vs : Array (Nat × Value)} {r : Array Value} (hu : P.underlying t = some (.struct fields)) (hz : ∀ w, (zeroValue t).run P w = .ok z w) (hp : ∀ w, (fields.mapM fun f => do pure (f.offset, ← sizeOf f.type) : Sem (Array (Nat × Nat))).run P w = .ok places w)
    (hf : Instr.fill (places[·]?) z.cells vs.toList = some r) : (Instr.build t vs).run P w = .ok (.agg r) w := by
  simp only [Instr.build, Sem.run_bind, hz, Result.andThen_ok, run_underlying hu, hp, hf, Sem.run_pure]
theorem h_bld1 {t : TypeId} {fields : Array Field} {places : Array (Nat × Nat)} {z : Value} {x : Operand} {a : AV} {n : Nat} {zr : List Value} {Z segs : List Seg} (hx : ev T x = a) (ha : a.solid = true) (hu : P.underlying t = some (.struct fields)) (hz : ∀ w, (zeroValue t).run P w = .ok z w) (hp : ∀ w, (fields.mapM fun f => do pure (f.offset, ← sizeOf f.type) : Sem (Array (Nat × Nat))).run P w = .ok places w)
    (hpl : places[0]? = some (0, n)) (hn : sizeS a.row = n) (hzc : z.cells = (z.cells.toList.take n ++ zr).toArray) (hzn : n ≤ z.cells.size) (hZ : ∀ ρ, (AV.agg Z).rep ρ (.agg zr.toArray)) (hs : a.row ++ Z = segs) : HOk P ⟨d, .build t #[(0, x)], ty, pos, af, g⟩ T H (.agg segs) [] :=
  .pure fun W ρ ac w _ ho => by
    subst hs
    have k0 := ho x (by simp [Op.operands])
    rw [hx] at k0
    obtain ⟨r0, s0⟩ := av_row ha k0
    have hf : Instr.fill (places[·]?) z.cells [(0, ac.eval x)] = some ((ac.eval x).cells.toList ++ zr).toArray := by
      rw [hzc]
      have := fill_step (place := (places[·]?)) (pre := []) (mid := z.cells.toList.take n) (post := zr) (i := 0) (v := ac.eval x) (rest := []) (by simp [hpl]; omega) (by rw [s0, hn]; simp; omega)
      simp only [List.nil_append] at this
      rw [this]; rfl
    exact ⟨_, by simp only [execOp, List.map_toArray, List.map_cons, List.map_nil, Sem.run_bind, build_run (vs := #[(0, ac.eval x)]) hu hz hp hf]; rfl, rep_app r0 (hZ ρ)⟩
theorem h_bld2 {t : TypeId} {fields : Array Field} {places : Array (Nat × Nat)} {z : Value} {x y : Operand} {a b : AV} {n m : Nat} {segs : List Seg} (hx : ev T x = a) (hy : ev T y = b) (ha : a.solid = true) (hb : b.solid = true) (hu : P.underlying t = some (.struct fields)) (hz : ∀ w, (zeroValue t).run P w = .ok z w) (hp : ∀ w, (fields.mapM fun f => do pure (f.offset, ← sizeOf f.type) : Sem (Array (Nat × Nat))).run P w = .ok places w)
    (hpl : places = #[(0, n), (n, m)]) (hn : sizeS a.row = n) (hm : sizeS b.row = m) (hzn : z.cells.size = n + m) (hs : a.row ++ b.row = segs) : HOk P ⟨d, .build t #[(0, x), (1, y)], ty, pos, af, g⟩ T H (.agg segs) [] :=
  .pure fun W ρ ac w _ ho => by
    subst hs
    have k0 := ho x (by simp [Op.operands])
    have k1 := ho y (by simp [Op.operands])
    rw [hx] at k0
    rw [hy] at k1
    obtain ⟨r0, s0⟩ := av_row ha k0
    obtain ⟨r1, s1⟩ := av_row hb k1
    have hzl : z.cells.toList.length = n + m := by simpa using hzn
    have hf : Instr.fill (places[·]?) z.cells [(0, ac.eval x), (1, ac.eval y)] = some ((ac.eval x).cells.toList ++ (ac.eval y).cells.toList).toArray := by
      have e0 : z.cells = ([] ++ z.cells.toList.take n ++ z.cells.toList.drop n).toArray := by simp
      have l0 : (ac.eval x).cells.toList.length = n := by simp [s0, hn]
      have f0 := fill_step (place := (places[·]?)) (pre := []) (mid := z.cells.toList.take n) (post := z.cells.toList.drop n) (i := 0) (v := ac.eval x) (rest := [(1, ac.eval y)]) (by subst hpl; simp; omega) (by rw [s0, hn]; simp; omega)
      have f1 := fill_step (place := (places[·]?)) (pre := (ac.eval x).cells.toList) (mid := z.cells.toList.drop n) (post := []) (i := 1) (v := ac.eval y) (rest := []) (by subst hpl; rw [l0]; simp; omega) (by rw [s1, hm]; simp; omega)
      simp only [List.append_nil] at f1
      rw [e0, f0, List.nil_append, f1]; rfl
    exact ⟨_, by simp only [execOp, List.map_toArray, List.map_cons, List.map_nil, Sem.run_bind, build_run (vs := #[(0, ac.eval x), (1, ac.eval y)]) hu hz hp hf]; rfl, rep_app r0 r1⟩
theorem h_bld3 {t : TypeId} {fields : Array Field} {places : Array (Nat × Nat)} {z : Value} {x y q : Operand} {a b c : AV} {n m l : Nat} {segs : List Seg} (hx : ev T x = a) (hy : ev T y = b) (hq : ev T q = c) (ha : a.solid = true) (hb : b.solid = true) (hc : c.solid = true) (hu : P.underlying t = some (.struct fields)) (hz : ∀ w, (zeroValue t).run P w = .ok z w) (hp : ∀ w, (fields.mapM fun f => do pure (f.offset, ← sizeOf f.type) : Sem (Array (Nat × Nat))).run P w = .ok places w)
    (hpl : places = #[(0, n), (n, m), (n + m, l)]) (hn : sizeS a.row = n) (hm : sizeS b.row = m) (hl : sizeS c.row = l) (hzn : z.cells.size = n + m + l) (hs : a.row ++ (b.row ++ c.row) = segs) : HOk P ⟨d, .build t #[(0, x), (1, y), (2, q)], ty, pos, af, g⟩ T H (.agg segs) [] :=
  .pure fun W ρ ac w _ ho => by
    subst hs
    have k0 := ho x (by simp [Op.operands])
    have k1 := ho y (by simp [Op.operands])
    have k2 := ho q (by simp [Op.operands])
    rw [hx] at k0
    rw [hy] at k1
    rw [hq] at k2
    obtain ⟨r0, s0⟩ := av_row ha k0
    obtain ⟨r1, s1⟩ := av_row hb k1
    obtain ⟨r2, s2⟩ := av_row hc k2
    have hzl : z.cells.toList.length = n + m + l := by simpa using hzn
    have hf : Instr.fill (places[·]?) z.cells [(0, ac.eval x), (1, ac.eval y), (2, ac.eval q)] = some ((ac.eval x).cells.toList ++ ((ac.eval y).cells.toList ++ (ac.eval q).cells.toList)).toArray := by
      have e0 : z.cells = ([] ++ z.cells.toList.take n ++ ((z.cells.toList.drop n).take m ++ (z.cells.toList.drop n).drop m)).toArray := by
        rw [List.take_append_drop, List.nil_append, List.take_append_drop]
      have l0 : (ac.eval x).cells.toList.length = n := by simp [s0, hn]
      have l1 : (ac.eval y).cells.toList.length = m := by simp [s1, hm]
      have f0 := fill_step (place := (places[·]?)) (pre := []) (mid := z.cells.toList.take n) (post := (z.cells.toList.drop n).take m ++ (z.cells.toList.drop n).drop m) (i := 0) (v := ac.eval x) (rest := [(1, ac.eval y), (2, ac.eval q)]) (by subst hpl; simp; omega) (by rw [s0, hn]; simp; omega)
      have f1 := fill_step (place := (places[·]?)) (pre := (ac.eval x).cells.toList) (mid := (z.cells.toList.drop n).take m) (post := (z.cells.toList.drop n).drop m) (i := 1) (v := ac.eval y) (rest := [(2, ac.eval q)]) (by subst hpl; rw [l0]; simp; omega) (by rw [s1, hm]; simp; omega)
      have f2 := fill_step (place := (places[·]?)) (pre := (ac.eval x).cells.toList ++ (ac.eval y).cells.toList) (mid := (z.cells.toList.drop n).drop m) (post := []) (i := 2) (v := ac.eval q) (rest := []) (by subst hpl; rw [List.length_append, l0, l1]; simp; omega) (by rw [s2, hl]; simp; omega)
      simp only [List.append_nil] at f2
      rw [List.append_assoc] at f1
      rw [e0, f0, List.nil_append, f1, f2, Instr.fill, List.append_assoc]
    exact ⟨_, by simp only [execOp, List.map_toArray, List.map_cons, List.map_nil, Sem.run_bind, build_run (vs := #[(0, ac.eval x), (1, ac.eval y), (2, ac.eval q)]) hu hz hp hf]; rfl, rep_app r0 (rep_app r1 r2)⟩
theorem h_nen {t e tyy : TypeId} {x y : Operand} {id base idx : Nat} (hx : ev T x = .s (.ptr id base idx)) (hy : ev T y = .s .nilp) (hu : P.underlying t = some (.pointer e)) : HOk P ⟨d, .binOp .neq t x y tyy, ty, pos, af, g⟩ T H (.s (.bool true)) [] :=
  .pure fun W ρ a w _ ho => by
    obtain ⟨h1, h2⟩ := two (op := .binOp .neq t x y tyy) rfl ho hx hy
    simp only [AV.rep, SV.rep] at h1 h2
    obtain ⟨b, o, hρ, h1⟩ := h1
    exact ⟨.bool true, by simp [execOp, h1, h2, Sem.run_bind, eqGuard, binOp, Op.equal, Op.maxDepth, run_equalIn_ptr_nil w 9999 _ hu], rfl⟩
end rules
end Go.Ab
