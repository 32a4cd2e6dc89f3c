/- A part of the proofs of this claim: AbE (Ab30, Ab31, Ab32, Ab33). No conditions. -/
import Derived.Test.YthlkbpkjmkdilaaGreatAbD
import Derived.Great.FillDense
import Derived.OpenShut
import Derived.Deep.AppendSrc
import Derived.Laws.AppendOwn
set_option linter.unusedVariables false
set_option linter.unusedSimpArgs false
section
/- Structs built of parts of any kind. No program. -/
namespace Go.Ab
theorem atS_append : ∀ (P Q : List Seg) (i : Nat), atS (P ++ Q) i = if i < sizeS P then atS P i else atS Q (i - sizeS P)
  | [], Q, i => by simp [sizeS]
  | s :: r, Q, i => by
    have e : sizeS (s :: r) = s.size + sizeS r := rfl
    rw [List.cons_append, atS, atS, atS_append r Q (i - s.size)]
    by_cases h : i < s.size
    · rw [if_pos h, if_pos h, if_pos (show i < sizeS (s :: r) by omega)]
    · rw [if_neg h, if_neg h]
      by_cases h2 : i - s.size < sizeS r
      · rw [if_pos h2, if_pos (show i < sizeS (s :: r) by omega)]
      · rw [if_neg h2, if_neg (show ¬ i < sizeS (s :: r) by omega), e, Nat.sub_sub]
theorem sizeS_append : ∀ (P Q : List Seg), sizeS (P ++ Q) = sizeS P + sizeS Q
  | [], Q => by simp [sizeS]
  | s :: r, Q => by rw [List.cons_append]; simp only [sizeS, sizeS_append r Q]; omega
def AV.row : AV → List Seg
  | .s v => [.one v]
  | .agg l => l
  | .tup _ => []
def AV.solid : AV → Bool
  | .s .junk => false
  | .tup _ => false
  | _ => true
theorem rep_app {ρ : Rho} {P Q : List Seg} {A B : List Value} (h : (AV.agg P).rep ρ (.agg A.toArray)) (h2 : (AV.agg Q).rep ρ (.agg B.toArray)) : (AV.agg (P ++ Q)).rep ρ (.agg (A ++ B).toArray) := by
  obtain ⟨cs, e, hs, hr⟩ := h
  obtain ⟨ds, e2, hs2, hr2⟩ := h2
  cases e; cases e2
  have hs : A.length = sizeS P := by simpa using hs
  have hs2 : B.length = sizeS Q := by simpa using hs2
  refine ⟨_, rfl, by simp [sizeS_append, hs, hs2], fun i x hx => ?_⟩
  rw [atS_append] at hx
  by_cases h : i < sizeS P
  · rw [if_pos h] at hx
    obtain ⟨y, h1, h2⟩ := hr i x hx
    refine ⟨y, ?_, h2⟩
    have h1 : A[i]? = some y := by simpa using h1
    show (A ++ B).toArray[i]? = some y
    rw [List.getElem?_toArray, List.getElem?_append_left (by omega), h1]
  · rw [if_neg h] at hx
    obtain ⟨y, h1, h2⟩ := hr2 (i - sizeS P) x hx
    refine ⟨y, ?_, h2⟩
    have h1 : B[i - sizeS P]? = some y := by simpa using h1
    show (A ++ B).toArray[i]? = some y
    rw [List.getElem?_toArray, List.getElem?_append_right (by omega), hs, h1]
theorem av_row {ρ : Rho} {x : AV} {u : Value} (hx : x.solid = true) (h : x.rep ρ u) : (AV.agg x.row).rep ρ (.agg u.cells.toList.toArray) ∧ u.cells.size = sizeS x.row := by
  cases x with
  | s v =>
    have hj : v ≠ .junk := by rintro rfl; simp [AV.solid] at hx
    have h : v.rep ρ u := h
    have c := SV.oneCell h hj
    have k := cells_one c
    rw [k]
    refine ⟨⟨_, rfl, rfl, fun i y hy => ?_⟩, rfl⟩
    match i, hy with
    | 0, hy => simp [AV.row, atS, Seg.size, Seg.at] at hy; subst hy; exact ⟨u, rfl, h, c⟩
    | i + 1, hy => simp [AV.row, atS, Seg.size] at hy
  | agg l =>
    obtain ⟨cs, rfl, hs, hr⟩ := h
    exact ⟨⟨cs, by simp [Value.cells], hs, hr⟩, hs⟩
  | tup l => simp [AV.solid] at hx
/-- One part goes in. -/
theorem fill_step {place : Nat → Option (Nat × Nat)} {pre mid post : List Value} {i : Nat} {v : Value} {rest : List (Nat × Value)} (hp : place i = some (pre.length, mid.length)) (hv : v.cells.size = mid.length) :
    Instr.fill place (pre ++ mid ++ post).toArray ((i, v) :: rest) = Instr.fill place (pre ++ v.cells.toList ++ post).toArray rest := by
  rw [Instr.fill, hp]
  simp only
  rw [if_neg (by simp [hv])]
  congr 1
  rw [← Array.foldl_toList, Array.toList_zipIdx]
  obtain ⟨g1, g2⟩ := Great.foldl_set pre.length v.cells.toList 0 (pre ++ mid ++ post).toArray
  apply Array.ext_getElem?
  intro k
  rw [g2 k, List.getElem?_toArray, List.getElem?_toArray]
  have hl : v.cells.toList.length = mid.length := by simpa using hv
  simp only [Nat.add_zero, List.size_toArray, List.length_append]
  by_cases h1 : k < pre.length
  · rw [if_neg (by omega), List.getElem?_append_left (by simp; omega), List.getElem?_append_left (by omega), List.getElem?_append_left (by simp; omega), List.getElem?_append_left (by omega)]
  · by_cases h2 : k < pre.length + mid.length
    · rw [if_pos ⟨by omega, by omega, by omega⟩, List.getElem?_append_left (by rw [List.length_append, hl]; omega), List.getElem?_append_right (by omega)]
    · rw [if_neg (by omega), List.getElem?_append_right (by simp; omega), List.getElem?_append_right (by rw [List.length_append, hl]; omega)]
      simp [hv]
section rules
variable {P : Program} {T : Tm} {H : Heap} {d : Option Tmp} {ty : TypeId} {pos : String} {af : Array Edge} {g : Option (Nat × Bool)}
theorem build_run {t : TypeId} {fields : Array Field} {places : Array (Nat × Nat)} {z : Value} {w : World} {vs : Array (Nat × Value)} {r : Array Value} (hu : P.underlying t = some (.struct fields)) (hz : ∀ w, (zeroValue t).run P w = .ok z w) (hp : ∀ w, (fields.mapM fun f => do pure (f.offset, ← sizeOf f.type) : Sem (Array (Nat × Nat))).run P w = .ok places w)
    (hf : Instr.fill (places[·]?) z.cells vs.toList = some r) : (Instr.build t vs).run P w = .ok (.agg r) w := by
  simp only [Instr.build, Sem.run_bind, hz, Result.andThen_ok, run_underlying hu, hp, hf, Sem.run_pure]
theorem h_bld1 {t : TypeId} {fields : Array Field} {places : Array (Nat × Nat)} {z : Value} {x : Operand} {a : AV} {n : Nat} {zr : List Value} {Z segs : List Seg} (hx : ev T x = a) (ha : a.solid = true) (hu : P.underlying t = some (.struct fields)) (hz : ∀ w, (zeroValue t).run P w = .ok z w) (hp : ∀ w, (fields.mapM fun f => do pure (f.offset, ← sizeOf f.type) : Sem (Array (Nat × Nat))).run P w = .ok places w)
    (hpl : places[0]? = some (0, n)) (hn : sizeS a.row = n) (hzc : z.cells = (z.cells.toList.take n ++ zr).toArray) (hzn : n ≤ z.cells.size) (hZ : ∀ ρ, (AV.agg Z).rep ρ (.agg zr.toArray)) (hs : a.row ++ Z = segs) : HOk P ⟨d, .build t #[(0, x)], ty, pos, af, g⟩ T H (.agg segs) [] :=
  .pure fun W ρ ac w _ ho => by
    subst hs
    have k0 := ho x (by simp [Op.operands])
    rw [hx] at k0
    obtain ⟨r0, s0⟩ := av_row ha k0
    have hf : Instr.fill (places[·]?) z.cells [(0, ac.eval x)] = some ((ac.eval x).cells.toList ++ zr).toArray := by
      rw [hzc]
      have := fill_step (place := (places[·]?)) (pre := []) (mid := z.cells.toList.take n) (post := zr) (i := 0) (v := ac.eval x) (rest := []) (by simp [hpl]; omega) (by rw [s0, hn]; simp; omega)
      simp only [List.nil_append] at this
      rw [this]; rfl
    exact ⟨_, by simp only [execOp, List.map_toArray, List.map_cons, List.map_nil, Sem.run_bind, build_run (vs := #[(0, ac.eval x)]) hu hz hp hf]; rfl, rep_app r0 (hZ ρ)⟩
theorem h_bld2 {t : TypeId} {fields : Array Field} {places : Array (Nat × Nat)} {z : Value} {x y : Operand} {a b : AV} {n m : Nat} {segs : List Seg} (hx : ev T x = a) (hy : ev T y = b) (ha : a.solid = true) (hb : b.solid = true) (hu : P.underlying t = some (.struct fields)) (hz : ∀ w, (zeroValue t).run P w = .ok z w) (hp : ∀ w, (fields.mapM fun f => do pure (f.offset, ← sizeOf f.type) : Sem (Array (Nat × Nat))).run P w = .ok places w)
    (hpl : places = #[(0, n), (n, m)]) (hn : sizeS a.row = n) (hm : sizeS b.row = m) (hzn : z.cells.size = n + m) (hs : a.row ++ b.row = segs) : HOk P ⟨d, .build t #[(0, x), (1, y)], ty, pos, af, g⟩ T H (.agg segs) [] :=
  .pure fun W ρ ac w _ ho => by
    subst hs
    have k0 := ho x (by simp [Op.operands])
    have k1 := ho y (by simp [Op.operands])
    rw [hx] at k0
    rw [hy] at k1
    obtain ⟨r0, s0⟩ := av_row ha k0
    obtain ⟨r1, s1⟩ := av_row hb k1
    have hzl : z.cells.toList.length = n + m := by simpa using hzn
    have hf : Instr.fill (places[·]?) z.cells [(0, ac.eval x), (1, ac.eval y)] = some ((ac.eval x).cells.toList ++ (ac.eval y).cells.toList).toArray := by
      have e0 : z.cells = ([] ++ z.cells.toList.take n ++ z.cells.toList.drop n).toArray := by simp
      have l0 : (ac.eval x).cells.toList.length = n := by simp [s0, hn]
      have f0 := fill_step (place := (places[·]?)) (pre := []) (mid := z.cells.toList.take n) (post := z.cells.toList.drop n) (i := 0) (v := ac.eval x) (rest := [(1, ac.eval y)]) (by subst hpl; simp; omega) (by rw [s0, hn]; simp; omega)
      have f1 := fill_step (place := (places[·]?)) (pre := (ac.eval x).cells.toList) (mid := z.cells.toList.drop n) (post := []) (i := 1) (v := ac.eval y) (rest := []) (by subst hpl; rw [l0]; simp; omega) (by rw [s1, hm]; simp; omega)
      simp only [List.append_nil] at f1
      rw [e0, f0, List.nil_append, f1]; rfl
    exact ⟨_, by simp only [execOp, List.map_toArray, List.map_cons, List.map_nil, Sem.run_bind, build_run (vs := #[(0, ac.eval x), (1, ac.eval y)]) hu hz hp hf]; rfl, rep_app r0 r1⟩
theorem h_bld3 {t : TypeId} {fields : Array Field} {places : Array (Nat × Nat)} {z : Value} {x y q : Operand} {a b c : AV} {n m l : Nat} {segs : List Seg} (hx : ev T x = a) (hy : ev T y = b) (hq : ev T q = c) (ha : a.solid = true) (hb : b.solid = true) (hc : c.solid = true) (hu : P.underlying t = some (.struct fields)) (hz : ∀ w, (zeroValue t).run P w = .ok z w) (hp : ∀ w, (fields.mapM fun f => do pure (f.offset, ← sizeOf f.type) : Sem (Array (Nat × Nat))).run P w = .ok places w)
    (hpl : places = #[(0, n), (n, m), (n + m, l)]) (hn : sizeS a.row = n) (hm : sizeS b.row = m) (hl : sizeS c.row = l) (hzn : z.cells.size = n + m + l) (hs : a.row ++ (b.row ++ c.row) = segs) : HOk P ⟨d, .build t #[(0, x), (1, y), (2, q)], ty, pos, af, g⟩ T H (.agg segs) [] :=
  .pure fun W ρ ac w _ ho => by
    subst hs
    have k0 := ho x (by simp [Op.operands])
    have k1 := ho y (by simp [Op.operands])
    have k2 := ho q (by simp [Op.operands])
    rw [hx] at k0
    rw [hy] at k1
    rw [hq] at k2
    obtain ⟨r0, s0⟩ := av_row ha k0
    obtain ⟨r1, s1⟩ := av_row hb k1
    obtain ⟨r2, s2⟩ := av_row hc k2
    have hzl : z.cells.toList.length = n + m + l := by simpa using hzn
    have hf : Instr.fill (places[·]?) z.cells [(0, ac.eval x), (1, ac.eval y), (2, ac.eval q)] = some ((ac.eval x).cells.toList ++ ((ac.eval y).cells.toList ++ (ac.eval q).cells.toList)).toArray := by
      have e0 : z.cells = ([] ++ z.cells.toList.take n ++ ((z.cells.toList.drop n).take m ++ (z.cells.toList.drop n).drop m)).toArray := by
        rw [List.take_append_drop, List.nil_append, List.take_append_drop]
      have l0 : (ac.eval x).cells.toList.length = n := by simp [s0, hn]
      have l1 : (ac.eval y).cells.toList.length = m := by simp [s1, hm]
      have f0 := fill_step (place := (places[·]?)) (pre := []) (mid := z.cells.toList.take n) (post := (z.cells.toList.drop n).take m ++ (z.cells.toList.drop n).drop m) (i := 0) (v := ac.eval x) (rest := [(1, ac.eval y), (2, ac.eval q)]) (by subst hpl; simp; omega) (by rw [s0, hn]; simp; omega)
      have f1 := fill_step (place := (places[·]?)) (pre := (ac.eval x).cells.toList) (mid := (z.cells.toList.drop n).take m) (post := (z.cells.toList.drop n).drop m) (i := 1) (v := ac.eval y) (rest := [(2, ac.eval q)]) (by subst hpl; rw [l0]; simp; omega) (by rw [s1, hm]; simp; omega)
      have f2 := fill_step (place := (places[·]?)) (pre := (ac.eval x).cells.toList ++ (ac.eval y).cells.toList) (mid := (z.cells.toList.drop n).drop m) (post := []) (i := 2) (v := ac.eval q) (rest := []) (by subst hpl; rw [List.length_append, l0, l1]; simp; omega) (by rw [s2, hl]; simp; omega)
      simp only [List.append_nil] at f2
      rw [List.append_assoc] at f1
      rw [e0, f0, List.nil_append, f1, f2, Instr.fill, List.append_assoc]
    exact ⟨_, by simp only [execOp, List.map_toArray, List.map_cons, List.map_nil, Sem.run_bind, build_run (vs := #[(0, ac.eval x), (1, ac.eval y), (2, ac.eval q)]) hu hz hp hf]; rfl, rep_app r0 (rep_app r1 r2)⟩
theorem h_nen {t e tyy : TypeId} {x y : Operand} {id base idx : Nat} (hx : ev T x = .s (.ptr id base idx)) (hy : ev T y = .s .nilp) (hu : P.underlying t = some (.pointer e)) : HOk P ⟨d, .binOp .neq t x y tyy, ty, pos, af, g⟩ T H (.s (.bool true)) [] :=
  .pure fun W ρ a w _ ho => by
    obtain ⟨h1, h2⟩ := two (op := .binOp .neq t x y tyy) rfl ho hx hy
    simp only [AV.rep, SV.rep] at h1 h2
    obtain ⟨b, o, hρ, h1⟩ := h1
    exact ⟨.bool true, by simp [execOp, h1, h2, Sem.run_bind, eqGuard, binOp, Op.equal, Op.maxDepth, run_equalIn_ptr_nil w 9999 _ hu], rfl⟩
end rules
end Go.Ab
end

section
/- Two structs of arrays, as an argument, opened. No program. -/
namespace Go.Ab
section
open Go.ChangeShapes
variable {Hh : Type} {enc : TypeId × Value → Hh} {P : Program} {w : World} {base : Nat} {spare : Nat → Bool} {held : Bool}
theorem open_keys2 {r : Reach} {b0 : Nat} {tt t e : TypeId} {f0 f1 : Field} {n m : Nat} {k : IntKind} {v : Value} {d : DataW Hh} {ps : List MemPlace} (htt : P.underlying tt = some (.array 2 t)) (hctt : P.cellsOf tt = 2 * (n + m)) (ht : P.underlying t = some (.struct #[f0, f1])) (h0 : P.underlying f0.type = some (.array n e)) (h1 : P.underlying f1.type = some (.array m e)) (he : P.underlying e = some (.int k)) (hc : P.cellsOf e = 1) (c0 : P.cellsOf f0.type = n) (c1 : P.cellsOf f1.type = m) (o0 : f0.offset = 0) (o1 : f1.offset = n) (hct : P.cellsOf t = n + m)
    (hval : Value.okWide P w r b0 tt v) (hd : DataW.Trod enc P w base spare held tt v d ps) : ∃ l0 l1 l2 l3 : List Int, (l0.length = n ∧ l1.length = m ∧ l2.length = n ∧ l3.length = m) ∧ (∀ y ∈ l1, (Lit.int k y).wf = true) ∧ (∀ y ∈ l3, (Lit.int k y).wf = true) ∧ ∀ ρ, (AV.agg [.ints k n l0, .ints k m l1, .ints k n l2, .ints k m l3]).rep ρ v := by
  simp only [Value.okWide, htt] at hval
  obtain ⟨cs, rfl, _, _⟩ := hval
  obtain ⟨fuel, hf⟩ := hd
  obtain ⟨xs, q, _, _, hl, hlen, hall⟩ := DataW.trod_array htt hf
  match xs, hlen with
  | [y0, y1], _ =>
    have q0 := hall 0 (by omega)
    have q1 := hall 1 (by omega)
    simp only [List.getElem?_cons_zero, List.getElem?_cons_succ, hct] at q0 q1
    obtain ⟨l0, l1, a0, a1, _, w1, e0⟩ := open_keys_cells ht h0 h1 he hc c0 c1 o0 o1 hct q0
    obtain ⟨l2, l3, a2, a3, _, w3, e1⟩ := open_keys_cells ht h0 h1 he hc c0 c1 o0 o1 hct q1
    refine ⟨l0, l1, l2, l3, ⟨a0, a1, a2, a3⟩, w1, w3, fun ρ => ?_⟩
    obtain ⟨l⟩ := cs
    simp only [Value.cells, Nat.zero_mul, List.drop_zero, Nat.one_mul] at e0 e1 hl
    rw [hctt] at hl
    have e' : l = l0.map (Value.int k) ++ (l1.map (Value.int k) ++ (l2.map (Value.int k) ++ (l3.map (Value.int k) ++ []))) := by
      have s1 : l = l.take (n + m) ++ l.drop (n + m) := (List.take_append_drop _ _).symm
      have s2 : (l.drop (n + m)).take (n + m) = l.drop (n + m) := List.take_of_length_le (by simp; omega)
      rw [s2] at e1
      rw [s1, e0, e1, List.append_nil, List.append_assoc]
    rw [e']
    exact rep_cons_ints a0 (rep_cons_ints a1 (rep_cons_ints a2 (rep_cons_ints a3 rep_nil_agg)))
end
end Go.Ab
end

section
/- A drawn region in which something is appended to nothing, and more to that. No program. -/
namespace Go.Ab
/-- Integers, and noughts behind them. -/
def rowOf (k : IntKind) (B : List Int) (cap : Nat) : Array Value := (B.map (Value.int k) ++ List.replicate (cap - B.length) (Value.int k 0)).toArray
/-- A row of one's own, which nobody else names. -/
def Mine (E : Env) (d0 n : Nat) (k : IntKind) (ee : TypeId) (B : List Int) (ρ : Rho) (a : Act) (w : World) : Prop :=
  ∃ b cap, a.tmps.getD d0 undef = .slice (some ⟨b, 0, none⟩) n cap ∧ n ≤ cap ∧ w.heap[b]? = some (.cells (rowOf k B cap) ee (0, 0)) ∧ E.w0.heap.size ≤ b ∧ b < w.heap.size ∧ ∀ id x, ρ id = some x → x.1 ≠ b
def MakesOwn (P : Program) (o : Oper) (T : Tm) (H : Heap) (n : Nat) (k : IntKind) (ee : TypeId) (B : List Int) : Prop :=
  o.guard = none ∧ ∀ (W : Nat → Prop) (ρ : Rho) (a : Act) (w : World), HRep W ρ H w → Ops o T ρ a → ∀ (next : Act → World → Prop) (Q : Exit → Act → World → Prop), (∀ cap, n ≤ cap → next (a.put o.dst (.slice (some ⟨w.heap.size, 0, none⟩) n cap)) (w.drew.alloc (.cells (rowOf k B cap) ee))) → o.upon P a next Q ((execOp a.eval o).run P w)
/-- What came of it: the same row, or a new one. -/
def Went (b b' cap' n : Nat) (k : IntKind) (BC : List Int) (w w' : World) : Prop :=
  n ≤ cap' ∧ b' < w'.heap.size ∧ (∃ cells tt, w'.heap[b']? = some (.cells cells tt (0, 0)) ∧ ∀ i, i < n → cells[i]? = some (.int k (BC.getD i 0))) ∧ (b' = b ∨ b' = w.heap.size) ∧ w.heap.size ≤ w'.heap.size ∧ (∀ j, j < w.heap.size → j ≠ b' → w'.heap[j]? = w.heap[j]?) ∧ (w'.os = w.os ∧ w'.tape = w.tape ∧ w'.output = w.output)
def GoesOn (P : Program) (o : Oper) (d0 : Nat) (T : Tm) (H : Heap) (n : Nat) (k : IntKind) (ee : TypeId) (B C : List Int) : Prop :=
  o.guard = none ∧ ∀ (W : Nat → Prop) (ρ : Rho) (a : Act) (w : World) (b cap : Nat), HRep W ρ H w → Ops o T ρ a → a.tmps.getD d0 undef = .slice (some ⟨b, 0, none⟩) n cap → n ≤ cap → w.heap[b]? = some (.cells (rowOf k B cap) ee (0, 0)) → (∀ id x, ρ id = some x → x.1 ≠ b) →
    ∀ (next : Act → World → Prop) (Q : Exit → Act → World → Prop), (∀ b' cap' w', Went b b' cap' (n + C.length) k (B ++ C) w w' → next (a.put o.dst (.slice (some ⟨b', 0, none⟩) (n + C.length) cap')) w') → o.upon P a next Q ((execOp a.eval o).run P w)
inductive XSteps (P : Program) (ops : Array Oper) (j0 k0 d0 n : Nat) (kk : IntKind) (ee : TypeId) (B C : List Int) : List Oper → Nat → Tm → Heap → Tm → Heap → Prop
  | nil {i T H} : XSteps P ops j0 k0 d0 n kk ee B C [] i T H T H
  | cons {o r i T H v nb T' H'} : i ≠ j0 → i ≠ k0 → Guard ops T o true → HOk P o T H v nb → XSteps P ops j0 k0 d0 n kk ee B C r (i + 1) (put T o.dst v) (H ++ nb.map some) T' H' → XSteps P ops j0 k0 d0 n kk ee B C (o :: r) i T H T' H'
  | skip {o r i T H T' H'} : i ≠ j0 → i ≠ k0 → Guard ops T o false → XSteps P ops j0 k0 d0 n kk ee B C r (i + 1) (put T o.dst (.s .junk)) H T' H' → XSteps P ops j0 k0 d0 n kk ee B C (o :: r) i T H T' H'
  | own {o r T H T' H'} : o.dst = some d0 → MakesOwn P o T H n kk ee B → XSteps P ops j0 k0 d0 n kk ee B C r (j0 + 1) ((d0, .s .junk) :: T) H T' H' → XSteps P ops j0 k0 d0 n kk ee B C (o :: r) j0 T H T' H'
  | goes {o r T H T' H'} : GoesOn P o d0 T H n kk ee B C → XSteps P ops j0 k0 d0 n kk ee B C r (k0 + 1) (put T o.dst (.s (.slx H.length 0 0 (n + C.length)))) (H ++ [some ⟨true, [.ints kk (n + C.length) (B ++ C)]⟩]) T' H' → XSteps P ops j0 k0 d0 n kk ee B C (o :: r) k0 T H T' H'
def StepX (P : Program) (ops : Array Oper) (j0 k0 d0 n : Nat) (kk : IntKind) (ee : TypeId) (B C : List Int) (V : Nat → AV) (N : Nat → List Blk) (T0 : Tm) (H0 : Heap) (k : Nat) : Prop :=
  (k ≠ j0 ∧ k ≠ k0 ∧ StepOk P ops V N T0 H0 k) ∨ (k = j0 ∧ V k = .s .junk ∧ N k = [] ∧ ∃ o, ops[k]? = some o ∧ o.dst = some d0 ∧ MakesOwn P o (Tk ops V T0 k) (Hk N H0 k) n kk ee B) ∨
  (k = k0 ∧ V k = .s (.slx (Hk N H0 k).length 0 0 (n + C.length)) ∧ N k = [⟨true, [.ints kk (n + C.length) (B ++ C)]⟩] ∧ ∃ o, ops[k]? = some o ∧ GoesOn P o d0 (Tk ops V T0 k) (Hk N H0 k) n kk ee B C)
theorem ext_drew (w : World) (o : Obj) : Ext w (w.drew.alloc o) :=
  let e := Ext.alloc w.drew o
  ⟨e.os, e.tape, e.output, e.size, e.block⟩
theorem traceX {j0 k0 d0 n : Nat} {kk : IntKind} {ee : TypeId} {B C : List Int} {P : Program} {ops : Array Oper} {l : List Oper} {T T' : Tm} {H H' : Heap} {i : Nat} (hs : XSteps P ops j0 k0 d0 n kk ee B C l i T H T' H') (T0 : Tm) (H0 : Heap) :
    ∀ (V0 : Nat → AV) (N0 : Nat → List Blk), (∀ j, j < l.length → l[j]? = ops[i + j]?) → T = Tk ops V0 T0 i → H = Hk N0 H0 i →
      ∃ V N, (∀ j, j < i → V j = V0 j ∧ N j = N0 j) ∧ (∀ k, i ≤ k → k < i + l.length → StepX P ops j0 k0 d0 n kk ee B C V N T0 H0 k) ∧ Tk ops V T0 (i + l.length) = T' ∧ Hk N H0 (i + l.length) = H' := by
  induction hs with
  | nil => exact fun V0 N0 _ hT hH => ⟨V0, N0, fun _ _ => ⟨rfl, rfl⟩, fun k h1 h2 => by simp at h2; omega, hT.symm, hH.symm⟩
  | @cons o r i T H v nb T' H' hj hk0 hg h _ ih =>
    intro V0 N0 hl hT hH
    have h0 : ops[i]? = some o := by have := hl 0 (by simp); simpa using this.symm
    let V1 : Nat → AV := fun j => if j = i then v else V0 j
    let N1 : Nat → List Blk := fun j => if j = i then nb else N0 j
    have eT : Tk ops V1 T0 i = T := by rw [hT]; exact Tk_congr fun j hj => by simp [V1, show j ≠ i by omega]
    have eH : Hk N1 H0 i = H := by rw [hH]; exact Hk_congr fun j hj => by simp [N1, show j ≠ i by omega]
    obtain ⟨V, N, k1, k2, k3, k4⟩ := ih V1 N1 (fun j hj => by have := hl (j + 1) (by simpa using hj); simpa [Nat.add_assoc, Nat.add_comm 1 j] using this) (by simp only [Tk, eT, h0, Option.bind_some]; simp [V1]) (by simp only [Hk, eH]; simp [N1])
    have vi : V i = v := by rw [(k1 i (by omega)).1]; simp [V1]
    have ni : N i = nb := by rw [(k1 i (by omega)).2]; simp [N1]
    refine ⟨V, N, fun j hj => ?_, fun k h1 h2 => ?_, by rw [List.length_cons, ← k3]; congr 1; omega, by rw [List.length_cons, ← k4]; congr 1; omega⟩
    · have := k1 j (by omega)
      simpa [V1, N1, show j ≠ i by omega] using this
    · by_cases hk : k = i
      · subst hk
        refine .inl ⟨hj, hk0, o, h0, .inl ?_⟩
        have e1 : Tk ops V T0 k = T := by rw [← eT]; exact Tk_congr fun j hj => (k1 j (by omega)).1
        have e2 : Hk N H0 k = H := by rw [← eH]; exact Hk_congr fun j hj => (k1 j (by omega)).2
        rw [e1, e2, vi, ni]; exact ⟨hg, h⟩
      · exact k2 k (by omega) (by simp at h2; omega)
  | @skip o r i T H T' H' hj hk0 hg _ ih =>
    intro V0 N0 hl hT hH
    have h0 : ops[i]? = some o := by have := hl 0 (by simp); simpa using this.symm
    let V1 : Nat → AV := fun j => if j = i then .s .junk else V0 j
    let N1 : Nat → List Blk := fun j => if j = i then [] else N0 j
    have eT : Tk ops V1 T0 i = T := by rw [hT]; exact Tk_congr fun j hj => by simp [V1, show j ≠ i by omega]
    have eH : Hk N1 H0 i = H := by rw [hH]; exact Hk_congr fun j hj => by simp [N1, show j ≠ i by omega]
    obtain ⟨V, N, k1, k2, k3, k4⟩ := ih V1 N1 (fun j hj => by have := hl (j + 1) (by simpa using hj); simpa [Nat.add_assoc, Nat.add_comm 1 j] using this) (by simp only [Tk, eT, h0, Option.bind_some]; simp [V1]) (by simp only [Hk, eH]; simp [N1])
    have vi : V i = .s .junk := by rw [(k1 i (by omega)).1]; simp [V1]
    have ni : N i = [] := by rw [(k1 i (by omega)).2]; simp [N1]
    refine ⟨V, N, fun j hj => ?_, fun k h1 h2 => ?_, by rw [List.length_cons, ← k3]; congr 1; omega, by rw [List.length_cons, ← k4]; congr 1; omega⟩
    · have := k1 j (by omega)
      simpa [V1, N1, show j ≠ i by omega] using this
    · by_cases hk : k = i
      · subst hk
        refine .inl ⟨hj, hk0, o, h0, .inr ?_⟩
        have e1 : Tk ops V T0 k = T := by rw [← eT]; exact Tk_congr fun j hj => (k1 j (by omega)).1
        rw [e1, vi, ni]; exact ⟨hg, rfl, rfl⟩
      · exact k2 k (by omega) (by simp at h2; omega)
  | @own o r T H T' H' hd h _ ih =>
    intro V0 N0 hl hT hH
    have h0 : ops[j0]? = some o := by have := hl 0 (by simp); simpa using this.symm
    let V1 : Nat → AV := fun j => if j = j0 then .s .junk else V0 j
    let N1 : Nat → List Blk := fun j => if j = j0 then [] else N0 j
    have eT : Tk ops V1 T0 j0 = T := by rw [hT]; exact Tk_congr fun j hj => by simp [V1, show j ≠ j0 by omega]
    have eH : Hk N1 H0 j0 = H := by rw [hH]; exact Hk_congr fun j hj => by simp [N1, show j ≠ j0 by omega]
    obtain ⟨V, N, k1, k2, k3, k4⟩ := ih V1 N1 (fun j hj => by have := hl (j + 1) (by simpa using hj); simpa [Nat.add_assoc, Nat.add_comm 1 j] using this) (by simp only [Tk, eT, h0, Option.bind_some, hd]; simp [V1, put]) (by simp only [Hk, eH]; simp [N1])
    have vi : V j0 = .s .junk := by rw [(k1 j0 (by omega)).1]; simp [V1]
    have ni : N j0 = [] := by rw [(k1 j0 (by omega)).2]; simp [N1]
    refine ⟨V, N, fun j hj => ?_, fun k h1 h2 => ?_, by rw [List.length_cons, ← k3]; congr 1; omega, by rw [List.length_cons, ← k4]; congr 1; omega⟩
    · have := k1 j (by omega)
      simpa [V1, N1, show j ≠ j0 by omega] using this
    · by_cases hk : k = j0
      · subst hk
        have e1 : Tk ops V T0 k = T := by rw [← eT]; exact Tk_congr fun j hj => (k1 j (by omega)).1
        have e2 : Hk N H0 k = H := by rw [← eH]; exact Hk_congr fun j hj => (k1 j (by omega)).2
        exact .inr (.inl ⟨rfl, vi, ni, o, h0, hd, by rw [e1, e2]; exact h⟩)
      · exact k2 k (by omega) (by simp at h2; omega)
  | @goes o r T H T' H' h _ ih =>
    intro V0 N0 hl hT hH
    have h0 : ops[k0]? = some o := by have := hl 0 (by simp); simpa using this.symm
    let V1 : Nat → AV := fun j => if j = k0 then .s (.slx H.length 0 0 (n + C.length)) else V0 j
    let N1 : Nat → List Blk := fun j => if j = k0 then [⟨true, [.ints kk (n + C.length) (B ++ C)]⟩] else N0 j
    have eT : Tk ops V1 T0 k0 = T := by rw [hT]; exact Tk_congr fun j hj => by simp [V1, show j ≠ k0 by omega]
    have eH : Hk N1 H0 k0 = H := by rw [hH]; exact Hk_congr fun j hj => by simp [N1, show j ≠ k0 by omega]
    obtain ⟨V, N, k1, k2, k3, k4⟩ := ih V1 N1 (fun j hj => by have := hl (j + 1) (by simpa using hj); simpa [Nat.add_assoc, Nat.add_comm 1 j] using this) (by simp only [Tk, eT, h0, Option.bind_some]; simp [V1]) (by simp only [Hk, eH]; simp [N1])
    have vi : V k0 = .s (.slx H.length 0 0 (n + C.length)) := by rw [(k1 k0 (by omega)).1]; simp [V1]
    have ni : N k0 = [⟨true, [.ints kk (n + C.length) (B ++ C)]⟩] := by rw [(k1 k0 (by omega)).2]; simp [N1]
    refine ⟨V, N, fun j hj => ?_, fun k h1 h2 => ?_, by rw [List.length_cons, ← k3]; congr 1; omega, by rw [List.length_cons, ← k4]; congr 1; omega⟩
    · have := k1 j (by omega)
      simpa [V1, N1, show j ≠ k0 by omega] using this
    · by_cases hk : k = k0
      · subst hk
        have e1 : Tk ops V T0 k = T := by rw [← eT]; exact Tk_congr fun j hj => (k1 j (by omega)).1
        have e2 : Hk N H0 k = H := by rw [← eH]; exact Hk_congr fun j hj => (k1 j (by omega)).2
        exact .inr (.inr ⟨rfl, by rw [vi, e2], ni, o, h0, by rw [e1, e2]; exact h⟩)
      · exact k2 k (by omega) (by simp at h2; omega)


structure InvX (E : Env) (ops : Array Oper) (m j0 k0 d0 n : Nat) (kk : IntKind) (ee : TypeId) (B : List Int) (V : Nat → AV) (N : Nat → List Blk) (T0 : Tm) (H0 : Heap) (listed : Array Bool) (a : Act) (w : World) : Prop where
  size : listed.size = ops.size
  closed : Closed ops listed
  late : ∀ i, m ≤ i → i < ops.size → listed.getD i false = false
  ex : ∃ ρ, Rle E.ρ0 ρ ∧ HRep E.W ρ (Hk N H0 m) w ∧
    (∀ t, (∀ j, j < m → listed.getD j false = true → (ops[j]?).bind (·.dst) = some t → (V j).rep ρ (a.tmps.getD t undef)) ∧ ((∀ j, j < m → (ops[j]?).bind (·.dst) ≠ some t) → (look T0 t).rep ρ (a.tmps.getD t undef))) ∧
    (∀ id x, ρ id = some x → id < H0.length ∨ ∃ j, j < m ∧ listed.getD j false = true ∧ (Hk N H0 j).length ≤ id ∧ id < (Hk N H0 j).length + (N j).length) ∧
    a.tmps.size = E.n ∧ DefOk E.w0 a.defers w ∧ Fr E.W E.w0 w ∧ (listed.getD j0 false = true → listed.getD k0 false = false → Mine E d0 n kk ee B ρ a w)


theorem head_app {j0 k0 d0 n : Nat} {kk : IntKind} {ee : TypeId} {B C : List Int} {E : Env} {ops : Array Oper} {Q : Exit → Act → World → Prop} {m : Nat} (hok : regionOk E.n ops = true) (hany : anyOk ops m = true) (hm : m ≤ ops.size) (hj0 : j0 < k0) (hk0 : k0 < m) (hcon : ((reach ops).getD k0 0).testBit j0 = true) {V : Nat → AV} {N : Nat → List Blk} {T0 : Tm} {H0 : Heap}
    (hstep : ∀ k, k < m → StepX E.P ops j0 k0 d0 n kk ee B C V N T0 H0 k) {l : List Oper} (hl : ∀ j, l[j]? = ops[m + j]?) (hlen : m + l.length = ops.size) {T' : Tm} {H' : Heap} (htail : Steps E.P ops l (Tk ops V T0 m) (Hk N H0 m) T' H') (hQ : ∀ a' w', Rep E T' H' a' w' → Q .normal a' w') :
    ∀ (fuel : Nat) (us : List Nat) (listed : Array Bool) (a : Act) (w : World), (∀ j, j < m → listed.getD j false = false → j ∈ us) → us.length + l.length ≤ fuel → InvX E ops m j0 k0 d0 n kk ee B V N T0 H0 listed a w → wpAny E.P .any ops Q fuel listed a w := by
  have finish : ∀ (fuel : Nat) (listed : Array Bool) (a : Act) (w : World), (∀ j, j < m → listed.getD j false = true) → l.length ≤ fuel → InvX E ops m j0 k0 d0 n kk ee B V N T0 H0 listed a w → wpAny E.P .any ops Q fuel listed a w := by
    intro fuel listed a w hall hf hi
    refine tail_any hok hany htail m (Nat.le_refl _) hlen hl fuel listed hf hi.size (fun i his => ?_) a w ?_ hQ
    · rcases Nat.lt_or_ge i m with h | h
      · rw [hall i h]; simp [h]
      · rw [hi.late i h his]; simp; omega
    · obtain ⟨ρ, k1, k2, k3, k4, k5, k6, k7, k8⟩ := hi.ex
      refine ⟨ρ, k1, fun id hid => ?_, k2, fun t => ?_, k5, k6, k7⟩
      · cases hr : ρ id with
        | none => rfl
        | some x =>
          rcases k4 id x hr with h | ⟨j, h1, _, _, h2⟩
          · obtain ⟨r, hr⟩ := Hk_le (N := N) (H0 := H0) (Nat.zero_le m)
            simp only [Hk] at hr
            rw [hr] at hid
            simp at hid; omega
          · have := Hk_len (N := N) (H0 := H0) h1
            omega
      · rcases look_Tk (ops := ops) (V := V) (T0 := T0) t m with ⟨j, h1, h2, h3⟩ | ⟨h1, h2⟩
        · rw [h3]; exact (k3 t).1 j h1 (hall j h1) h2
        · rw [h2]; exact (k3 t).2 h1
  intro fuel
  induction fuel with
  | zero =>
    intro us listed a w hus hf hi
    refine finish 0 listed a w (fun j hj => ?_) (by omega) hi
    cases hb : listed.getD j false with
    | true => rfl
    | false => have := hus j hj hb; have := List.length_pos_of_mem this; omega
  | succ fuel ih =>
    intro us listed a w hus hf hi
    by_cases hall : ∀ j, j < m → listed.getD j false = true
    · exact finish _ listed a w hall (by omega) hi
    have hex : ∃ j, j < m ∧ listed.getD j false = false := by
      apply Classical.byContradiction
      intro hn
      refine hall fun j hj => ?_
      cases hb : listed.getD j false with
      | true => rfl
      | false => exact absurd ⟨j, hj, hb⟩ hn
    -- the least unlisted one is ready
    have hready : ∃ j, j ∈ Region.ready .any ops listed := by
      have hleast : ∀ n, (∃ j, j ≤ n ∧ j < m ∧ listed.getD j false = false) → ∃ j, j < m ∧ listed.getD j false = false ∧ ∀ i, i < j → listed.getD i false = true := by
        intro n
        induction n with
        | zero =>
          rintro ⟨j, h1, h2, h3⟩
          have : j = 0 := by omega
          subst this
          exact ⟨0, h2, h3, fun i hi => absurd hi (by omega)⟩
        | succ n ihn =>
          rintro ⟨j, h1, h2, h3⟩
          by_cases hh : ∃ j, j ≤ n ∧ j < m ∧ listed.getD j false = false
          · exact ihn hh
          · refine ⟨j, h2, h3, fun i hi => ?_⟩
            cases hb : listed.getD i false with
            | true => rfl
            | false => exact absurd ⟨i, by omega, by omega, hb⟩ hh
      obtain ⟨j0, h1, h2⟩ := hex
      obtain ⟨j, hj, hjf, hji⟩ := hleast j0 ⟨j0, Nat.le_refl _, h1, h2⟩
      have hjs : j < ops.size := by omega
      have ho : ops[j]? = some ops[j] := by simp [hjs]
      exact ⟨j, mem_ready.2 ⟨by simp [hi.size, hjs] at hjf ⊢; exact hjf, _, ho, fun e he hb => hji _ (anyOk_edge hany ho e he hb)⟩⟩
    refine ⟨fun hn => (by obtain ⟨j, hj⟩ := hready; rw [hn] at hj; cases hj), fun i hir => ?_⟩
    obtain ⟨hun, o, ho, hedges⟩ := mem_ready.1 hir
    have his : i < ops.size := (Array.getElem?_eq_some_iff.1 ho).1
    have hif : listed.getD i false = false := by simp [hi.size, his] at hun ⊢; exact hun
    have him : i < m := by
      rcases Nat.lt_or_ge i m with h | h
      · exact h
      · obtain ⟨j, h1, h2⟩ := hex
        have := reach_listed hany hi.closed i o j ho (anyOk_tail hany ho h j (by omega)) hedges
        rw [h2] at this; cases this
    obtain ⟨ρ, k1, k2, k3, k4, k5, k6, k7, k8⟩ := hi.ex
    have hso := hstep i him
    -- what it looks at is told
    have hlook : ∀ t, t ∈ o.looksAt ops → (look (Tk ops V T0 i) t).rep ρ (a.tmps.getD t undef) := by
      intro t ht
      rcases look_Tk (ops := ops) (V := V) (T0 := T0) t i with ⟨j, h1, h2, h3⟩ | ⟨h1, h2⟩
      · rw [h3]
        have hjs : j < ops.size := by omega
        have hp : ops[j]? = some ops[j] := by simp [hjs]
        have hd : ops[j].dst = some t := by rw [hp] at h2; simpa using h2
        have := (anyOk_head hany ho him (show j < m by omega) hp hd).2 ht
        exact (k3 t).1 j (by omega) (reach_listed hany hi.closed i o j ho this.2 hedges) h2
      · rw [h2]
        refine (k3 t).2 fun j hj hd => ?_
        by_cases hji : j < i
        · exact h1 j hji hd
        · have hjs : j < ops.size := by omega
          have hp : ops[j]? = some ops[j] := by simp [hjs]
          have hd' : ops[j].dst = some t := by rw [hp] at hd; simpa using hd
          have := (anyOk_head hany ho him hj hp hd').2 ht
          omega
    have hopk := regionOk_op hok ho
    have hopsrep : Ops o (Tk ops V T0 i) ρ a := by
      intro x hx
      simp only [opOk, Bool.and_eq_true, Array.all_eq_true_iff_forall_mem] at hopk
      cases x with
      | tmp t => exact hlook t (looksAt_op hx)
      | global g => trivial
      | func f => exact ⟨rfl, rfl⟩
      | const c =>
        have h := hopk.1.1 _ hx
        simp only [operandOk] at h
        unfold constOk at h
        split at h <;> first
          | (cases h; done)
          | exact rfl
          | exact ⟨rfl, rfl⟩
    have hdst : ∀ d, o.dst = some d → d < a.tmps.size := fun d hd => by rw [k5]; exact opOk_dst hopk d hd
    have hwant : ∀ c, Guard ops (Tk ops V T0 i) o c → Region.wanted o (yielded ops a.tmps) = c := fun c hg =>
      hg.wanted (ρ := ρ) fun j b t e1 e2 => ⟨hlook t (looksAt_guard e1 e2), by rw [k5]; exact regionOk_guard hok j t e2⟩
    have hW : ∀ b, w.heap.size ≤ b → E.W b := fun b hb => E.hW b (Nat.le_trans k7.size hb)
    obtain ⟨rest, hrest⟩ := Hk_le (N := N) (H0 := H0) (show i + 1 ≤ m by omega)
    have hrest' : Hk N H0 m = Hk N H0 i ++ ((N i).map some ++ rest) := by rw [hrest]; simp only [Hk, List.append_assoc]
    have hnone : ∀ i', i' < (N i).length → ρ ((Hk N H0 i).length + i') = none := by
      intro i' hi'
      cases hr : ρ ((Hk N H0 i).length + i') with
      | none => rfl
      | some x =>
        rcases k4 _ x hr with h | ⟨j, h1, h2, h3, h4⟩
        · obtain ⟨r, hr⟩ := Hk_le (N := N) (H0 := H0) (Nat.zero_le i)
          simp only [Hk] at hr
          rw [hr] at h; simp at h; omega
        · rcases Nat.lt_trichotomy i j with h5 | h5 | h5
          · have := Hk_len (N := N) (H0 := H0) h5; omega
          · subst h5; rw [hif] at h2; cases h2
          · have := Hk_len (N := N) (H0 := H0) h5; omega
    -- the step
    have hinv : ∀ (v' : Value) (w' : World) (ρ' : Rho), New ρ ρ' (Hk N H0 i).length (N i) w w' → (V i).rep ρ' v' → ((listed.setIfInBounds i true).getD j0 false = true → (listed.setIfInBounds i true).getD k0 false = false → Mine E d0 n kk ee B ρ' (a.put o.dst v') w') → InvX E ops m j0 k0 d0 n kk ee B V N T0 H0 (listed.setIfInBounds i true) (a.put o.dst v') w' := by
      intro v' w' ρ' hnew hv hmine
      have hset : ∀ j, j ≠ i → (listed.setIfInBounds i true).getD j false = listed.getD j false := fun j hj => getD_set_ne false (Ne.symm hj)
      have hseti : (listed.setIfInBounds i true).getD i false = true := by simp [hi.size, his]
      refine ⟨by simpa using hi.size, fun j p hp hjl e he hb => ?_, fun j h1 h2 => by rw [hset j (by omega)]; exact hi.late j h1 h2, ρ', k1.trans hnew.le, ?_, fun t => ?_, fun id x hx => ?_, (put_size _ _ _).trans k5, (by rw [put_defers]; exact k6.ext hnew.ext), k7.ext hnew.ext, hmine⟩
      · have keep : ∀ x, listed.getD x false = true → (listed.setIfInBounds i true).getD x false = true := fun x hx => getD_set_true hx
        by_cases hji : j = i
        · subst hji
          rw [ho] at hp
          cases hp
          exact keep _ (hedges e he hb)
        · rw [hset j hji] at hjl
          exact keep _ (hi.closed j p hp hjl e he hb)
      · refine k2.new' hW hnone (fun i' hi' => ?_) hnew
        rw [hrest', List.getElem?_append_right (by omega), Nat.add_sub_cancel_left, List.getElem?_append_left (by simpa using hi')]
        simp [hi']
      · have hslot : (a.put o.dst v').tmps.getD t undef = if o.dst = some t then v' else a.tmps.getD t undef := by
          cases hd : o.dst with
          | none => simp [Act.put]
          | some d =>
            simp only [Act.put]
            rw [getD_set _ _ _ _ (hdst d hd)]
            simp
        rw [hslot]
        refine ⟨fun j hj hlj hdj => ?_, fun hno => ?_⟩
        · by_cases hji : j = i
          · subst hji
            rw [ho] at hdj
            have hdj : o.dst = some t := by simpa using hdj
            rw [if_pos hdj]; exact hv
          · have hjs : j < ops.size := by omega
            have hp : ops[j]? = some ops[j] := by simp [hjs]
            have hd' : ops[j].dst = some t := by rw [hp] at hdj; simpa using hdj
            have h1 := (anyOk_head hany ho him hj hp hd').1
            rw [if_neg (h1.resolve_left hji)]
            rw [hset j hji] at hlj
            exact AV.rep_le hnew.le ((k3 t).1 j hj hlj hdj)
        · have : o.dst ≠ some t := by have := hno i him; rw [ho] at this; simpa using this
          rw [if_neg this]
          exact AV.rep_le hnew.le ((k3 t).2 hno)
      · obtain ⟨b, off⟩ := x
        rcases hnew.old id b off hx with h | ⟨h1, h2, _, _⟩
        · rcases k4 id _ h with h | ⟨j, h1, h2, h3⟩
          · exact .inl h
          · refine .inr ⟨j, h1, ?_, h3⟩
            by_cases hji : j = i
            · subst hji; exact hseti
            · rw [hset j hji]; exact h2
        · exact .inr ⟨i, him, hseti, h1, h2⟩
    have hus' : ∀ j, j < m → (listed.setIfInBounds i true).getD j false = false → j ∈ us.erase i := by
      intro j hj hjf
      by_cases hji : j = i
      · subst hji; simp [hi.size, his] at hjf
      · rw [getD_set_ne false (Ne.symm hji)] at hjf
        exact (List.mem_erase_of_ne hji).2 (hus j hj hjf)
    have hlen' : (us.erase i).length + l.length ≤ fuel := by
      have hmem := hus i him hif
      rw [List.length_erase_of_mem hmem]
      have := List.length_pos_of_mem hmem
      omega
    have hputo : ∀ (v' : Value) (t : Nat), o.dst ≠ some t → (a.put o.dst v').tmps.getD t undef = a.tmps.getD t undef := by
      intro v' t ht
      cases hd : o.dst with
      | none => simp [Act.put]
      | some d =>
        simp only [Act.put]
        rw [getD_set _ _ _ _ (hdst d hd), if_neg (fun e => ht (by rw [hd, e]))]
    unfold wpOp
    simp only [ho]
    rcases hso with ⟨hij, hik, o', ho', hso⟩ | ⟨rfl, hVj, hNj, o', ho', hod, hown⟩ | ⟨rfl, hVk, hNk, o', ho', hgo⟩
    · rw [ho] at ho'
      cases ho'
      have hkeep : ∀ (v' : Value) (w' : World) (ρ' : Rho), New ρ ρ' (Hk N H0 i).length (N i) w w' → ((listed.setIfInBounds i true).getD j0 false = true → (listed.setIfInBounds i true).getD k0 false = false → Mine E d0 n kk ee B ρ' (a.put o.dst v') w') := by
        intro v' w' ρ' hnew e1 e2
        rw [getD_set_ne false hij] at e1
        rw [getD_set_ne false hik] at e2
        obtain ⟨b, cap, m1, m2, m3, m4, m5, m6⟩ := k8 e1 e2
        have hj0s : j0 < ops.size := by omega
        have hp : ops[j0]? = some ops[j0] := by simp [hj0s]
        have hd0 : ops[j0].dst = some d0 := by
          rcases hstep j0 (by omega) with ⟨h1, _⟩ | ⟨_, _, _, o2, ho2, hod, _⟩ | ⟨h1, _⟩
          · exact absurd rfl h1
          · rw [hp] at ho2; cases ho2; exact hod
          · omega
        have hne : o.dst ≠ some d0 := ((anyOk_head hany ho him (show j0 < m by omega) hp hd0).1).resolve_left (fun e => hij e.symm)
        refine ⟨b, cap, by rw [hputo v' d0 hne]; exact m1, m2, by rw [hnew.ext.block b m5]; exact m3, m4, Nat.lt_of_lt_of_le m5 hnew.ext.size, fun id x hx => ?_⟩
        obtain ⟨b', o'⟩ := x
        rcases hnew.old id b' o' hx with h | ⟨_, _, h3, _⟩
        · exact m6 id _ h
        · show b' ≠ b
          omega
      rcases hso with ⟨hg, hh⟩ | ⟨hg, hv, hn⟩
      · rw [hwant _ hg]
        simp only [if_true]
        refine .inl (hh E.W ρ a w ((hrest' ▸ k2).sub_pre) hnone hopsrep _ Q ?_)
        rintro v' w' ⟨ρ', hnew, hv⟩
        exact ih (us.erase i) _ _ _ hus' hlen' (hinv v' w' ρ' hnew hv (hkeep v' w' ρ' hnew))
      · rw [hwant _ hg]
        simp only [Bool.false_eq_true, if_false]
        have hnw : New ρ ρ (Hk N H0 i).length (N i) w w := by rw [hn]; exact .nil (.refl _)
        refine ih (us.erase i) _ _ _ hus' hlen' (hinv undef w ρ hnw ?_ (hkeep undef w ρ hnw))
        rw [hv]; trivial
    · rw [ho] at ho'
      cases ho'
      rw [hwant _ (.free hown.1)]
      simp only [if_true]
      refine .inl (hown.2 E.W ρ a w ((hrest' ▸ k2).sub_pre) hopsrep _ Q fun cap hcap => ?_)
      have hex : Ext w (w.drew.alloc (.cells (rowOf kk B cap) ee)) := ext_drew _ _
      refine ih (us.erase i) _ _ _ hus' hlen' (hinv _ _ ρ (by rw [hNj]; exact .nil hex) (by rw [hVj]; trivial) fun _ _ => ?_)
      refine ⟨w.heap.size, cap, ?_, hcap, ?_, k7.size, (Array.getElem?_eq_some_iff.1 (heap_alloc_new w.drew (.cells (rowOf kk B cap) ee))).1, fun id x hx => ?_⟩
      · rw [hod]
        simp only [Act.put]
        rw [getD_set _ _ _ _ (hdst d0 hod), if_pos rfl]
      · exact heap_alloc_new w.drew _
      · have := k2.lt id x.1 x.2 hx
        omega
    · rw [ho] at ho'
      cases ho'
      rw [hwant _ (.free hgo.1)]
      simp only [if_true]
      have hjl : listed.getD j0 false = true := reach_listed hany hi.closed i o j0 ho hcon hedges
      obtain ⟨b, cap, m1, m2, m3, m4, m5, m6⟩ := k8 hjl hif
      have hN1 : ρ (Hk N H0 i).length = none := by
        have := hnone 0 (by rw [hNk]; simp)
        simpa using this
      have hHb : (Hk N H0 m)[(Hk N H0 i).length]? = some (some ⟨true, [.ints kk (n + C.length) (B ++ C)]⟩) := by
        rw [hrest', List.getElem?_append_right (Nat.le_refl _), Nat.sub_self, hNk]; rfl
      refine .inl (hgo.2 E.W ρ a w b cap ((hrest' ▸ k2).sub_pre) hopsrep m1 m2 m3 m6 _ Q fun b' cap' w' went => ?_)
      obtain ⟨q1, q2, q3, q4, q5, q6, q7⟩ := went
      have hWb : E.W b' := by
        rcases q4 with e | e
        · rw [e]; exact E.hW b m4
        · rw [e]; exact E.hW _ k7.size
      have hfr : Fr E.W w w' := ⟨q7.1, q7.2.1, q7.2.2, q5, fun j hj hnW => q6 j hj (fun e => hnW (by rw [e]; exact hWb)), fun j ob hj hc => by
        have hjs : j < w.heap.size := by
          rcases Nat.lt_or_ge j w.heap.size with h | h
          · exact h
          · rw [Array.getElem?_eq_none h] at hj; cases hj
        rw [q6 j hjs (fun e => by
          rcases q4 with e2 | e2
          · rw [e, e2, m3] at hj; cases hj; simp [Obj.isCells] at hc
          · omega)]
        exact hj⟩
      have hnb : ∀ id x, ρ id = some x → x.1 ≠ b' := fun id x hx => by
        rcases q4 with e | e
        · rw [e]; exact m6 id x hx
        · have := k2.lt id x.1 x.2 hx; omega
      have hle : Rle ρ (upd ρ (Hk N H0 i).length b') := upd_le hN1
      have hset : ∀ j, j ≠ i → (listed.setIfInBounds i true).getD j false = listed.getD j false := fun j hj => getD_set_ne false (Ne.symm hj)
      have hseti : (listed.setIfInBounds i true).getD i false = true := by simp [hi.size, his]
      refine ih (us.erase i) _ _ _ hus' hlen' ⟨by simpa using hi.size, fun j p hp hjl e he hb => ?_, fun j h1 h2 => by rw [hset j (by omega)]; exact hi.late j h1 h2, upd ρ (Hk N H0 i).length b', k1.trans hle, ?_, fun t => ?_, fun id x hx => ?_, (put_size _ _ _).trans k5, (by rw [put_defers]; exact k6.fr hfr), k7.trans hfr, fun _ e2 => by rw [hseti] at e2; cases e2⟩
      · by_cases hji : j = i
        · subst hji
          rw [ho] at hp
          cases hp
          exact getD_set_true (hedges e he hb)
        · rw [hset j hji] at hjl
          exact getD_set_true (hi.closed j p hp hjl e he hb)
      · refine ⟨fun id b2 o2 e => ?_, fun id b2 o2 q e e2 => ?_, fun id id' b2 o2 o2' q q' hne e e' e2 e2' => ?_⟩
        · by_cases hid : id = (Hk N H0 i).length
          · simp [upd, hid] at e; obtain ⟨rfl, rfl⟩ := e; exact q2
          · simp [upd, hid] at e; exact Nat.lt_of_lt_of_le (k2.lt _ _ _ e) q5
        · by_cases hid : id = (Hk N H0 i).length
          · subst hid
            simp [upd] at e; obtain ⟨rfl, rfl⟩ := e
            rw [hHb] at e2; cases e2
            obtain ⟨cells, tt', c1, c2⟩ := q3
            refine ⟨⟨cells, tt', (0, 0), c1, fun _ => rfl, fun j y hy => ?_⟩, fun _ => hWb⟩
            obtain ⟨hj, rfl⟩ := atS_ints1 hy
            exact ⟨_, by have := c2 j hj; simpa using this, rfl, rfl⟩
          · simp [upd, hid] at e
            have hr := k2.rep id b2 o2 q e e2
            refine ⟨(hr.1.world (q6 b2 (k2.lt _ _ _ e) (hnb id _ e))).le hle, hr.2⟩
        · by_cases hid : id = (Hk N H0 i).length <;> by_cases hid' : id' = (Hk N H0 i).length
          · exact absurd (hid.trans hid'.symm) hne
          · simp [upd, hid] at e; simp [upd, hid'] at e'; obtain ⟨rfl, rfl⟩ := e; exact absurd rfl (hnb id' _ e')
          · simp [upd, hid] at e; simp [upd, hid'] at e'; obtain ⟨rfl, rfl⟩ := e'; exact absurd rfl (hnb id _ e)
          · simp [upd, hid] at e; simp [upd, hid'] at e'; exact k2.apart id id' b2 o2 o2' q q' hne e e' e2 e2'
      · refine ⟨fun j hj hlj hdj => ?_, fun hno => ?_⟩
        · by_cases hji : j = i
          · subst hji
            rw [ho] at hdj
            have hdj : o.dst = some t := by simpa using hdj
            rw [hVk, hdj]
            simp only [Act.put]
            rw [getD_set _ _ _ _ (hdst t hdj), if_pos rfl]
            exact ⟨b', 0, cap', by simp [upd], rfl, q1⟩
          · have hjs : j < ops.size := by omega
            have hp : ops[j]? = some ops[j] := by simp [hjs]
            have hd' : ops[j].dst = some t := by rw [hp] at hdj; simpa using hdj
            have h1 := (anyOk_head hany ho him hj hp hd').1
            rw [hputo _ t (h1.resolve_left hji)]
            rw [hset j hji] at hlj
            exact AV.rep_le hle ((k3 t).1 j hj hlj hdj)
        · have : o.dst ≠ some t := by have := hno i him; rw [ho] at this; simpa using this
          rw [hputo _ t this]
          exact AV.rep_le hle ((k3 t).2 hno)
      · by_cases hid : id = (Hk N H0 i).length
        · subst hid; exact .inr ⟨i, him, hseti, Nat.le_refl _, by rw [hNk]; simp⟩
        · simp [upd, hid] at hx
          rcases k4 id _ hx with h | ⟨j, h1, h2, h3⟩
          · exact .inl h
          · refine .inr ⟨j, h1, ?_, h3⟩
            by_cases hji : j = i
            · subst hji; exact hseti
            · rw [hset j hji]; exact h2


theorem Rep.invX {j0 k0 d0 n : Nat} {kk : IntKind} {ee : TypeId} {B : List Int} {E : Env} {ops : Array Oper} {m : Nat} {V : Nat → AV} {N : Nat → List Blk} {T0 : Tm} {H0 : Heap} {a : Act} {w : World} (h : Rep E T0 H0 a w) : InvX E ops m j0 k0 d0 n kk ee B V N T0 H0 (Array.replicate ops.size false) a w := by
  obtain ⟨ρ, k1, k2, k3, k4, k5, k6, k7⟩ := h
  obtain ⟨r, hr⟩ := Hk_le (N := N) (H0 := H0) (Nat.zero_le m)
  simp only [Hk] at hr
  refine ⟨by simp, fun i o _ hi => (by rw [getD_rep_false] at hi; cases hi), fun i _ _ => getD_rep_false _ _, ρ, k1, ⟨k3.lt, fun id b o k h1 h2 => ?_, fun id id' b o o' k k' hne h1 h2 h3 h4 => ?_⟩, fun t => ⟨fun j _ hj => by (rw [getD_rep_false] at hj; cases hj), fun _ => k4 t⟩, fun id x hx => .inl ?_, k5, k6, k7, fun hj => by (rw [getD_rep_false] at hj; cases hj)⟩
  · have hid : id < H0.length := by
      rcases Nat.lt_or_ge id H0.length with h | h
      · exact h
      · rw [k2 id h] at h1; cases h1
    rw [hr, List.getElem?_append_left hid] at h2
    exact k3.rep id b o k h1 h2
  · have hid : id < H0.length := by
      rcases Nat.lt_or_ge id H0.length with h | h
      · exact h
      · rw [k2 id h] at h1; cases h1
    have hid' : id' < H0.length := by
      rcases Nat.lt_or_ge id' H0.length with h | h
      · exact h
      · rw [k2 id' h] at h2; cases h2
    rw [hr, List.getElem?_append_left hid] at h3
    rw [hr, List.getElem?_append_left hid'] at h4
    exact k3.apart id id' b o o' k k' hne h1 h2 h3 h4
  · rcases Nat.lt_or_ge id H0.length with h | h
    · exact h
    · rw [k2 id h] at hx; cases hx


/-- **A region that draws its order.** -/
theorem region_app {j0 k0 d0 n : Nat} {kk : IntKind} {ee : TypeId} {B C : List Int} {E : Env} {id : Nat} {ops : Array Oper} {Q : Exit → Act → World → Prop} {m : Nat} (hmix : E.P.follows .mixedOrders = true) (hok : regionOk E.n ops = true) (hany : anyOk ops m = true) {l1 l2 : List Oper} (hl : ops.toList = l1 ++ l2) (hm : l1.length = m)
    {T T1 T' : Tm} {H H1 H' : Heap} (hj0 : j0 < k0) (hk0 : k0 < m) (hcon : ((reach ops).getD k0 0).testBit j0 = true) (h1 : XSteps E.P ops j0 k0 d0 n kk ee B C l1 0 T H T1 H1) (h2 : Steps E.P ops l2 T1 H1 T' H') {a : Act} {w : World} (hr : Rep E T H a w) (hQ : ∀ a' w', Rep E T' H' a' w' → Q .normal a' w') : (Code.region id ops true).wp E.P Q a w := by
  have hsz : ops.size = m + l2.length := by rw [← Array.length_toList, hl]; simp [hm]
  have hget : ∀ j, ops[j]? = (l1 ++ l2)[j]? := fun j => by rw [← Array.getElem?_toList, hl]
  have htake : ∀ (j : Nat), j < m → l1[j]? = ops[j]? := fun j hj => by rw [hget, List.getElem?_append_left (by omega)]
  -- the trace wants a list that goes on as ops does: taken up to m
  obtain ⟨V, N, _, k2, k3, k4⟩ := traceX h1 T H (fun _ => .s .junk) (fun _ => []) (fun j hj => by rw [Nat.zero_add]; exact htake j (by omega)) rfl rfl
  rw [Nat.zero_add, hm] at k3 k4
  refine wp_region_any hmix ?_
  refine head_app (C := C) hok hany (by omega) hj0 hk0 hcon (fun k hk => k2 k (Nat.zero_le _) (by omega)) (l := l2) (fun j => ?_) (by omega) (k3 ▸ k4 ▸ h2) hQ ops.size (List.range m) _ a _ (fun j hj _ => List.mem_range.2 hj) (by simp; omega) hr.drew.invX
  rw [hget, List.getElem?_append_right (by omega), ← hm, Nat.add_sub_cancel_left]
end Go.Ab
end

section
/- Appending: to nothing, and on; slices whose room is not told. No program. -/
namespace Go.Ab
theorem zeroCells_rep (k : IntKind) (m : Nat) : Builtin.zeroCells #[Value.int k 0] m = (List.replicate m (Value.int k 0)).toArray := by
  apply Array.ext_getElem?
  intro i
  simp only [Builtin.zeroCells, Array.size_singleton, Nat.mul_one]
  rcases Nat.lt_or_ge i m with h | h
  · simp [h, Nat.mod_one]
  · rw [Array.getElem?_eq_none (by simp; omega), Array.getElem?_eq_none (by simp; omega)]
section rules
variable {P : Program} {T : Tm} {H : Heap} {d : Option Tmp} {ty : TypeId} {pos : String} {af : Array Edge} {g : Option (Nat × Bool)}
/-- What a slice of integers holds, as values behind an address. -/
theorem src_cells {ρ : Rho} {W : Nat → Prop} {w : World} {v : Value} {id2 base2 idx2 sl sc m2 : Nat} {k : IntKind} {bk2 : Blk} {ys : List Int} (hH : HRep W ρ H w) (hv : (SV.slice id2 base2 idx2 sl sc).rep ρ v) (hb2 : H[id2]? = some (some bk2)) (hs2 : segAt bk2.segs base2 = some (.ints k m2 ys)) (hfit2 : idx2 + sl ≤ m2) (hl2 : ys.length = m2) :
    ∃ ad, v = .slice (some ad) sl sc ∧ (((ys.drop idx2).take sl).map (Value.int k)).length = sl ∧ ∀ j u, (((ys.drop idx2).take sl).map (Value.int k))[j]? = some u → w.cell? (ad.add j) = some u := by
  obtain ⟨b2, o2, hρ2, rfl⟩ := hv
  obtain ⟨⟨cells2, tt2, fr2, q1, q2, q3⟩, _⟩ := hH.rep id2 b2 o2 _ hρ2 hb2
  refine ⟨_, rfl, by simp; omega, fun j u hj => ?_⟩
  simp only [List.getElem?_map, Option.map_eq_some_iff] at hj
  obtain ⟨y, hy, rfl⟩ := hj
  have hjl : j < sl := by
    have := (List.getElem?_eq_some_iff.1 hy).1
    simp at this; omega
  obtain ⟨v, hv, hc⟩ := q3 (base2 + (idx2 + j)) _ (segAt_at hs2 (idx2 + j) (by show idx2 + j < m2; omega))
  have hc : v = .int k (ys.getD (idx2 + j) 0) := hc.1
  subst hc
  have hv : cells2[o2 + (base2 + (idx2 + j))]? = some (.int k (ys.getD (idx2 + j) 0)) := hv
  have ey : ys.getD (idx2 + j) 0 = y := by
    rw [List.getElem?_take_of_lt hjl, List.getElem?_drop] at hy
    rw [List.getD_eq_getElem?_getD, hy]; rfl
  rw [ey] at hv
  rw [addr_add, show o2 + base2 + idx2 + j = o2 + (base2 + (idx2 + j)) by omega]
  simp [World.cell?, q1, hv]
theorem run_grow {w : World} {t e rt : TypeId} {inf : TypeInfo} {k : IntKind} {base : Option Addr} {sLen sCap sl sc : Nat} {olds news : List Int} {ad : Addr} (hu : P.underlying t = some (.slice e)) (hi : P.info? e = some inf) (hsz : inf.size = 1) (hz : inf.zero = some (.int k 0)) (hby : inf.bytes ≤ 8)
    (hold : (Builtin.firstCells 1 sLen (.slice base sLen sCap)).run P w.drew = .ok (olds.map (Value.int k)).toArray w.drew) (hol : olds.length = sLen) (hnl : news.length = sl) (hn : ∀ j u, (news.map (Value.int k))[j]? = some u → w.cell? (ad.add j) = some u) (hg : sCap < sLen + sl) (hm : sLen + sl ≤ 1000000) :
    ∃ cap, sLen + sl ≤ cap ∧ (Builtin.append_ #[t, t] rt #[.slice base sLen sCap, .slice (some ad) sl sc]).run P w = .ok (.slice (some ⟨w.heap.size, 0, none⟩) (sLen + sl) cap) (w.drew.alloc (.cells (rowOf k (olds ++ news) cap) e)) := by
  have hs : Src P inf.size t (.slice (some ad) sl sc) sl (news.map (Value.int k)) w := .ofSlice w hu ad sl sc _ (by simp [hsz, hnl]) hn (fun u h => by obtain ⟨_, _, rfl⟩ := List.mem_map.1 h; rfl)
  have hf : Builtin.nextslicecap (sLen + sl) sCap * inf.bytes ≤ 281474976710656 := growslice_fits hg (Nat.le_trans (Nat.mul_le_mul hm hby) (by omega))
  have hr := run_append_grow_src (P := P) w t t rt e inf _ hu hi hz base sLen sCap (olds.map (Value.int k)) (by rw [hsz]; exact hold) _ sl _ hs hg (by omega) hf
  refine ⟨grownCap w (sLen + sl) sCap e, grownCap_ge w _ _ _, ?_⟩
  rw [hr]
  have : (olds.map (Value.int k) ++ news.map (Value.int k)).toArray ++ Builtin.zeroCells (Value.int k 0).cells (grownCap w (sLen + sl) sCap e - (sLen + sl)) = rowOf k (olds ++ news) (grownCap w (sLen + sl) sCap e) := by
    have e1 : (Value.int k 0).cells = #[Value.int k 0] := rfl
    rw [e1, zeroCells_rep, rowOf, List.map_append, List.length_append, hol, hnl]
    apply Array.ext'
    simp
  rw [this]
theorem h_mine {x y : Operand} {t e rt : TypeId} {id2 base2 idx2 sl sc m2 : Nat} {k : IntKind} {bk2 : Blk} {ys B : List Int} {inf : TypeInfo} (hx : ev T x = .s .nils) (hy : ev T y = .s (.slice id2 base2 idx2 sl sc)) (hb2 : H[id2]? = some (some bk2)) (hs2 : segAt bk2.segs base2 = some (.ints k m2 ys)) (hl2 : ys.length = m2) (hfit2 : idx2 + sl ≤ m2) (hB : (ys.drop idx2).take sl = B) (h0 : 0 < sl) (hsl : sl ≤ 1000000)
    (hu : P.underlying t = some (.slice e)) (hi : P.info? e = some inf) (hsz : inf.size = 1) (hz : inf.zero = some (.int k 0)) (hby : inf.bytes ≤ 8) : MakesOwn P ⟨d, .call ⟨.builtin .append, #[x, y], #[t, t]⟩, rt, pos, af, none⟩ T H sl k e B := by
  subst hB
  refine ⟨rfl, fun W ρ a w hH ho next Q hq => ?_⟩
  have h1 : (ev T x).rep ρ (a.eval x) := ho x (by simp [Op.operands, Call.operands])
  have h2 : (ev T y).rep ρ (a.eval y) := ho y (by simp [Op.operands, Call.operands])
  rw [hx] at h1
  rw [hy] at h2
  simp only [AV.rep, SV.rep] at h1
  obtain ⟨ad, e2, _, hn⟩ := src_cells hH h2 hb2 hs2 hfit2 hl2
  obtain ⟨cap, hcap, hr⟩ := run_grow (P := P) (rt := rt) (base := none) (sLen := 0) (sCap := 0) (sl := sl) (sc := sc) (olds := []) (news := (ys.drop idx2).take sl) hu hi hsz hz hby (by rw [run_firstCells_none]; rfl) rfl (by simp; omega) hn (by omega) (by omega)
  rw [Nat.zero_add] at hr hcap
  rw [List.nil_append] at hr
  have hrun : (execOp a.eval ⟨d, .call ⟨.builtin .append, #[x, y], #[t, t]⟩, rt, pos, af, none⟩).run P w = .ok (.value (.slice (some ⟨w.heap.size, 0, none⟩) sl cap)) (w.drew.alloc (.cells (rowOf k ((ys.drop idx2).take sl) cap) e)) := by
    simp only [execOp, resolve, invoke, builtin, List.map_toArray, List.map_cons, List.map_nil, h1, e2]
    simp [Sem.run_bind, hr]
  rw [hrun]
  exact hq cap hcap
theorem h_goes {y : Operand} {t e rt : TypeId} {d0 n id2 base2 idx2 sl sc m2 : Nat} {k : IntKind} {bk2 : Blk} {ys B C : List Int} {inf : TypeInfo} (hBl : B.length = n) (hy : ev T y = .s (.slice id2 base2 idx2 sl sc)) (hb2 : H[id2]? = some (some bk2)) (hs2 : segAt bk2.segs base2 = some (.ints k m2 ys)) (hl2 : ys.length = m2) (hfit2 : idx2 + sl ≤ m2) (hC : (ys.drop idx2).take sl = C) (h0 : 0 < n) (hsl : n + sl ≤ 1000000)
    (hu : P.underlying t = some (.slice e)) (hi : P.info? e = some inf) (hsz : inf.size = 1) (hz : inf.zero = some (.int k 0)) (hby : inf.bytes ≤ 8) : GoesOn P ⟨d, .call ⟨.builtin .append, #[.tmp d0, y], #[t, t]⟩, rt, pos, af, none⟩ d0 T H n k e B C := by
  subst hC
  refine ⟨rfl, fun W ρ a w b cap hH ho m1 m2' m3 m6 next Q hq => ?_⟩
  have h2 : (ev T y).rep ρ (a.eval y) := ho y (by simp [Op.operands, Call.operands])
  rw [hy] at h2
  obtain ⟨ad, e2, hzl, hn⟩ := src_cells hH h2 hb2 hs2 hfit2 hl2
  have hCl : ((ys.drop idx2).take sl).length = sl := by simpa using hzl
  rw [hCl] at hq
  have h1 : a.eval (.tmp d0) = .slice (some ⟨b, 0, none⟩) n cap := m1
  have hbs : b < w.heap.size := (Array.getElem?_eq_some_iff.1 m3).1
  have hrow : (rowOf k B cap).size = cap := by simp [rowOf, hBl]; omega
  rcases Nat.lt_or_ge cap (n + sl) with hg | hg
  · have hold : (Builtin.firstCells 1 n (.slice (some ⟨b, 0, none⟩) n cap)).run P w.drew = .ok (B.map (Value.int k)).toArray w.drew := by
      refine run_firstCells_some w.drew 1 n ⟨b, 0, none⟩ n cap _ (by simp [hBl]) fun j v hj => ?_
      have hj' : j < B.length := by have := (List.getElem?_eq_some_iff.1 hj).1; simpa using this
      rw [addr_add, Nat.zero_add]
      have m3' : w.drew.heap[b]? = some (.cells (rowOf k B cap) e (0, 0)) := m3
      simp only [World.cell?, m3']
      simp only [rowOf, List.getElem?_toArray]
      rw [List.getElem?_append_left (by simpa using hj'), hj]
      simp
    obtain ⟨cap', hcap', hr⟩ := run_grow (P := P) (rt := rt) (sl := sl) (sc := sc) (news := (ys.drop idx2).take sl) hu hi hsz hz hby hold hBl hCl hn hg hsl
    have hrun : (execOp a.eval ⟨d, .call ⟨.builtin .append, #[.tmp d0, y], #[t, t]⟩, rt, pos, af, none⟩).run P w = .ok (.value (.slice (some ⟨w.heap.size, 0, none⟩) (n + sl) cap')) (w.drew.alloc (.cells (rowOf k (B ++ (ys.drop idx2).take sl) cap') e)) := by
      simp only [execOp, resolve, invoke, builtin, List.map_toArray, List.map_cons, List.map_nil, h1, e2]
      simp [Sem.run_bind, hr]
    rw [hrun]
    refine hq w.heap.size cap' _ ⟨hcap', (Array.getElem?_eq_some_iff.1 (heap_alloc_new w.drew (.cells (rowOf k (B ++ (ys.drop idx2).take sl) cap') e))).1, ⟨_, e, heap_alloc_new w.drew _, fun i hi => ?_⟩, .inr rfl, (ext_drew w (.cells (rowOf k (B ++ (ys.drop idx2).take sl) cap') e)).size, fun j hj _ => (ext_drew w _).block j hj, rfl, rfl, rfl⟩
    have hil : i < (B ++ (ys.drop idx2).take sl).length := by rw [List.length_append, hBl, hCl]; exact hi
    simp only [rowOf, List.getElem?_toArray]
    rw [List.getElem?_append_left (by simpa using hil), List.getElem?_map, List.getD_eq_getElem?_getD, List.getElem?_eq_getElem hil]
    rfl
  · have hr := run_append_room (P := P) w t rt e inf hu hi b n cap (rowOf k B cap) m3 ad sl sc (((ys.drop idx2).take sl).map (Value.int k)) (by rw [hzl, hsz, Nat.mul_one]) hn (fun u h => by obtain ⟨_, _, rfl⟩ := List.mem_map.1 h; rfl) hg (by rw [hsz, hzl, hrow]; omega)
    rw [hsz, Nat.mul_one] at hr
    have htake : (rowOf k B cap).toList.take n = B.map (Value.int k) := by
      simp only [rowOf]
      rw [List.take_append_of_le_length (by simp [hBl]), List.take_of_length_le (by simp [hBl])]
    rw [htake] at hr
    generalize hrow2 : (B.map (Value.int k) ++ ((ys.drop idx2).take sl).map (Value.int k) ++ (rowOf k B cap).toList.drop (n + (((ys.drop idx2).take sl).map (Value.int k)).length)).toArray = row2 at hr
    have hrun : (execOp a.eval ⟨d, .call ⟨.builtin .append, #[.tmp d0, y], #[t, t]⟩, rt, pos, af, none⟩).run P w = .ok (.value (.slice (some ⟨b, 0, none⟩) (n + sl) cap)) (w.setRow b row2) := by
      simp only [execOp, resolve, invoke, builtin, List.map_toArray, List.map_cons, List.map_nil, h1, e2]
      simp [Sem.run_bind, hr]
    rw [hrun]
    refine hq b cap _ ⟨hg, by simpa using hbs, ⟨row2, e, setRow_heap w b _ _ _ _ m3, fun i hi => ?_⟩, .inl rfl, by simp, fun j hj hne => setRow_other _ _ _ _ hne, rfl, rfl, rfl⟩
    have hil : i < (B ++ (ys.drop idx2).take sl).length := by rw [List.length_append, hBl, hCl]; exact hi
    rw [← hrow2, List.getElem?_toArray, ← List.map_append, List.getElem?_append_left (by simpa using hil), List.getElem?_map, List.getD_eq_getElem?_getD, List.getElem?_eq_getElem hil]
    rfl
theorem New.drew {ρ : Rho} {n : Nat} {k : Blk} {w : World} {cells : Array Value} {t : TypeId} (h : ρ n = none) (hr : ∀ ρ', Rle ρ ρ' → RowRep ρ' k.segs (fun i => cells[i]?)) : New ρ (upd ρ n w.heap.size) n [k] w (w.drew.alloc (.cells cells t)) :=
  let N := New.one (w := w.drew) (t := t) h hr
  ⟨N.le, ext_drew _ _, N.old, N.rep, N.apart⟩
/-- Something appended to nothing. -/
theorem h_app_new {x y : Operand} {t e rt : TypeId} {id2 base2 idx2 sl sc m2 n0 : Nat} {k : IntKind} {bk2 : Blk} {ys B : List Int} {inf : TypeInfo} (hx : ev T x = .s .nils) (hy : ev T y = .s (.slice id2 base2 idx2 sl sc)) (hb2 : H[id2]? = some (some bk2)) (hs2 : segAt bk2.segs base2 = some (.ints k m2 ys)) (hl2 : ys.length = m2) (hfit2 : idx2 + sl ≤ m2) (hB : (ys.drop idx2).take sl = B) (h0 : 0 < sl) (hsl : sl ≤ 1000000)
    (hu : P.underlying t = some (.slice e)) (hi : P.info? e = some inf) (hsz : inf.size = 1) (hz : inf.zero = some (.int k 0)) (hby : inf.bytes ≤ 8) (hn : H.length = n0) : HOk P ⟨d, .call ⟨.builtin .append, #[x, y], #[t, t]⟩, rt, pos, af, none⟩ T H (.s (.slx n0 0 0 sl)) [⟨true, [.ints k sl B]⟩] := by
  subst hn
  intro W ρ a w hH hf ho next Q hq
  refine (h_mine (d := d) (rt := rt) (pos := pos) (af := af) hx hy hb2 hs2 hl2 hfit2 hB h0 hsl hu hi hsz hz hby).2 W ρ a w hH ho next Q fun cap hcap => ?_
  have hBl : B.length = sl := by subst hB; simp; omega
  have hN : ρ H.length = none := by have := hf 0 (by simp); simpa using this
  refine hq _ _ ⟨_, New.drew hN fun ρ' _ i z hz => ?_, w.heap.size, 0, cap, by simp [upd], rfl, hcap⟩
  obtain ⟨hi', rfl⟩ := atS_ints1 hz
  refine ⟨_, ?_, rfl, rfl⟩
  have hil : i < B.length := by omega
  simp only [rowOf, List.getElem?_toArray]
  rw [List.getElem?_append_left (by simpa using hil), List.getElem?_map, List.getD_eq_getElem?_getD, List.getElem?_eq_getElem hil]
  rfl
/-- Nothing appended. -/
theorem h_app_same {x y : Operand} {t e rt : TypeId} {id base idx dl : Nat} {u : SV} {inf : TypeInfo} (hx : ev T x = .s (.slx id base idx dl)) (hy : ev T y = .s u) (hu0 : u = .nils ∨ ∃ ad c, u = .val (.slice ad 0 c)) (hu : P.underlying t = some (.slice e)) (hi : P.info? e = some inf) (hsz : inf.size = 1) :
    HOk P ⟨d, .call ⟨.builtin .append, #[x, y], #[t, t]⟩, rt, pos, af, g⟩ T H (.s (.slx id base idx dl)) [] :=
  .pure fun W ρ a w _ ho => by
    have h1 : (ev T x).rep ρ (a.eval x) := ho x (by simp [Op.operands, Call.operands])
    have h2 : (ev T y).rep ρ (a.eval y) := ho y (by simp [Op.operands, Call.operands])
    rw [hx] at h1
    rw [hy] at h2
    have h1' := h1
    obtain ⟨b, o, cap, hρ, e1, hc⟩ := h1
    have e2 : ∃ ad c, a.eval y = .slice ad 0 c := by
      rcases hu0 with rfl | ⟨ad, c, rfl⟩
      · exact ⟨none, 0, h2⟩
      · exact ⟨ad, c, h2.1⟩
    obtain ⟨ad, c, e2⟩ := e2
    refine ⟨a.eval x, ?_, h1'⟩
    simp only [execOp, resolve, invoke, builtin, List.map_toArray, List.map_cons, List.map_nil, e1, e2]
    cases ad <;> simp [Builtin.append_, Sem.run_bind, run_underlying hu, sizeOf, typeInfo, hi, hsz, Builtin.lenOf, hc, Builtin.firstCells, loadCells, loadCellsFrom, storeCells]
theorem h_app_00 {x y : Operand} {t e rt : TypeId} {u : SV} {inf : TypeInfo} (hx : ev T x = .s .nils) (hy : ev T y = .s u) (hu0 : u = .nils ∨ ∃ ad c, u = .val (.slice ad 0 c)) (hu : P.underlying t = some (.slice e)) (hi : P.info? e = some inf) (hsz : inf.size = 1) :
    HOk P ⟨d, .call ⟨.builtin .append, #[x, y], #[t, t]⟩, rt, pos, af, g⟩ T H (.s .nils) [] :=
  .pure fun W ρ a w _ ho => by
    have h1 : (ev T x).rep ρ (a.eval x) := ho x (by simp [Op.operands, Call.operands])
    have h2 : (ev T y).rep ρ (a.eval y) := ho y (by simp [Op.operands, Call.operands])
    rw [hx] at h1
    rw [hy] at h2
    simp only [AV.rep, SV.rep] at h1
    have e2 : ∃ ad c, a.eval y = .slice ad 0 c := by
      rcases hu0 with rfl | ⟨ad, c, rfl⟩
      · exact ⟨none, 0, h2⟩
      · exact ⟨ad, c, h2.1⟩
    obtain ⟨ad, c, e2⟩ := e2
    refine ⟨.slice none 0 0, ?_, rfl⟩
    simp only [execOp, resolve, invoke, builtin, List.map_toArray, List.map_cons, List.map_nil, h1, e2]
    cases ad <;> simp [Builtin.append_, Sem.run_bind, run_underlying hu, sizeOf, typeInfo, hi, hsz, Builtin.lenOf, Builtin.firstCells, loadCells, loadCellsFrom]
end rules
/-- A slice whose room is not told is one of some room. -/
theorem acall_slx {P : Program} {f : FuncId} {H : Heap} {pre post : List AV} {id base idx len : Nat} {v : AV} {nb : List Blk} (h : ∀ cap, len ≤ cap → ACall P f H (pre ++ .s (.slice id base idx len cap) :: post) v nb) : ACall P f H (pre ++ .s (.slx id base idx len) :: post) v nb := by
  intro W ρ vals w hH hn hargs
  have hi : (pre ++ AV.s (.slx id base idx len) :: post)[pre.length]? = some (.s (.slx id base idx len)) := by simp
  obtain ⟨hsz, hall⟩ := hargs
  have hv := hall pre.length _ hi
  obtain ⟨b, o, cap, hρ, he, hc⟩ := hv
  refine h cap hc W ρ vals w hH hn ⟨by simpa using hsz, fun i x hx => ?_⟩
  by_cases e : i = pre.length
  · subst e
    simp at hx
    subst hx
    exact ⟨b, o, hρ, he⟩
  · refine hall i x ?_
    rcases Nat.lt_or_ge i pre.length with h1 | h1
    · rwa [List.getElem?_append_left h1] at hx ⊢
    · rw [List.getElem?_append_right h1] at hx ⊢
      obtain ⟨j, hj⟩ : ∃ j, i - pre.length = j + 1 := ⟨i - pre.length - 1, by omega⟩
      rw [hj] at hx ⊢
      simpa using hx
/-! Short forms -/
def TX (P : Program) (ops : Array Oper) (j0 k0 d0 n : Nat) (kk : IntKind) (ee : TypeId) (B C : List Int) (l : List Oper) (i : Nat) (T : Tm) (H : Heap) (F : Tm → Heap → Prop) : Prop := ∃ T1 H1, XSteps P ops j0 k0 d0 n kk ee B C l i T H T1 H1 ∧ F T1 H1
section steps
variable {P : Program} {ops : Array Oper} {j0 k0 d0 n : Nat} {kk : IntKind} {ee : TypeId} {B C : List Int} {T : Tm} {H : Heap} {ty : TypeId} {pos : String} {af : Array Edge} {r : List Oper} {op : Op} {d i : Nat} {F : Tm → Heap → Prop}
theorem x_nil (h : F T H) : TX P ops j0 k0 d0 n kk ee B C [] i T H F := ⟨T, H, .nil, h⟩
theorem x_p {v : AV} (hj : Nat.beq i j0 = false) (hk : Nat.beq i k0 = false) (h : HOk P ⟨some d, op, ty, pos, af, none⟩ T H v []) (k : TX P ops j0 k0 d0 n kk ee B C r (i + 1) ((d, v) :: T) H F) : TX P ops j0 k0 d0 n kk ee B C (⟨some d, op, ty, pos, af, none⟩ :: r) i T H F :=
  let ⟨T', H', k1, k2⟩ := k
  ⟨T', H', .cons (fun e => by subst e; simp at hj) (fun e => by subst e; simp at hk) (.free rfl) h (by simpa [put] using k1), k2⟩
theorem x_a {v : AV} {b : Blk} {H1 : Heap} (hj : Nat.beq i j0 = false) (hk : Nat.beq i k0 = false) (h : HOk P ⟨some d, op, ty, pos, af, none⟩ T H v [b]) (e : H ++ [some b] = H1) (k : TX P ops j0 k0 d0 n kk ee B C r (i + 1) ((d, v) :: T) H1 F) : TX P ops j0 k0 d0 n kk ee B C (⟨some d, op, ty, pos, af, none⟩ :: r) i T H F :=
  let ⟨T', H', k1, k2⟩ := k
  ⟨T', H', .cons (fun e => by subst e; simp at hj) (fun e => by subst e; simp at hk) (.free rfl) h (by subst e; simpa [put] using k1), k2⟩
theorem x_own (h : MakesOwn P ⟨some d0, op, ty, pos, af, none⟩ T H n kk ee B) (k : TX P ops j0 k0 d0 n kk ee B C r (j0 + 1) ((d0, .s .junk) :: T) H F) : TX P ops j0 k0 d0 n kk ee B C (⟨some d0, op, ty, pos, af, none⟩ :: r) j0 T H F :=
  let ⟨T', H', k1, k2⟩ := k
  ⟨T', H', .own rfl h k1, k2⟩
theorem x_goes {H1 : Heap} {nl : Nat} (h : GoesOn P ⟨some d, op, ty, pos, af, none⟩ d0 T H n kk ee B C) (hn : n + C.length = nl) (e : H ++ [some ⟨true, [.ints kk nl (B ++ C)]⟩] = H1) (k : TX P ops j0 k0 d0 n kk ee B C r (k0 + 1) ((d, .s (.slx H.length 0 0 nl)) :: T) H1 F) : TX P ops j0 k0 d0 n kk ee B C (⟨some d, op, ty, pos, af, none⟩ :: r) k0 T H F :=
  let ⟨T', H', k1, k2⟩ := k
  ⟨T', H', .goes h (by subst hn; subst e; simpa [put] using k1), k2⟩
end steps
theorem c_app {E : Env} {T : Tm} {H : Heap} {Q : Exit → Tm → Heap → Prop} {id : Nat} {ops : Array Oper} (m j0 k0 d0 n : Nat) (kk : IntKind) (ee : TypeId) (B C : List Int) {l1 l2 : List Oper} (hmix : E.P.follows .mixedOrders = true) (hok : regionOk E.n ops = true) (hany : anyOk ops m = true) (hl1 : ops.toList.take m = l1) (hl2 : ops.toList.drop m = l2) (hm : l1.length = m) (hj0 : j0 < k0) (hk0 : k0 < m) (hcon : ((reach ops).getD k0 0).testBit j0 = true)
    (h : TX E.P ops j0 k0 d0 n kk ee B C l1 0 T H fun T1 H1 => SK E.P ops l2 T1 H1 (Q .normal)) : Wp E (.region id ops true) T H Q :=
  let ⟨_, _, k1, T', H', k2, k3⟩ := h
  fun _ _ hr => region_app hmix hok hany (by rw [← hl1, ← hl2, List.take_append_drop]) hm hj0 hk0 hcon k1 k2 hr fun _ _ hr' => ⟨T', H', k3, hr'⟩
end Go.Ab
end
