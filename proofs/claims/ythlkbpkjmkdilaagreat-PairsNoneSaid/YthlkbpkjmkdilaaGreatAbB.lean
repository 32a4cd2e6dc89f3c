/- A part of the proofs of this claim: AbB (Ab10, Ab11, Ab12, Ab13, Ab14, Ab15, Ab16, Ab17). No conditions. -/
import Derived.Test.YthlkbpkjmkdilaaGreatAbA
import Derived.Laws.StructEq
import Derived.OpenShut
import Derived.ChangeSlices
import Derived.Below
set_option linter.unusedVariables false
set_option linter.unusedSimpArgs false
section
namespace Go.Ab
section
variable {P : Program} {w : World}
theorem run_equalIn_ints (d : Nat) {t e : TypeId} {n : Nat} {k : IntKind} {xs ys : Array Value} {l m : Nat → Int} (hu : P.underlying t = some (.array n e)) (he : P.underlying e = some (.int k)) (hs : ∀ w, (sizeOf e).run P w = .ok 1 w) (ha : ∀ w, (isAgg e).run P w = .ok false w)
    (hx : ∀ i, i < n → xs[i]? = some (.int k (l i))) (hy : ∀ i, i < n → ys[i]? = some (.int k (m i))) : (Op.equalIn (d + 2) t (.agg xs) (.agg ys)).run P w = .ok (decide (∀ i, i < n → l i = m i)) w := by
  have hpart : ∀ i, i < n → (part e xs (i * 1)).run P w = .ok (.int k (l i)) w := fun i hi => by simp [part, Sem.run_bind, ha, hx i hi]
  have hpart2 : ∀ i, i < n → (part e ys (i * 1)).run P w = .ok (.int k (m i)) w := fun i hi => by simp [part, Sem.run_bind, ha, hy i hi]
  rw [Op.equalIn]
  simp only [Sem.run_bind, run_underlying hu, Result.andThen_ok, hs]
  let body : Nat → Option Bool × Unit → Sem (ForInStep (Option Bool × Unit)) := fun i _ => do
    let a ← part e xs (i * 1)
    let b ← part e ys (i * 1)
    let c ← Op.equalIn (d + 1) e a b
    if (!c) = true then pure (ForInStep.done (some false, ())) else pure (ForInStep.yield (none, ()))
  have step : ∀ i, i < n → ∀ s, (body i s).run P w = .ok (if l i = m i then .yield (none, ()) else .done (some false, ())) w := by
    intro i hi s
    simp only [body, Sem.run_bind, hpart i hi, hpart2 i hi, Result.andThen_ok]
    rw [run_equalIn_int w d e k k _ _ he]
    simp only [Result.andThen_ok]
    by_cases h : l i = m i
    · simp [h]
    · have : (l i == m i) = false := by simpa using h
      simp [this, h]
  have key : ∀ (is : List Nat), (∀ i ∈ is, i < n) → (forIn is ((none : Option Bool), ()) body).run P w = .ok (if ∀ i ∈ is, l i = m i then (none, ()) else (some false, ())) w := by
    intro is
    induction is with
    | nil => intro _; simp
    | cons i r ih =>
      intro h
      rw [List.forIn_cons, Sem.run_bind, step i (h i (by simp)) (none, ())]
      simp only [Result.andThen_ok]
      by_cases hi : l i = m i
      · simp only [hi, if_true]
        rw [ih (fun j hj => h j (by simp [hj]))]
        simp [hi]
      · simp [hi]
  have h0 := key (List.range' 0 n) (fun i hi => by simp at hi; omega)
  rw [Std.Legacy.Range.forIn_eq_forIn_range']
  simp only [Std.Legacy.Range.size, Nat.sub_zero, Nat.add_sub_cancel, Nat.div_one]
  show ((Sem.run P (forIn (List.range' 0 n) ((none : Option Bool), ()) body) w).andThen _) = _
  rw [h0]
  simp only [Result.andThen_ok]
  by_cases hall : ∀ i, i < n → l i = m i
  · have : ∀ i ∈ List.range' 0 n, l i = m i := fun i hi => hall i (by simp at hi; omega)
    rw [if_pos this]
    show Result.ok true w = _
    rw [decide_eq_true hall]
  · have : ¬ ∀ i ∈ List.range' 0 n, l i = m i := fun h => hall fun i hi => h i (by simp [List.mem_range'_1]; omega)
    rw [if_neg this]
    show Result.ok false w = _
    rw [decide_eq_false hall]
end

section rules
variable {P : Program} {T : Tm} {H : Heap} {d : Option Tmp} {ty : TypeId} {pos : String} {af : Array Edge} {g : Option (Nat × Bool)}
theorem agg_ints_cells {ρ : Rho} {k : IntKind} {n : Nat} {l : List Int} {v : Value} (h : (AV.agg [.ints k n l]).rep ρ v) : ∃ cs : Array Value, v = .agg cs ∧ ∀ i, i < n → cs[i]? = some (.int k (l.getD i 0)) := by
  obtain ⟨cs, h1, h2, h3⟩ := h
  refine ⟨cs, h1, fun i hi => ?_⟩
  obtain ⟨u, hu, hr, _⟩ := h3 i (.int k (l.getD i 0)) (by
    have hs : (Seg.ints k n l).size = n := rfl
    simp only [atS]; rw [if_pos (by rw [hs]; exact hi)]; rfl)
  exact hu.trans (congrArg some hr)

theorem h_eql_ints {t e : TypeId} {x y : Operand} {tyy : TypeId} {n : Nat} {k : IntKind} {l m : List Int} {r : Bool} (hx : ev T x = .agg [.ints k n l]) (hy : ev T y = .agg [.ints k n m]) (hu : P.underlying t = some (.array n e)) (he : P.underlying e = some (.int k)) (hs : ∀ w, (sizeOf e).run P w = .ok 1 w) (ha : ∀ w, (isAgg e).run P w = .ok false w)
    (hg : P.eqGuardType P.depth t = false) (hr : decide (∀ i, i < n → l.getD i 0 = m.getD i 0) = r) : HOk P ⟨d, .binOp .eql t x y tyy, ty, pos, af, g⟩ T H (.s (.bool r)) [] :=
  .pure fun W ρ a w _ ho => by
    obtain ⟨h1, h2⟩ := two (op := .binOp .eql t x y tyy) rfl ho hx hy
    obtain ⟨xs, e1, c1⟩ := agg_ints_cells h1
    obtain ⟨ys, e2, c2⟩ := agg_ints_cells h2
    refine ⟨.bool r, ?_, rfl⟩
    have := run_equalIn_ints (P := P) (w := w) 9998 hu he hs ha c1 c2
    simp only [execOp, e1, e2, Sem.run_bind, run_eqGuard_agg w .eql t x y xs ys hg, Result.andThen_ok, run_eql_struct w t xs ys]
    rw [show (Op.equalIn 10000 t (.agg xs) (.agg ys)).run P w = _ from this]
    simp only [Result.andThen_ok, hr, Sem.run_pure]
theorem h_neq_ints {t e : TypeId} {x y : Operand} {tyy : TypeId} {n : Nat} {k : IntKind} {l m : List Int} {r : Bool} (hx : ev T x = .agg [.ints k n l]) (hy : ev T y = .agg [.ints k n m]) (hu : P.underlying t = some (.array n e)) (he : P.underlying e = some (.int k)) (hs : ∀ w, (sizeOf e).run P w = .ok 1 w) (ha : ∀ w, (isAgg e).run P w = .ok false w)
    (hg : P.eqGuardType P.depth t = false) (hr : (!decide (∀ i, i < n → l.getD i 0 = m.getD i 0)) = r) : HOk P ⟨d, .binOp .neq t x y tyy, ty, pos, af, g⟩ T H (.s (.bool r)) [] :=
  .pure fun W ρ a w _ ho => by
    obtain ⟨h1, h2⟩ := two (op := .binOp .neq t x y tyy) rfl ho hx hy
    obtain ⟨xs, e1, c1⟩ := agg_ints_cells h1
    obtain ⟨ys, e2, c2⟩ := agg_ints_cells h2
    refine ⟨.bool r, ?_, rfl⟩
    have := run_equalIn_ints (P := P) (w := w) 9998 hu he hs ha c1 c2
    simp only [execOp, e1, e2, Sem.run_bind, run_eqGuard_agg w .neq t x y xs ys hg, Result.andThen_ok, run_neq_struct w t xs ys]
    rw [show (Op.equalIn 10000 t (.agg xs) (.agg ys)).run P w = _ from this]
    simp only [Result.andThen_ok, hr, Sem.run_pure]
end rules
end Go.Ab
end

section
/- Pointers against nil; a slice of two cells by its literal. No program. -/
namespace Go.Ab
section rules
variable {P : Program} {d : Option Tmp} {ty : TypeId} {pos : String} {af : Array Edge} {g : Option (Tmp × Bool)} {T : Tm} {H : Heap}
theorem run_equalIn_ptr_nil (w : World) (n : Nat) {t e : TypeId} (p : Option Addr) (hu : P.underlying t = some (.pointer e)) : (Op.equalIn (n + 1) t (.pointer p) (.pointer none)).run P w = .ok p.isNone w := by
  cases p <;> simp [Op.equalIn, run_underlying hu]
theorem h_eqn {t e tyy : TypeId} {x y : Operand} {id base idx : Nat} (hx : ev T x = .s (.ptr id base idx)) (hy : ev T y = .s .nilp) (hu : P.underlying t = some (.pointer e)) : HOk P ⟨d, .binOp .eql t x y tyy, ty, pos, af, g⟩ T H (.s (.bool false)) [] :=
  .pure fun W ρ a w _ ho => by
    obtain ⟨h1, h2⟩ := two (op := .binOp .eql t x y tyy) rfl ho hx hy
    simp only [AV.rep, SV.rep] at h1 h2
    obtain ⟨b, o, hρ, h1⟩ := h1
    exact ⟨.bool false, by simp [execOp, h1, h2, Sem.run_bind, eqGuard, binOp, Op.equal, Op.maxDepth, run_equalIn_ptr_nil w 9999 _ hu], rfl⟩
theorem h_eqnn {t e tyy : TypeId} {x y : Operand} (hx : ev T x = .s .nilp) (hy : ev T y = .s .nilp) (hu : P.underlying t = some (.pointer e)) : HOk P ⟨d, .binOp .eql t x y tyy, ty, pos, af, g⟩ T H (.s (.bool true)) [] :=
  .pure fun W ρ a w _ ho => by
    obtain ⟨h1, h2⟩ := two (op := .binOp .eql t x y tyy) rfl ho hx hy
    simp only [AV.rep, SV.rep] at h1 h2
    exact ⟨.bool true, by simp [execOp, h1, h2, Sem.run_bind, eqGuard, binOp, Op.equal, Op.maxDepth, run_equalIn_ptr_nil w 9999 _ hu], rfl⟩
/-- A literal slice of two pointers. -/
theorem h_bsl2 {t e : TypeId} {x y : Operand} {u v : SV} {n : Nat} (hx : ev T x = .s u) (hy : ev T y = .s v) (hju : u ≠ .junk) (hjv : v ≠ .junk) (hu : P.underlying t = some (.slice e)) (hs : ∀ w, (sizeOf e).run P w = .ok 1 w) (hz : ∀ w, (zeroValue e).run P w = .ok (.pointer none) w) (hn : H.length = n) :
    HOk P ⟨d, .buildSlice t 2 #[(0, x), (1, y)], ty, pos, af, g⟩ T H (.s (.slice n 0 0 2 2)) [⟨true, [.one u, .one v]⟩] := by
  subst hn
  intro W ρ a w hH hf ho next Q hq
  obtain ⟨h1, h2⟩ := two (op := .buildSlice t 2 #[(0, x), (1, y)]) rfl ho hx hy
  have c1 := SV.oneCell h1 hju
  have c2 := SV.oneCell h2 hjv
  have hrun : (execOp a.eval ⟨d, .buildSlice t 2 #[(0, x), (1, y)], ty, pos, af, g⟩).run P w = .ok (.value (.slice (some ⟨w.heap.size, 0, none⟩) 2 2)) (w.alloc (.cells #[a.eval x, a.eval y] e)) := by
    have hp : (Value.pointer none).cells = #[Value.pointer none] := rfl
    have k1 := cells_one c1
    have k2 := cells_one c2
    simp only [execOp, List.map_toArray, List.map_cons, List.map_nil]
    generalize a.eval x = X at *
    generalize a.eval y = Y at *
    simp [Instr.buildSlice, Instr.fill, Sem.run_bind, run_underlying hu, hs, hz, newRow, k1, k2, hp]
    have hr : Array.range 2 = #[0, 1] := by decide
    simp [hr]
  rw [hrun]
  have h0 : ρ H.length = none := by have := hf 0 (by simp); simpa using this
  refine hq _ _ ⟨_, .one h0 (fun ρ' hl i z hz => ?_), w.heap.size, 0, by simp [upd], rfl⟩
  match i, hz with
  | 0, hz => simp [atS, Seg.size, Seg.at] at hz; subst hz; exact ⟨_, rfl, SV.rep_le hl h1, c1⟩
  | 1, hz => simp [atS, Seg.size, Seg.at] at hz; subst hz; exact ⟨_, rfl, SV.rep_le hl h2, c2⟩
  | i + 2, hz => simp [atS, Seg.size] at hz
theorem ret_tmps3 {E : Env} {fn : Func} {T : Tm} {H : Heap} {u v x : SV} {i j k : Nat} (hr : fn.results = #[.tmp i, .tmp j, .tmp k]) (h1 : look T i = .s u) (h2 : look T j = .s v) (h3 : look T k = .s x) : Ret E fn T H (.tup [.s u, .s v, .s x]) := by
  intro ρ a w hH hT
  refine ⟨.tuple #[a.tmps.getD i undef, a.tmps.getD j undef, a.tmps.getD k undef], by simp [results, hr, Sem.run_bind], _, rfl, fun n y hy => ?_⟩
  have e1 := hT i
  have e2 := hT j
  have e3 := hT k
  rw [h1] at e1; rw [h2] at e2; rw [h3] at e3
  match n, hy with
  | 0, hy => simp at hy; subst hy; exact ⟨_, rfl, e1⟩
  | 1, hy => simp at hy; subst hy; exact ⟨_, rfl, e2⟩
  | 2, hy => simp at hy; subst hy; exact ⟨_, rfl, e3⟩
  | n + 3, hy => simp at hy
end rules
end Go.Ab
end

section
/- Arguments opened: arrays of integers, and slices of them, as what the walks take. No program. -/
namespace Go.Ab
open Go.ChangeShapes Go.WideShapes
section
variable {Hh : Type} {enc : TypeId × Value → Hh} {P : Program} {w : World} {base : Nat} {spare : Nat → Bool} {held : Bool} {fuel : Nat}
theorem open_arr_cells {t e : TypeId} {n : Nat} {k : IntKind} {cs : List Value} {x : DataW Hh × List MemPlace} (ht : P.underlying t = some (.array n e)) (he : P.underlying e = some (.int k)) (hc : P.cellsOf e = 1) (hct : P.cellsOf t = n)
    (h : DataW.trod enc P w base spare held fuel t cs = some x) : cs.length = n ∧ ∃ l : List Int, l.length = n ∧ (∀ y ∈ l, (Lit.int k y).wf = true) ∧ cs = l.map (Value.int k) := by
  obtain ⟨xs, m, _, _, hl, _, hall⟩ := DataW.trod_array ht h
  rw [hct] at hl
  refine ⟨hl, ?_⟩
  have each : ∀ i, i < n → ∃ z, cs[i]? = some (.int k z) ∧ (Lit.int k z).wf = true := by
    intro i hi
    have h1 := hall i hi
    rw [hc, Nat.mul_one] at h1
    have hx : ∃ y, xs[i]? = some y := by
      rename_i hlen
      exact ⟨_, List.getElem?_eq_getElem (by rw [hlen]; exact hi)⟩
    obtain ⟨y, hy⟩ := hx
    rw [hy] at h1
    obtain ⟨z, hz, _, hw⟩ := DataW.trod_int he h1
    have := congrArg (·[0]?) hz
    simp [List.getElem?_take, List.getElem?_drop] at this
    exact ⟨z, this, hw⟩
  have hg : ∀ (n : Nat) (cs : List Value), cs.length = n → (∀ i, i < n → ∃ z, cs[i]? = some (.int k z) ∧ (Lit.int k z).wf = true) → ∃ l : List Int, l.length = n ∧ (∀ y ∈ l, (Lit.int k y).wf = true) ∧ cs = l.map (Value.int k) := by
    intro n
    induction n with
    | zero => intro cs h _; exact ⟨[], rfl, by simp, by simpa using h⟩
    | succ n ih =>
      intro cs h hz
      cases cs with
      | nil => simp at h
      | cons c r =>
        obtain ⟨z, h1, h2⟩ := hz 0 (by omega)
        simp at h1
        subst h1
        obtain ⟨l, h3, h4, h5⟩ := ih r (by simpa using h) (fun i hi => by simpa using hz (i + 1) (by omega))
        exact ⟨z :: l, by simp [h3], by simpa [h2] using h4, by simp [h5]⟩
  exact hg n cs hl each
theorem rep_arr {k : IntKind} {n : Nat} {l : List Int} (hl : l.length = n) (ρ : Rho) : (AV.agg [.ints k n l]).rep ρ (.agg (l.map (Value.int k)).toArray) := by
  refine ⟨_, rfl, by simp [sizeS, Seg.size, hl], fun i x hx => ?_⟩
  obtain ⟨h1, h2⟩ := atS_ints1 hx
  subst h2
  exact ⟨.int k (l.getD i 0), by simp [hl, h1], rfl, rfl⟩
theorem open_arr {r : Reach} {b0 : Nat} {t e : TypeId} {n : Nat} {k : IntKind} {v : Value} {d : DataW Hh} {ps : List MemPlace} (ht : P.underlying t = some (.array n e)) (he : P.underlying e = some (.int k)) (hc : P.cellsOf e = 1) (hct : P.cellsOf t = n)
    (hval : Value.okWide P w r b0 t v) (hd : DataW.Trod enc P w base spare held t v d ps) : ∃ l : List Int, l.length = n ∧ (∀ y ∈ l, (Lit.int k y).wf = true) ∧ ∀ ρ, (AV.agg [.ints k n l]).rep ρ v := by
  simp only [Value.okWide, ht] at hval
  obtain ⟨cs, rfl, _, _⟩ := hval
  obtain ⟨fuel, hf⟩ := hd
  obtain ⟨_, l, h1, h2, h3⟩ := open_arr_cells ht he hc hct hf
  refine ⟨l, h1, h2, fun ρ => ?_⟩
  have h3 : cs.toList = l.map (Value.int k) := h3
  have : cs = (l.map (Value.int k)).toArray := by rw [← h3]
  rw [this]; exact rep_arr h1 ρ
/-- A slice of integers of which something is read. -/
structure SlIn (k : IntKind) (w : World) (v : Value) (b o len cap : Nat) (zs : List Int) : Prop where
  eq : v = .slice (some ⟨b, o, none⟩) len cap
  pos : 0 < len
  le : len ≤ cap
  max : cap ≤ maxLen
  size : zs.length = len
  wf : ∀ y ∈ zs, (Lit.int k y).wf = true
  blk : ∃ cells t fr, w.heap[b]? = some (.cells cells t fr) ∧ ∀ i, i < len → cells[o + i]? = some (.int k (zs.getD i 0))
theorem cell_blk {w : World} {a : Addr} {v : Value} (h : w.cell? a = some v) : ∃ cells t fr, w.heap[a.block]? = some (.cells cells t fr) ∧ a.spot = none ∧ cells[a.off]? = some v := by
  unfold World.cell? at h
  split at h
  · rename_i c t fr hb
    split at h
    · cases h
    · rename_i hs
      exact ⟨c, t, fr, hb, by simpa using hs, h⟩
  · cases h
theorem open_sl {t e : TypeId} {k : IntKind} {cs : List Value} {x : DataW Hh × List MemPlace} (ht : P.underlying t = some (.slice e)) (he : P.underlying e = some (.int k)) (hc : P.cellsOf e = 1)
    (h : DataW.trod enc P w base spare held fuel t cs = some x) : (∃ a c, cs = [.slice a 0 c]) ∨ ∃ v b o len cap zs, cs = [v] ∧ SlIn k w v b o len cap zs := by
  rcases open_ints ht he hc h with ⟨hcs, _⟩ | ⟨a, len, cap, zs, hcs, _, hl, hm, hz, _, hcell, hwz⟩
  · exact .inl ⟨none, 0, hcs⟩
  · by_cases h0 : len = 0
    · subst h0; exact .inl ⟨some a, cap, hcs⟩
    · have hzl : len ≤ zs.length := by rw [hz]; split <;> omega
      have hsome : ∀ i, i < len → w.cell? (a.add i) = some (.int k (zs.getD i 0)) := fun i hi => hcell i (by omega)
      obtain ⟨cells, ty, fr, hb, hsp, h1⟩ := cell_blk (hsome 0 (by omega))
      have ha : a = ⟨a.block, a.off, none⟩ := by
        have : a.spot = none := by simpa [Addr.add] using hsp
        cases a; simp_all
      refine .inr ⟨_, a.block, a.off, len, cap, zs.take len, hcs, by rw [← ha], by omega, hl, hm, by simp; omega, fun y hy => hwz y (List.mem_of_mem_take hy), cells, ty, fr, ?_, fun i hi => ?_⟩
      · rw [← hb]; congr 1
      · obtain ⟨cells', ty', fr', hb', _, h2⟩ := cell_blk (hsome i hi)
        rw [ha, addr_add] at h2 hb'
        have hbb : w.heap[a.block]? = some (.cells cells' ty' fr') := hb'
        have hb2 : w.heap[a.block]? = some (.cells cells ty fr) := by rw [← hb]; congr 1
        rw [hbb] at hb2
        cases hb2
        simp only [] at h2
        rw [h2]
        simp [List.getD, List.getElem?_take, hi]
end
section
variable {P : Program} {T : Tm} {H : Heap} {d : Option Tmp} {ty : TypeId} {pos : String} {af : Array Edge} {g : Option (Nat × Bool)}
theorem h_len_val {x : Operand} {t : TypeId} {e : TypeId} {rt : TypeId} {a : Option Addr} {n c : Nat} (hx : ev T x = .s (.val (.slice a n c))) (hu : P.underlying t = some (.slice e)) : HOk P ⟨d, .call ⟨.builtin .len, #[x], #[t]⟩, rt, pos, af, g⟩ T H (.s (.int .i64 (n : Int))) [] :=
  .pure fun W ρ a w _ ho => by
    have h1 : (ev T x).rep ρ (a.eval x) := ho x (by simp [Op.operands, Call.operands])
    rw [hx] at h1
    simp only [AV.rep, SV.rep] at h1
    exact ⟨.int .i64 n, by simp [execOp, resolve, invoke, builtin, Builtin.len_, run_underlying hu, h1.1, goInt], rfl⟩
end
end Go.Ab
end

section
/- From a walk to a call that leaves old memory be, with slices among the arguments. No program. -/
namespace Go.Ab
open Go.RowKit Go.ChangeShapes
theorem calls_walk {P : Program} {f : FuncId} {fn : Func} {c : Code} {n : Nat} {args : List AV} {vals : Array Value} {ρ0 : Rho} {H0 : Heap} {w : World} {r : Bool} (hf : P.funcs[f]? = some fn) (hb : fn.body = some c) (hn : fn.ntmps = n)
    (hH : HRep (fun b => w.heap.size ≤ b) ρ0 H0 w) (hdom : ∀ id, H0.length ≤ id → ρ0 id = none) (hargs : ArgsRep ρ0 args vals) (hl : args.length ≤ n)
    (h : ∀ W w ρ0 hW hdom, Wp ⟨P, W, w, ρ0, n, H0.length, hW, hdom⟩ c (argT 0 args) H0 (DoneF ⟨P, W, w, ρ0, n, H0.length, hW, hdom⟩ fn (.s (.bool r)))) : Calls P f vals w fun e w' => e = .returned (.bool r) ∧ Below w.heap.size w w' := by
  subst hn
  have hW : ∀ b, w.heap.size ≤ b → (fun b => w.heap.size ≤ b) b := fun _ h => h
  refine calls_enter (W := fun b => w.heap.size ≤ b) (ρ0 := ρ0) (H0 := H0) (args := args) hf hb hW hH hdom hargs hl ((h _ w ρ0 hW hdom).mono ?_)
  rintro e T H1 ⟨he, hret⟩
  refine ⟨he, _, hret, fun v' ρ' w' h1 _ _ _ h5 => ?_⟩
  have h1 : v' = .bool r := h1
  subst h1
  exact ⟨rfl, h5.os, h5.tape, h5.output, h5.size, fun k hk => h5.block k hk (by simp; omega)⟩
theorem hrep_list {W : Nat → Prop} {w : World} (L : List ((Nat × Nat) × Blk)) (h : ∀ x ∈ L, x.2.rw = false ∧ x.1.1 < w.heap.size ∧ ∀ ρ, BRep ρ x.2 w x.1.1 x.1.2) : HRep W (fun i => (L[i]?).map (·.1)) (L.map fun x => some x.2) w := by
  refine ⟨fun id b o e => ?_, fun id b o k e hk => ?_, fun id id' b o o' k k' _ e e' hk hk' => ?_⟩
  · obtain ⟨x, hx, e⟩ := Option.map_eq_some_iff.1 e
    have := (h x (List.mem_of_getElem? hx)).2.1
    rw [e] at this; exact this
  · obtain ⟨x, hx, e⟩ := Option.map_eq_some_iff.1 e
    simp [hx] at hk
    subst hk
    have := h x (List.mem_of_getElem? hx)
    rw [e] at this
    exact ⟨this.2.2 _, fun hr => by rw [this.1] at hr; cases hr⟩
  · obtain ⟨x, hx, e⟩ := Option.map_eq_some_iff.1 e
    obtain ⟨y, hy, e'⟩ := Option.map_eq_some_iff.1 e'
    simp [hx] at hk
    simp [hy] at hk'
    subst hk; subst hk'
    exact ⟨(h x (List.mem_of_getElem? hx)).1, (h y (List.mem_of_getElem? hy)).1⟩
theorem SlIn.brep {k : IntKind} {w : World} {v : Value} {b o len cap : Nat} {zs : List Int} (h : SlIn k w v b o len cap zs) : (⟨false, [.ints k len zs]⟩ : Blk).rw = false ∧ b < w.heap.size ∧ ∀ ρ, BRep ρ ⟨false, [.ints k len zs]⟩ w b o := by
  obtain ⟨cells, t, fr, hb, hc⟩ := h.blk
  refine ⟨rfl, (Array.getElem?_eq_some_iff.1 hb).1, fun ρ => ⟨cells, t, fr, hb, fun e => (by cases e), fun i x hx => ?_⟩⟩
  obtain ⟨h1, h2⟩ := atS_ints1 hx
  subst h2
  exact ⟨_, hc i h1, rfl, rfl⟩
section
variable {Hh : Type} {enc : TypeId × Value → Hh} {P : Program} {w : World} {base : Nat} {spare : Nat → Bool} {held : Bool}
/-- A slice of which nothing, or something, is read. -/
def Sl (k : IntKind) (w : World) (v : Value) : Prop := (∃ a c, v = .slice a 0 c) ∨ ∃ b o len cap zs, SlIn k w v b o len cap zs
theorem open_two {r : Reach} {b0 : Nat} {t s e : TypeId} {k : IntKind} {v : Value} {d : DataW Hh} {ps : List MemPlace} (ht : P.underlying t = some (.array 2 s)) (hs : P.underlying s = some (.slice e)) (he : P.underlying e = some (.int k)) (hc : P.cellsOf e = 1) (hcs : P.cellsOf s = 1) (hct : P.cellsOf t = 2)
    (hval : Value.okWide P w r b0 t v) (hd : DataW.Trod enc P w base spare held t v d ps) : ∃ c0 c1, v = .agg #[c0, c1] ∧ Sl k w c0 ∧ Sl k w c1 := by
  simp only [Value.okWide, ht] at hval
  obtain ⟨cs, rfl, hsz, _⟩ := hval
  obtain ⟨fuel, hf⟩ := hd
  obtain ⟨xs, m, _, _, hl, hxl, hall⟩ := DataW.trod_array ht hf
  obtain ⟨l⟩ := cs
  have hl : l.length = 2 := by rw [hct] at hsz; simpa using hsz
  match l, hl with
  | [c0, c1], _ =>
    have h0 := hall 0 (by omega)
    have h1 := hall 1 (by omega)
    simp only [hcs, Value.cells] at h0 h1
    have e0 : ∃ y, xs[0]? = some y := ⟨_, List.getElem?_eq_getElem (by omega)⟩
    have e1 : ∃ y, xs[1]? = some y := ⟨_, List.getElem?_eq_getElem (by omega)⟩
    obtain ⟨y0, e0⟩ := e0
    obtain ⟨y1, e1⟩ := e1
    rw [e0] at h0
    rw [e1] at h1
    refine ⟨c0, c1, rfl, ?_, ?_⟩
    · rcases open_sl hs he hc h0 with ⟨a, c, hh⟩ | ⟨v, b, o, len, cap, zs, hh, hi⟩
      · simp at hh; exact .inl ⟨a, c, hh⟩
      · simp at hh; subst hh; exact .inr ⟨b, o, len, cap, zs, hi⟩
    · rcases open_sl hs he hc h1 with ⟨a, c, hh⟩ | ⟨v, b, o, len, cap, zs, hh, hi⟩
      · simp at hh; exact .inl ⟨a, c, hh⟩
      · simp at hh; subst hh; exact .inr ⟨b, o, len, cap, zs, hi⟩
end
end Go.Ab
end

section
/- More rules: slices cut, '==' of two booleans. No program. -/
namespace Go.Ab
section rules
variable {P : Program} {T : Tm} {H : Heap} {d : Option Tmp} {ty : TypeId} {pos : String} {af : Array Edge} {g : Option (Nat × Bool)}
theorem run_equalIn_bool (w : World) (n : Nat) {t : TypeId} (p q : Bool) (hu : P.underlying t = some .bool) : (Op.equalIn (n + 1) t (.bool p) (.bool q)).run P w = .ok (p == q) w := by
  simp [Op.equalIn, run_underlying hu]
theorem h_eqlb {t tyy : TypeId} {x y : Operand} {p q r : Bool} (hx : ev T x = .s (.bool p)) (hy : ev T y = .s (.bool q)) (hu : P.underlying t = some .bool) (hr : (p == q) = r) : HOk P ⟨d, .binOp .eql t x y tyy, ty, pos, af, g⟩ T H (.s (.bool r)) [] :=
  .pure fun W ρ a w _ ho => by
    obtain ⟨h1, h2⟩ := two (op := .binOp .eql t x y tyy) rfl ho hx hy
    simp only [AV.rep, SV.rep] at h1 h2
    exact ⟨.bool r, by simp [execOp, h1, h2, Sem.run_bind, eqGuard, binOp, Op.equal, Op.maxDepth, run_equalIn_bool w 9999 _ _ hu, hr], rfl⟩
theorem sl_run {w : World} {t e : TypeId} {a : Option Addr} {len cap l h m : Nat} {lo hi mx : Option Value} (hu : P.underlying t = some (.slice e)) (hs : ∀ w, (sizeOf e).run P w = .ok 1 w)
    (hb : (Instr.sliceBounds true len cap lo hi mx).run P w = .ok (l, h, m) w) : (Instr.sliceAt t (.slice a len cap) lo hi mx).run P w = .ok (sliced a l h m 1) w := by
  simp [Instr.sliceAt, Instr.slice, Sem.run_bind, run_underlying hu, hb, hs, sliced]
theorem sb_h {w : World} {len cap h : Nat} {k : IntKind} (h1 : h ≤ cap) : (Instr.sliceBounds true len cap none (some (.int k (h : Int))) none).run P w = .ok (0, h, cap) w := by
  simp [Instr.sliceBounds, Sem.run_bind, run_sliceBound w k (h : Int) cap _ (by omega) (by omega)]
theorem sb_l {w : World} {len cap l : Nat} {k : IntKind} (h1 : l ≤ len) : (Instr.sliceBounds true len cap (some (.int k (l : Int))) none none).run P w = .ok (l, len, cap) w := by
  simp [Instr.sliceBounds, Sem.run_bind, run_sliceBound w k (l : Int) len _ (by omega) (by omega)]
theorem sb_lh {w : World} {len cap l h : Nat} {k k' : IntKind} (h1 : l ≤ h) (h2 : h ≤ cap) : (Instr.sliceBounds true len cap (some (.int k (l : Int))) (some (.int k' (h : Int))) none).run P w = .ok (l, h, cap) w := by
  simp [Instr.sliceBounds, Sem.run_bind, run_sliceBound w k (l : Int) h _ (by omega) (by omega), run_sliceBound w k' (h : Int) cap _ (by omega) (by omega)]
theorem sb_hm {w : World} {len cap h m : Nat} {k k' : IntKind} (h1 : h ≤ m) (h2 : m ≤ cap) : (Instr.sliceBounds true len cap none (some (.int k (h : Int))) (some (.int k' (m : Int)))).run P w = .ok (0, h, m) w := by
  simp [Instr.sliceBounds, Sem.run_bind, run_sliceBound w k (h : Int) m _ (by omega) (by omega), run_sliceBound w k' (m : Int) cap _ (by omega) (by omega)]
theorem sb_lhm {w : World} {len cap l h m : Nat} {k k' k'' : IntKind} (h0 : l ≤ h) (h1 : h ≤ m) (h2 : m ≤ cap) : (Instr.sliceBounds true len cap (some (.int k (l : Int))) (some (.int k' (h : Int))) (some (.int k'' (m : Int)))).run P w = .ok (l, h, m) w := by
  simp [Instr.sliceBounds, Sem.run_bind, run_sliceBound w k (l : Int) h _ (by omega) (by omega), run_sliceBound w k' (h : Int) m _ (by omega) (by omega), run_sliceBound w k'' (m : Int) cap _ (by omega) (by omega)]
theorem sliced_rep {ρ : Rho} {id base idx len cap l h m : Nat} {v : Value} (hr : (SV.slice id base idx len cap).rep ρ v) : ∃ a, v = .slice a len cap ∧ (SV.slice id base (if m = l then idx else idx + l) (h - l) (m - l)).rep ρ (sliced a l h m 1) := by
  obtain ⟨b, o, h1, rfl⟩ := hr
  refine ⟨_, rfl, b, o, h1, ?_⟩
  unfold sliced
  by_cases e : m = l
  · simp [e]
  · simp only [if_neg e, Option.map_some, Nat.mul_one, addr_add, Nat.add_assoc]
theorem h_slice_h {t e : TypeId} {x i : Operand} {id base idx len cap h : Nat} {k : IntKind} {n : Int} (hx : ev T x = .s (.slice id base idx len cap)) (hi : ev T i = .s (.int k n)) (hn : n = (h : Int)) (hu : P.underlying t = some (.slice e)) (hs : ∀ w, (sizeOf e).run P w = .ok 1 w) (h1 : h ≤ cap) :
    HOk P ⟨d, .slice t x none (some i) none, ty, pos, af, g⟩ T H (.s (.slice id base idx h cap)) [] :=
  .pure fun W ρ a w _ ho => by
    subst hn
    have k1 := ho x (by simp [Op.operands])
    have k2 := ho i (by simp [Op.operands])
    rw [hx] at k1
    rw [hi] at k2
    simp only [AV.rep, SV.rep] at k2
    obtain ⟨ad, e1, e2⟩ := sliced_rep (l := 0) (h := h) (m := cap) k1
    have hr := sl_run (P := P) (w := w) (a := ad) hu hs (sb_h (len := len) (k := k) h1)
    refine ⟨sliced ad 0 h cap 1, by simp [execOp, e1, k2, Sem.run_bind, hr], ?_⟩
    have : (if cap = 0 then idx else idx + 0) = idx := by split <;> rfl
    rw [this] at e2
    exact e2
theorem h_slice_hn {t e : TypeId} {x i : Operand} {k : IntKind} {n : Int} (hx : ev T x = .s .nils) (hi : ev T i = .s (.int k n)) (hn : n = 0) (hu : P.underlying t = some (.slice e)) (hs : ∀ w, (sizeOf e).run P w = .ok 1 w) :
    HOk P ⟨d, .slice t x none (some i) none, ty, pos, af, g⟩ T H (.s .nils) [] :=
  .pure fun W ρ a w _ ho => by
    subst hn
    have k1 := ho x (by simp [Op.operands])
    have k2 := ho i (by simp [Op.operands])
    rw [hx] at k1
    rw [hi] at k2
    simp only [AV.rep, SV.rep] at k1 k2
    have hr : (Instr.sliceAt t (.slice none 0 0) none (some (.int k 0)) none).run P w = .ok (sliced none 0 0 0 1) w := sl_run hu hs (sb_h (h := 0) (by omega))
    exact ⟨.slice none 0 0, (by simp [execOp, k1, k2, Sem.run_bind, hr]; rfl), rfl⟩
theorem h_slice_hv {t e : TypeId} {x i : Operand} {k : IntKind} {n : Int} {ad : Option Addr} {c : Nat} (hx : ev T x = .s (.val (.slice ad 0 c))) (hi : ev T i = .s (.int k n)) (hn : n = 0) (hu : P.underlying t = some (.slice e)) (hs : ∀ w, (sizeOf e).run P w = .ok 1 w) :
    HOk P ⟨d, .slice t x none (some i) none, ty, pos, af, g⟩ T H (.s (.val (.slice ad 0 c))) [] :=
  .pure fun W ρ a w _ ho => by
    subst hn
    have k1 := ho x (by simp [Op.operands])
    have k2 := ho i (by simp [Op.operands])
    rw [hx] at k1
    rw [hi] at k2
    simp only [AV.rep, SV.rep] at k1 k2
    have hr : (Instr.sliceAt t (.slice ad 0 c) none (some (.int k 0)) none).run P w = .ok (sliced ad 0 0 c 1) w := sl_run hu hs (sb_h (h := 0) (by omega))
    have : sliced ad 0 0 c 1 = .slice ad 0 c := by
      unfold sliced
      cases ad <;> simp [Addr.add]
    rw [this] at hr
    exact ⟨.slice ad 0 c, by simp [execOp, k1.1, k2, Sem.run_bind, hr], rfl, rfl⟩
theorem h_slice_l {t e : TypeId} {x i : Operand} {id base idx len cap l : Nat} {k : IntKind} {n : Int} (hx : ev T x = .s (.slice id base idx len cap)) (hi : ev T i = .s (.int k n)) (hn : n = (l : Int)) (hu : P.underlying t = some (.slice e)) (hs : ∀ w, (sizeOf e).run P w = .ok 1 w) (h1 : l ≤ len) :
    HOk P ⟨d, .slice t x (some i) none none, ty, pos, af, g⟩ T H (.s (.slice id base (if cap = l then idx else idx + l) (len - l) (cap - l))) [] :=
  .pure fun W ρ a w _ ho => by
    subst hn
    have k1 := ho x (by simp [Op.operands])
    have k2 := ho i (by simp [Op.operands])
    rw [hx] at k1
    rw [hi] at k2
    simp only [AV.rep, SV.rep] at k2
    obtain ⟨ad, e1, e2⟩ := sliced_rep (l := l) (h := len) (m := cap) k1
    have hr := sl_run (P := P) (w := w) (a := ad) hu hs (sb_l (cap := cap) (k := k) h1)
    exact ⟨sliced ad l len cap 1, by simp [execOp, e1, k2, Sem.run_bind, hr], e2⟩
theorem h_slice_l2 {t e : TypeId} {x i : Operand} {id base idx len cap l : Nat} {k : IntKind} {n : Int} (hx : ev T x = .s (.slice id base idx len cap)) (hi : ev T i = .s (.int k n)) (hn : n = (l : Int)) (hu : P.underlying t = some (.slice e)) (hs : ∀ w, (sizeOf e).run P w = .ok 1 w) (h1 : l ≤ len) (h2 : l < cap) :
    HOk P ⟨d, .slice t x (some i) none none, ty, pos, af, g⟩ T H (.s (.slice id base (idx + l) (len - l) (cap - l))) [] := by
  have := h_slice_l (d := d) (ty := ty) (pos := pos) (af := af) (g := g) (H := H) hx hi hn hu hs h1
  rwa [if_neg (by omega)] at this
theorem h_slice_l' {t e : TypeId} {x i : Operand} {id base idx len cap l n' : Nat} {k : IntKind} {n : Int} (hx : ev T x = .s (.slice id base idx len cap)) (hi : ev T i = .s (.int k n)) (hn : n = (l : Int)) (hn' : len - l = n') (hu : P.underlying t = some (.slice e)) (hs : ∀ w, (sizeOf e).run P w = .ok 1 w) (h1 : l ≤ len) :
    HOk P ⟨d, .slice t x (some i) none none, ty, pos, af, g⟩ T H (.s (.slice id base (if cap = l then idx else idx + l) n' (cap - l))) [] := by
  subst hn'
  exact h_slice_l hx hi hn hu hs h1
end rules
section steps
variable {P : Program} {ops : Array Oper} {T : Tm} {H : Heap} {ty : TypeId} {pos : String} {af : Array Edge} {r l2 : List Oper} {op : Op} {d : Nat} {K : Tm → Heap → Prop}
theorem s_on_a {j t : Nat} {b B : Bool} {v : AV} {nb : Blk} {H1 : Heap} (ht : (ops[j]?).bind (·.dst) = some t) (hv : look T t = .s (.bool B)) (hB : B = b) (h : HOk P ⟨some d, op, ty, pos, af, some (j, b)⟩ T H v [nb]) (e : H ++ [some nb] = H1) (k : SK P ops r ((d, v) :: T) H1 K) : SK P ops (⟨some d, op, ty, pos, af, some (j, b)⟩ :: r) T H K :=
  let ⟨T', H', k1, k2⟩ := k
  ⟨T', H', .cons (.on rfl ht hv hB) h (by subst e; simpa [put] using k1), k2⟩
theorem t_on_a {j t : Nat} {b B : Bool} {v : AV} {nb : Blk} {H1 : Heap} (ht : (ops[j]?).bind (·.dst) = some t) (hv : look T t = .s (.bool B)) (hB : B = b) (h : HOk P ⟨some d, op, ty, pos, af, some (j, b)⟩ T H v [nb]) (e : H ++ [some nb] = H1) (k : TK P ops r ((d, v) :: T) H1 l2 K) : TK P ops (⟨some d, op, ty, pos, af, some (j, b)⟩ :: r) T H l2 K :=
  let ⟨T', H', k1, k2⟩ := k
  ⟨T', H', .cons (.on rfl ht hv hB) h (by subst e; simpa [put] using k1), k2⟩
end steps
theorem foot2 {H0 H : Heap} {id sh id2 sh2 : Nat} {segs segs2 : List Seg} {b b2 : Blk} (hl : segs.all (Seg.lowB 0) = true) (hl2 : segs2.all (Seg.lowB 0) = true) (hb : H[id]? = some (some b)) (hb2 : H[id2]? = some (some b2)) (hs : ∀ i x, atS segs i = some x → atS b.segs (sh + i) = some x) (hs2 : ∀ i x, atS segs2 i = some x → atS b2.segs (sh2 + i) = some x) (e : H0 = [some ⟨false, segs⟩, some ⟨false, segs2⟩]) :
    ∀ (k id' sh' : Nat) (b0 : Blk), [(id, sh), (id2, sh2)][k]? = some (id', sh') → H0[k]? = some (some b0) → b0.rw = false ∧ b0.segs.all (Seg.lowB 0) = true ∧ ∃ b : Blk, H[id']? = some (some b) ∧ ∀ i x, atS b0.segs i = some x → atS b.segs (sh' + i) = some x := by
  subst e
  intro k id' sh' b0 h1 h2
  match k, h1, h2 with
  | 0, h1, h2 => simp at h1 h2; obtain ⟨rfl, rfl⟩ := h1; subst h2; exact ⟨rfl, hl, b, hb, hs⟩
  | 1, h1, h2 => simp at h1 h2; obtain ⟨rfl, rfl⟩ := h1; subst h2; exact ⟨rfl, hl2, b2, hb2, hs2⟩
  | k + 2, h1, _ => simp at h1
/-- Of a block nothing is asked. -/
theorem foot_none {H : Heap} {id sh : Nat} : ∀ (k id' sh' : Nat) (b0 : Blk), [(id, sh)][k]? = some (id', sh') → ([none] : Heap)[k]? = some (some b0) → b0.rw = false ∧ b0.segs.all (Seg.lowB 0) = true ∧ ∃ b : Blk, H[id']? = some (some b) ∧ ∀ i x, atS b0.segs i = some x → atS b.segs (sh' + i) = some x := by
  intro k id' sh' b0 h1 h2
  match k, h1, h2 with
  | 0, _, h2 => simp at h2
  | k + 1, h1, _ => simp at h1
section
open Go.ChangeShapes
variable {Hh : Type} {enc : TypeId × Value → Hh} {P : Program} {w : World} {base : Nat} {spare : Nat → Bool} {held : Bool}
/-- A slice of integers, as it is handed in. -/
theorem open_sl1 {r : Reach} {b0 : Nat} {t e : TypeId} {k : IntKind} {v : Value} {d : DataW Hh} {ps : List MemPlace} (ht : P.underlying t = some (.slice e)) (he : P.underlying e = some (.int k)) (hc : P.cellsOf e = 1)
    (hval : Value.okWide P w r b0 t v) (hd : DataW.Trod enc P w base spare held t v d ps) : Sl k w v := by
  obtain ⟨fuel, hf⟩ := hd
  have hv : v.cells = #[v] := by
    simp only [Value.okWide, ht] at hval
    cases v <;> first | rfl | (simp [Cell.okWide, Cell.ok, ht] at hval)
  rw [hv] at hf
  rcases open_sl ht he hc hf with ⟨a, c, hh⟩ | ⟨v', b, o, len, cap, zs, hh, hi⟩
  · simp at hh; exact .inl ⟨a, c, hh⟩
  · simp at hh; subst hh; exact .inr ⟨b, o, len, cap, zs, hi⟩
/-- A struct of a slice and a number. -/
theorem open_slint {r : Reach} {b0 : Nat} {t s e i : TypeId} {f0 f1 : Field} {k ki : IntKind} {v : Value} {d : DataW Hh} {ps : List MemPlace} (ht : P.underlying t = some (.struct #[f0, f1])) (hf0 : f0.type = s) (hf1 : f1.type = i) (o0 : f0.offset = 0) (o1 : f1.offset = 1)
    (hs : P.underlying s = some (.slice e)) (he : P.underlying e = some (.int k)) (hi : P.underlying i = some (.int ki)) (hc : P.cellsOf e = 1) (hcs : P.cellsOf s = 1) (hci : P.cellsOf i = 1) (hct : P.cellsOf t = 2)
    (hval : Value.okWide P w r b0 t v) (hd : DataW.Trod enc P w base spare held t v d ps) : ∃ c n, v = .agg #[c, .int ki n] ∧ Sl k w c ∧ (Lit.int ki n).wf = true := by
  subst hf0; subst hf1
  simp only [Value.okWide, ht] at hval
  obtain ⟨cs, rfl, hsz, _⟩ := hval
  obtain ⟨fuel, hf⟩ := hd
  obtain ⟨y0, y1, m, _, hl, h0, h1⟩ := trod_struct2 ht hf
  obtain ⟨l⟩ := cs
  have hl : l.length = 2 := by rw [hct] at hsz; simpa using hsz
  match l, hl with
  | [c0, c1], _ =>
    simp only [o0, o1, hcs, hci, Value.cells] at h0 h1
    obtain ⟨z, hz, _, hw⟩ := DataW.trod_int hi h1
    simp at hz
    subst hz
    refine ⟨c0, z, rfl, ?_, hw⟩
    rcases open_sl hs he hc h0 with ⟨a, c, hh⟩ | ⟨v, b, o, len, cap, zs, hh, hi⟩
    · simp at hh; exact .inl ⟨a, c, hh⟩
    · simp at hh; subst hh; exact .inr ⟨b, o, len, cap, zs, hi⟩
end
end Go.Ab
end

section
/- More rules: guards whose tests are not known; a struct of a part that is a row; numbers that stay what they are. No program. -/
namespace Go.Ab
section steps
variable {P : Program} {ops : Array Oper} {T : Tm} {H : Heap} {ty : TypeId} {pos : String} {af : Array Edge} {r l2 : List Oper} {op : Op} {d : Nat} {K : Tm → Heap → Prop}
theorem s_opt {j t : Nat} {B : Bool} {v : AV} (ht : (ops[j]?).bind (·.dst) = some t) (hv : look T t = .s (.bool B)) (h : B = true → HOk P ⟨some d, op, ty, pos, af, some (j, true)⟩ T H v []) (k : SK P ops r ((d, bif B then v else .s .junk) :: T) H K) : SK P ops (⟨some d, op, ty, pos, af, some (j, true)⟩ :: r) T H K := by
  cases B with
  | true => exact s_on ht hv rfl (h rfl) k
  | false => exact s_off ht hv rfl k
theorem t_opt {j t : Nat} {B : Bool} {v : AV} (ht : (ops[j]?).bind (·.dst) = some t) (hv : look T t = .s (.bool B)) (h : B = true → HOk P ⟨some d, op, ty, pos, af, some (j, true)⟩ T H v []) (k : TK P ops r ((d, bif B then v else .s .junk) :: T) H l2 K) : TK P ops (⟨some d, op, ty, pos, af, some (j, true)⟩ :: r) T H l2 K := by
  cases B with
  | true => exact t_on ht hv rfl (h rfl) k
  | false => exact t_off ht hv rfl k
theorem s_opf {j t : Nat} {B : Bool} {v : AV} (ht : (ops[j]?).bind (·.dst) = some t) (hv : look T t = .s (.bool B)) (h : B = false → HOk P ⟨some d, op, ty, pos, af, some (j, false)⟩ T H v []) (k : SK P ops r ((d, bif B then .s .junk else v) :: T) H K) : SK P ops (⟨some d, op, ty, pos, af, some (j, false)⟩ :: r) T H K := by
  cases B with
  | true => exact s_off ht hv rfl k
  | false => exact s_on ht hv rfl (h rfl) k
theorem t_opf {j t : Nat} {B : Bool} {v : AV} (ht : (ops[j]?).bind (·.dst) = some t) (hv : look T t = .s (.bool B)) (h : B = false → HOk P ⟨some d, op, ty, pos, af, some (j, false)⟩ T H v []) (k : TK P ops r ((d, bif B then .s .junk else v) :: T) H l2 K) : TK P ops (⟨some d, op, ty, pos, af, some (j, false)⟩ :: r) T H l2 K := by
  cases B with
  | true => exact t_off ht hv rfl k
  | false => exact t_on ht hv rfl (h rfl) k
end steps
section rules
variable {P : Program} {T : Tm} {H : Heap} {d : Option Tmp} {ty : TypeId} {pos : String} {af : Array Edge} {g : Option (Nat × Bool)}
theorem h_pick_and {c x y : Operand} {B C : Bool} (hc : ev T c = .s (.bool B)) (hx : ev T x = bif B then .s (.bool C) else .s .junk) (hy : ev T y = .s (.bool false)) : HOk P ⟨d, .pick c x y, ty, pos, af, g⟩ T H (.s (.bool (B && C))) [] := by
  cases B with
  | true => exact h_pick_t hc rfl hx
  | false => exact h_pick_f hc rfl hy
theorem h_pick_or {c x y : Operand} {B C : Bool} (hc : ev T c = .s (.bool B)) (hx : ev T x = .s (.bool true)) (hy : ev T y = bif B then .s .junk else .s (.bool C)) : HOk P ⟨d, .pick c x y, ty, pos, af, g⟩ T H (.s (.bool (B || C))) [] := by
  cases B with
  | true => exact h_pick_t hc rfl hx
  | false => exact h_pick_f hc rfl hy
theorem agg_ints_val {ρ : Rho} {k : IntKind} {n : Nat} {l : List Int} {v : Value} (hl : l.length = n) (h : (AV.agg [.ints k n l]).rep ρ v) : v = .agg (l.map (Value.int k)).toArray := by
  obtain ⟨cs, rfl, h2, h3⟩ := h
  congr 1
  apply Array.ext
  · simp [h2, sizeS, Seg.size, hl]
  · intro i h4 h5
    have hi : i < n := by simp at h5; omega
    obtain ⟨v, hv, hc⟩ := h3 i (.int k (l.getD i 0)) (by simp [atS, Seg.size, Seg.at, hi])
    have e : v = .int k (l.getD i 0) := hc.1
    have hv : cs[i]? = some v := hv
    subst e
    have h6 : cs[i]? = some cs[i] := by simp [h4]
    rw [h6] at hv
    have : i < l.length := by omega
    simpa [this] using Option.some.inj hv
/-- A struct by one part that is a row. -/
theorem h_build_agg {t : TypeId} {x : Operand} {f n : Nat} {k : IntKind} {l : List Int} {cs : Array Value} {segs : List Seg} (hx : ev T x = .agg [.ints k n l]) (hl : l.length = n) (hb : ∀ w, (Instr.build t #[(f, .agg (l.map (Value.int k)).toArray)]).run P w = .ok (.agg cs) w) (hk : rowOk segs cs = true) :
    HOk P ⟨d, .build t #[(f, x)], ty, pos, af, g⟩ T H (.agg segs) [] :=
  .pure fun W ρ a w _ ho => by
    have h1 : (ev T x).rep ρ (a.eval x) := ho x (by simp [Op.operands])
    rw [hx] at h1
    have e := agg_ints_val hl h1
    exact ⟨.agg cs, by simp [execOp, e]; simpa [Sem.run_bind] using congrArg (fun q => q.andThen fun a w' => Result.ok (Next.value a) w') (hb w), cs, rfl, (rowOk_rep hk).1, (rowOk_rep hk).2 ρ⟩
end rules
theorem wr_n {m : Int} {c : Nat} (h : m = (c : Int)) (hc : c < 4611686018427387904) : IntKind.i64.wrap m = (c : Int) := by
  subst h; exact Go.IntWalk.i64_in _ (by omega)
end Go.Ab
end

section
/- A region that draws its order, one of whose operations writes memory that no other one looks at. No program. -/
namespace Go.Ab
theorem Hk_app (N : Nat → List Blk) {k m : Nat} (h : k ≤ m) : ∃ r, ∀ X, Hk N X m = Hk N X k ++ r := by
  induction m with
  | zero => have : k = 0 := by omega
            subst this; exact ⟨[], fun X => by simp⟩
  | succ m ih =>
    by_cases hk : k = m + 1
    · subst hk; exact ⟨[], fun X => by simp⟩
    · obtain ⟨r, hr⟩ := ih (by omega)
      exact ⟨r ++ (N m).map some, fun X => by simp only [Hk, hr, List.append_assoc]⟩
theorem Hk_same {N : Nat → List Blk} {X Y : Heap} (h : X.length = Y.length) (m : Nat) : (Hk N X m).length = (Hk N Y m).length := by
  obtain ⟨R, hR⟩ := Hk_app N (Nat.zero_le m)
  simp only [Hk] at hR
  rw [hR, hR]; simp [h]
/-- What is read alone. -/
def roH (hs : List Nat) (H : Heap) : Heap := H.mapIdx fun i k => if i ∈ hs then k else k.map fun b => ⟨false, b.segs⟩
theorem roH_len (hs : List Nat) (H : Heap) : (roH hs H).length = H.length := by simp [roH]
theorem roH_in {hs : List Nat} {H : Heap} {id : Nat} (h : id ∈ hs) : (roH hs H)[id]? = H[id]? := by simp [roH, List.getElem?_mapIdx, h]
theorem roH_out {hs : List Nat} {H : Heap} {id : Nat} (h : id ∉ hs) : (roH hs H)[id]? = (H[id]?).map fun k => k.map fun b => ⟨false, b.segs⟩ := by simp [roH, List.getElem?_mapIdx, h]
/-- Those blocks alone are written, and hold no addresses; all others stay. -/
structure Own (hs : List Nat) (H0 H1 : Heap) : Prop where
  rw : ∀ id ∈ hs, ∃ k, H0[id]? = some (some k) ∧ k.rw = true
  new : ∀ id ∈ hs, ∃ k, H1[id]? = some (some k) ∧ k.rw = true ∧ k.segs.all (Seg.lowB 0) = true
  out : ∀ id, id ∉ hs → H1[id]? = H0[id]?
def StepM (P : Program) (ops : Array Oper) (V : Nat → AV) (N : Nat → List Blk) (T0 : Tm) (H0 H1 : Heap) (k : Nat) : Prop :=
  ∃ (o : Oper) (hs : List Nat), ops[k]? = some o ∧ N k = [] ∧ Guard ops (Tk ops V T0 k) o true ∧ (∀ x ∈ o.op.operands, (ev (Tk ops V T0 k) x).lowB H0.length = true) ∧ (V k).lowB 0 = true ∧ H0.all (fun | none => true | some k => k.segs.all (Seg.lowB H0.length)) = true ∧ (Own hs H0 H1 ∧ MOk P o (Tk ops V T0 k) (roH hs H0) (V k) (roH hs H1))
theorem mut_step {P : Program} {o : Oper} {T : Tm} {H0 H1 R : Heap} {v : AV} {W : Nat → Prop} {ρ : Rho} {a : Act} {w : World} (hs : List Nat) (hlen1 : H1.length = H0.length) (hm : Own hs H0 H1 ∧ MOk P o T (roH hs H0) v (roH hs H1))
    (k2 : HRep W ρ (H0 ++ R) w) (hW : ∀ b, w.heap.size ≤ b → W b) (ho : Ops o T ρ a) (hlow : ∀ x ∈ o.op.operands, (ev T x).lowB H0.length = true) (hvl : v.lowB 0 = true) (hlowH : H0.all (fun | none => true | some k => k.segs.all (Seg.lowB H0.length)) = true) (k4' : ∀ id x, ρ id = some x → id < (H0 ++ R).length) :
    Gives P o a w fun v' w' => HRep W ρ (H1 ++ R) w' ∧ Fr W w w' ∧ v.rep ρ v' := by
  obtain ⟨own, hm⟩ := hm
  have lt : ∀ id ∈ hs, id < H0.length := fun id h => by
    obtain ⟨k, h1, _⟩ := own.rw id h
    exact (List.getElem?_eq_some_iff.1 h1).1
  have get0 : ∀ (id : Nat) (k : Blk), id < H0.length → H0[id]? = some (some k) → (H0 ++ R)[id]? = some (some k) := fun id k h1 h2 => by rw [List.getElem?_append_left h1]; exact h2
  let W' : Nat → Prop := fun b => w.heap.size ≤ b ∨ ∃ id o, id ∈ hs ∧ ρ id = some (b, o)
  have hWW : ∀ b, W' b → W b := by
    rintro b (h | ⟨id, o, h1, h2⟩)
    · exact hW b h
    · obtain ⟨k, h3, h4⟩ := own.rw id h1
      exact (k2.rep id b o k h2 (get0 id k (lt id h1) h3)).2 h4
  have hcut : ∀ id x, cutR ρ H0.length id = some x → id < H0.length ∧ ρ id = some x := fun id x h => by
    unfold cutR at h
    by_cases hi : id < H0.length
    · rw [if_pos hi] at h; exact ⟨hi, h⟩
    · rw [if_neg hi] at h; cases h
  have orig : ∀ (id : Nat) (k : Blk), (roH hs H0)[id]? = some (some k) → ∃ k0, H0[id]? = some (some k0) ∧ k.segs = k0.segs ∧ (k.rw = true → id ∈ hs ∧ k0.rw = true) := by
    intro id k h
    by_cases hi : id ∈ hs
    · rw [roH_in hi] at h
      exact ⟨k, h, rfl, fun e => ⟨hi, e⟩⟩
    · rw [roH_out hi] at h
      cases h0 : H0[id]? with
      | none => rw [h0] at h; cases h
      | some q =>
        rw [h0] at h
        cases q with
        | none => simp at h
        | some k0 =>
          simp at h
          subst h
          exact ⟨k0, rfl, rfl, fun e => by cases e⟩
  have hH : HRep W' (cutR ρ H0.length) (roH hs H0) w := by
    refine ⟨fun id b o h => k2.lt id b o (hcut _ _ h).2, fun id b o k h hk => ?_, fun id id' b o o' k k' hne h h' hk hk' => ?_⟩
    · obtain ⟨hl, hρ⟩ := hcut _ _ h
      obtain ⟨k0, e0, e1, e2⟩ := orig id k hk
      have hr := k2.rep id b o k0 hρ (get0 id k0 hl e0)
      refine ⟨?_, fun e => .inr ⟨id, o, (e2 e).1, hρ⟩⟩
      obtain ⟨cells, t, fr, g1, g2, g3⟩ := hr.1
      have hlo := List.all_eq_true.1 hlowH _ (List.mem_of_getElem? e0)
      exact ⟨cells, t, fr, g1, fun e => g2 (e2 e).2, by rw [e1]; exact g3.cut hlo⟩
    · obtain ⟨hl, hρ⟩ := hcut _ _ h
      obtain ⟨hl', hρ'⟩ := hcut _ _ h'
      obtain ⟨k0, e0, e1, e2⟩ := orig id k hk
      obtain ⟨k0', e0', e1', e2'⟩ := orig id' k' hk'
      have := k2.apart id id' b o o' k0 k0' hne hρ hρ' (get0 id k0 hl e0) (get0 id' k0' hl' e0')
      constructor
      · cases hb : k.rw with
        | false => rfl
        | true => rw [(e2 hb).2] at this; exact absurd this.1 (by simp)
      · cases hb : k'.rw with
        | false => rfl
        | true => rw [(e2' hb).2] at this; exact absurd this.2 (by simp)
  intro next Q hq
  refine hm W' (cutR ρ H0.length) a w hH (fun id hid => by rw [roH_len] at hid; simp [cutR]; omega) (fun b hb => .inl hb) (fun x hx => AV.rep_cut (ho x hx) (hlow x hx)) next Q ?_
  rintro v' w' ⟨ρ', h1, h2, h3, h4, h5⟩
  -- what is not hidden lies as it lay
  have same : ∀ (id b o : Nat) (k : Blk), id ∉ hs → ρ id = some (b, o) → (H0 ++ R)[id]? = some (some k) → w'.heap[b]? = w.heap[b]? := by
    intro id b o k hid hρ hk
    refine h4.block b (k2.lt id b o hρ) ?_
    rintro (h | ⟨id', o', hi, hρ'⟩)
    · have := k2.lt id b o hρ; omega
    · obtain ⟨k', e1, e2⟩ := own.rw id' hi
      have := k2.apart id id' b o o' k k' (fun e => hid (e ▸ hi)) hρ hρ' hk (get0 id' k' (lt id' hi) e1)
      rw [e2] at this; exact absurd this.2 (by simp)
  -- each block of now, and of then
  have back : ∀ (id : Nat) (k : Blk), (H1 ++ R)[id]? = some (some k) → (id ∈ hs ∧ H1[id]? = some (some k)) ∨ (id ∉ hs ∧ (H0 ++ R)[id]? = some (some k)) := by
    intro id k hk
    by_cases hid : id < H0.length
    · rw [List.getElem?_append_left (by omega)] at hk
      by_cases hi : id ∈ hs
      · exact .inl ⟨hi, hk⟩
      · rw [own.out id hi] at hk
        exact .inr ⟨hi, get0 id k hid hk⟩
    · rw [List.getElem?_append_right (by omega), hlen1] at hk
      exact .inr ⟨fun hi => hid (lt id hi), by rw [List.getElem?_append_right (by omega)]; exact hk⟩
  refine hq v' w' ⟨⟨fun id b o h => Nat.lt_of_lt_of_le (k2.lt id b o h) h4.size, fun id b o k h hk => ?_, fun id id' b o o' k k' hne h h' hk hk' => ?_⟩, ⟨h4.os, h4.tape, h4.output, h4.size, fun b hb hn => h4.block b hb fun h => hn (hWW b h), h4.others⟩, AV.rep_le (ρ := cutR ρ' 0) (fun _ _ e => by simp [cutR] at e) (AV.rep_cut h5 hvl)⟩
  · rcases back id k hk with ⟨hi, hk1⟩ | ⟨hi, hk1⟩
    · obtain ⟨k', n1, n2, n3⟩ := own.new id hi
      rw [n1] at hk1
      cases hk1
      obtain ⟨k0, e1, e2⟩ := own.rw id hi
      have hc : cutR ρ H0.length id = some (b, o) := by unfold cutR; rw [if_pos (lt id hi)]; exact h
      have := (h3.rep id b o k (h2 id _ hc) (by rw [roH_in hi]; exact n1)).1
      obtain ⟨cells, t, fr, g1, g2, g3⟩ := this
      exact ⟨⟨cells, t, fr, g1, g2, (g3.cut n3).le (fun _ _ e => by simp [cutR] at e)⟩, fun _ => (k2.rep id b o k0 h (get0 id k0 (lt id hi) e1)).2 e2⟩
    · have := k2.rep id b o k h hk1
      exact ⟨this.1.world (same id b o k hi h hk1), this.2⟩
  · have hw : ∀ (id b o : Nat) (k : Blk), ρ id = some (b, o) → (H1 ++ R)[id]? = some (some k) → ∃ k0, (H0 ++ R)[id]? = some (some k0) ∧ (k.rw = true → k0.rw = true) := by
      intro id b o k h hk
      rcases back id k hk with ⟨hi, _⟩ | ⟨hi, hk1⟩
      · obtain ⟨k0, e1, e2⟩ := own.rw id hi
        exact ⟨k0, get0 id k0 (lt id hi) e1, fun _ => e2⟩
      · exact ⟨k, hk1, fun e => e⟩
    obtain ⟨k0, e0, f0⟩ := hw id b o k h hk
    obtain ⟨k0', e0', f0'⟩ := hw id' b o' k' h' hk'
    have := k2.apart id id' b o o' k0 k0' hne h h' e0 e0'
    constructor
    · cases hb : k.rw with
      | false => rfl
      | true => rw [f0 hb] at this; exact absurd this.1 (by simp)
    · cases hb : k'.rw with
      | false => rfl
      | true => rw [f0' hb] at this; exact absurd this.2 (by simp)
structure InvM (E : Env) (ops : Array Oper) (m k0 : Nat) (V : Nat → AV) (N : Nat → List Blk) (T0 : Tm) (H0 H1 : Heap) (listed : Array Bool) (a : Act) (w : World) : Prop where
  size : listed.size = ops.size
  closed : Closed ops listed
  late : ∀ i, m ≤ i → i < ops.size → listed.getD i false = false
  ex : ∃ ρ, Rle E.ρ0 ρ ∧ HRep E.W ρ (Hk N (bif listed.getD k0 false then H1 else H0) m) w ∧
    (∀ t, (∀ j, j < m → listed.getD j false = true → (ops[j]?).bind (·.dst) = some t → (V j).rep ρ (a.tmps.getD t undef)) ∧ ((∀ j, j < m → (ops[j]?).bind (·.dst) ≠ some t) → (look T0 t).rep ρ (a.tmps.getD t undef))) ∧
    (∀ id x, ρ id = some x → id < H0.length ∨ ∃ j, j < m ∧ listed.getD j false = true ∧ (Hk N H0 j).length ≤ id ∧ id < (Hk N H0 j).length + (N j).length) ∧
    a.tmps.size = E.n ∧ DefOk E.w0 a.defers w ∧ Fr E.W E.w0 w

theorem head_anyM {E : Env} {ops : Array Oper} {Q : Exit → Act → World → Prop} {m k0 : Nat} (hok : regionOk E.n ops = true) (hany : anyOk ops m = true) (hm : m ≤ ops.size) {V : Nat → AV} {N : Nat → List Blk} {T0 : Tm} {H0 H1 Hv : Heap} (hk0 : k0 < m) (hlen1 : H1.length = H0.length) (hlenv : Hv.length = H0.length) (hv0 : ∀ (id : Nat) (k : Blk), Hv[id]? = some (some k) → H0[id]? = some (some k)) (hv1 : ∀ (id : Nat) (k : Blk), Hv[id]? = some (some k) → H1[id]? = some (some k))
    (hstep : ∀ k, k < m → k ≠ k0 → StepOk E.P ops V N T0 Hv k) (hmut : StepM E.P ops V N T0 H0 H1 k0) {l : List Oper} (hl : ∀ j, l[j]? = ops[m + j]?) (hlen : m + l.length = ops.size) {T' : Tm} {H' : Heap} (htail : Steps E.P ops l (Tk ops V T0 m) (Hk N H1 m) T' H') (hQ : ∀ a' w', Rep E T' H' a' w' → Q .normal a' w') :
    ∀ (fuel : Nat) (us : List Nat) (listed : Array Bool) (a : Act) (w : World), (∀ j, j < m → listed.getD j false = false → j ∈ us) → us.length + l.length ≤ fuel → InvM E ops m k0 V N T0 H0 H1 listed a w → wpAny E.P .any ops Q fuel listed a w := by
  have finish : ∀ (fuel : Nat) (listed : Array Bool) (a : Act) (w : World), (∀ j, j < m → listed.getD j false = true) → l.length ≤ fuel → InvM E ops m k0 V N T0 H0 H1 listed a w → wpAny E.P .any ops Q fuel listed a w := by
    intro fuel listed a w hall hf hi
    refine tail_any hok hany htail m (Nat.le_refl _) hlen hl fuel listed hf hi.size (fun i his => ?_) a w ?_ hQ
    · rcases Nat.lt_or_ge i m with h | h
      · rw [hall i h]; simp [h]
      · rw [hi.late i h his]; simp; omega
    · obtain ⟨ρ, k1, k2, k3, k4, k5, k6, k7⟩ := hi.ex
      rw [hall k0 hk0] at k2
      refine ⟨ρ, k1, fun id hid => ?_, k2, fun t => ?_, k5, k6, k7⟩
      · cases hr : ρ id with
        | none => rfl
        | some x =>
          rcases k4 id x hr with h | ⟨j, h1, _, _, h2⟩
          · obtain ⟨r, hr⟩ := Hk_le (N := N) (H0 := H1) (Nat.zero_le m)
            simp only [Hk] at hr
            rw [hr] at hid
            simp at hid; omega
          · have := Hk_len (N := N) (H0 := H0) h1
            have := Hk_same (N := N) (X := H0) (Y := H1) hlen1.symm m
            omega
      · rcases look_Tk (ops := ops) (V := V) (T0 := T0) t m with ⟨j, h1, h2, h3⟩ | ⟨h1, h2⟩
        · rw [h3]; exact (k3 t).1 j h1 (hall j h1) h2
        · rw [h2]; exact (k3 t).2 h1
  intro fuel
  induction fuel with
  | zero =>
    intro us listed a w hus hf hi
    refine finish 0 listed a w (fun j hj => ?_) (by omega) hi
    cases hb : listed.getD j false with
    | true => rfl
    | false => have := hus j hj hb; have := List.length_pos_of_mem this; omega
  | succ fuel ih =>
    intro us listed a w hus hf hi
    by_cases hall : ∀ j, j < m → listed.getD j false = true
    · exact finish _ listed a w hall (by omega) hi
    have hex : ∃ j, j < m ∧ listed.getD j false = false := by
      apply Classical.byContradiction
      intro hn
      refine hall fun j hj => ?_
      cases hb : listed.getD j false with
      | true => rfl
      | false => exact absurd ⟨j, hj, hb⟩ hn
    -- the least unlisted one is ready
    have hready : ∃ j, j ∈ Region.ready .any ops listed := by
      have hleast : ∀ n, (∃ j, j ≤ n ∧ j < m ∧ listed.getD j false = false) → ∃ j, j < m ∧ listed.getD j false = false ∧ ∀ i, i < j → listed.getD i false = true := by
        intro n
        induction n with
        | zero =>
          rintro ⟨j, h1, h2, h3⟩
          have : j = 0 := by omega
          subst this
          exact ⟨0, h2, h3, fun i hi => absurd hi (by omega)⟩
        | succ n ihn =>
          rintro ⟨j, h1, h2, h3⟩
          by_cases hh : ∃ j, j ≤ n ∧ j < m ∧ listed.getD j false = false
          · exact ihn hh
          · refine ⟨j, h2, h3, fun i hi => ?_⟩
            cases hb : listed.getD i false with
            | true => rfl
            | false => exact absurd ⟨i, by omega, by omega, hb⟩ hh
      obtain ⟨j0, h1, h2⟩ := hex
      obtain ⟨j, hj, hjf, hji⟩ := hleast j0 ⟨j0, Nat.le_refl _, h1, h2⟩
      have hjs : j < ops.size := by omega
      have ho : ops[j]? = some ops[j] := by simp [hjs]
      exact ⟨j, mem_ready.2 ⟨by simp [hi.size, hjs] at hjf ⊢; exact hjf, _, ho, fun e he hb => hji _ (anyOk_edge hany ho e he hb)⟩⟩
    refine ⟨fun hn => (by obtain ⟨j, hj⟩ := hready; rw [hn] at hj; cases hj), fun i hir => ?_⟩
    obtain ⟨hun, o, ho, hedges⟩ := mem_ready.1 hir
    have his : i < ops.size := (Array.getElem?_eq_some_iff.1 ho).1
    have hif : listed.getD i false = false := by simp [hi.size, his] at hun ⊢; exact hun
    have him : i < m := by
      rcases Nat.lt_or_ge i m with h | h
      · exact h
      · obtain ⟨j, h1, h2⟩ := hex
        have := reach_listed hany hi.closed i o j ho (anyOk_tail hany ho h j (by omega)) hedges
        rw [h2] at this; cases this
    obtain ⟨ρ, k1, k2, k3, k4, k5, k6, k7⟩ := hi.ex
    -- what it looks at is told
    have hlook : ∀ t, t ∈ o.looksAt ops → (look (Tk ops V T0 i) t).rep ρ (a.tmps.getD t undef) := by
      intro t ht
      rcases look_Tk (ops := ops) (V := V) (T0 := T0) t i with ⟨j, h1, h2, h3⟩ | ⟨h1, h2⟩
      · rw [h3]
        have hjs : j < ops.size := by omega
        have hp : ops[j]? = some ops[j] := by simp [hjs]
        have hd : ops[j].dst = some t := by rw [hp] at h2; simpa using h2
        have := (anyOk_head hany ho him (show j < m by omega) hp hd).2 ht
        exact (k3 t).1 j (by omega) (reach_listed hany hi.closed i o j ho this.2 hedges) h2
      · rw [h2]
        refine (k3 t).2 fun j hj hd => ?_
        by_cases hji : j < i
        · exact h1 j hji hd
        · have hjs : j < ops.size := by omega
          have hp : ops[j]? = some ops[j] := by simp [hjs]
          have hd' : ops[j].dst = some t := by rw [hp] at hd; simpa using hd
          have := (anyOk_head hany ho him hj hp hd').2 ht
          omega
    have hopk := regionOk_op hok ho
    have hopsrep : Ops o (Tk ops V T0 i) ρ a := by
      intro x hx
      simp only [opOk, Bool.and_eq_true, Array.all_eq_true_iff_forall_mem] at hopk
      cases x with
      | tmp t => exact hlook t (looksAt_op hx)
      | global g => trivial
      | func f => exact ⟨rfl, rfl⟩
      | const c =>
        have h := hopk.1.1 _ hx
        simp only [operandOk] at h
        unfold constOk at h
        split at h <;> first
          | (cases h; done)
          | exact rfl
          | exact ⟨rfl, rfl⟩
    have hdst : ∀ d, o.dst = some d → d < a.tmps.size := fun d hd => by rw [k5]; exact opOk_dst hopk d hd
    have hwant : ∀ c, Guard ops (Tk ops V T0 i) o c → Region.wanted o (yielded ops a.tmps) = c := fun c hg =>
      hg.wanted (ρ := ρ) fun j b t e1 e2 => ⟨hlook t (looksAt_guard e1 e2), by rw [k5]; exact regionOk_guard hok j t e2⟩
    have hW : ∀ b, w.heap.size ≤ b → E.W b := fun b hb => E.hW b (Nat.le_trans k7.size hb)
    obtain ⟨rest, hrest⟩ := Hk_app N (show i + 1 ≤ m by omega)
    have hrest' : ∀ X, Hk N X m = Hk N X i ++ ((N i).map some ++ rest) := fun X => by rw [hrest]; simp only [Hk, List.append_assoc]
    have hnone : ∀ i', i' < (N i).length → ρ ((Hk N H0 i).length + i') = none := by
      intro i' hi'
      cases hr : ρ ((Hk N H0 i).length + i') with
      | none => rfl
      | some x =>
        rcases k4 _ x hr with h | ⟨j, h1, h2, h3, h4⟩
        · obtain ⟨r, hr⟩ := Hk_le (N := N) (H0 := H0) (Nat.zero_le i)
          simp only [Hk] at hr
          rw [hr] at h; simp at h; omega
        · rcases Nat.lt_trichotomy i j with h5 | h5 | h5
          · have := Hk_len (N := N) (H0 := H0) h5; omega
          · subst h5; rw [hif] at h2; cases h2
          · have := Hk_len (N := N) (H0 := H0) h5; omega
    -- the step
    have hinv : ∀ (v' : Value) (w' : World) (ρ' : Rho), Rle ρ ρ' → HRep E.W ρ' (Hk N (bif (listed.setIfInBounds i true).getD k0 false then H1 else H0) m) w' → (∀ id x, ρ' id = some x → ρ id = some x ∨ ((Hk N H0 i).length ≤ id ∧ id < (Hk N H0 i).length + (N i).length)) → Fr E.W w w' → (V i).rep ρ' v' → InvM E ops m k0 V N T0 H0 H1 (listed.setIfInBounds i true) (a.put o.dst v') w' := by
      intro v' w' ρ' hrle hheap hold hfr hv
      have hset : ∀ j, j ≠ i → (listed.setIfInBounds i true).getD j false = listed.getD j false := fun j hj => getD_set_ne false (Ne.symm hj)
      have hseti : (listed.setIfInBounds i true).getD i false = true := by simp [hi.size, his]
      refine ⟨by simpa using hi.size, fun j p hp hjl e he hb => ?_, fun j h1 h2 => by rw [hset j (by omega)]; exact hi.late j h1 h2, ρ', k1.trans hrle, hheap, fun t => ?_, fun id x hx => ?_, (put_size _ _ _).trans k5, (by rw [put_defers]; exact k6.fr hfr), k7.trans hfr⟩
      · have keep : ∀ x, listed.getD x false = true → (listed.setIfInBounds i true).getD x false = true := fun x hx => getD_set_true hx
        by_cases hji : j = i
        · subst hji
          rw [ho] at hp
          cases hp
          exact keep _ (hedges e he hb)
        · rw [hset j hji] at hjl
          exact keep _ (hi.closed j p hp hjl e he hb)
      · have hslot : (a.put o.dst v').tmps.getD t undef = if o.dst = some t then v' else a.tmps.getD t undef := by
          cases hd : o.dst with
          | none => simp [Act.put]
          | some d =>
            simp only [Act.put]
            rw [getD_set _ _ _ _ (hdst d hd)]
            simp
        rw [hslot]
        refine ⟨fun j hj hlj hdj => ?_, fun hno => ?_⟩
        · by_cases hji : j = i
          · subst hji
            rw [ho] at hdj
            have hdj : o.dst = some t := by simpa using hdj
            rw [if_pos hdj]; exact hv
          · have hjs : j < ops.size := by omega
            have hp : ops[j]? = some ops[j] := by simp [hjs]
            have hd' : ops[j].dst = some t := by rw [hp] at hdj; simpa using hdj
            have h1 := (anyOk_head hany ho him hj hp hd').1
            rw [if_neg (h1.resolve_left hji)]
            rw [hset j hji] at hlj
            exact AV.rep_le hrle ((k3 t).1 j hj hlj hdj)
        · have : o.dst ≠ some t := by have := hno i him; rw [ho] at this; simpa using this
          rw [if_neg this]
          exact AV.rep_le hrle ((k3 t).2 hno)
      · rcases hold id x hx with h | ⟨h1, h2⟩
        · rcases k4 id _ h with h | ⟨j, h1, h2, h3⟩
          · exact .inl h
          · refine .inr ⟨j, h1, ?_, h3⟩
            by_cases hji : j = i
            · subst hji; exact hseti
            · rw [hset j hji]; exact h2
        · exact .inr ⟨i, him, hseti, h1, h2⟩
    have hus' : ∀ j, j < m → (listed.setIfInBounds i true).getD j false = false → j ∈ us.erase i := by
      intro j hj hjf
      by_cases hji : j = i
      · subst hji; simp [hi.size, his] at hjf
      · rw [getD_set_ne false (Ne.symm hji)] at hjf
        exact (List.mem_erase_of_ne hji).2 (hus j hj hjf)
    have hlen' : (us.erase i).length + l.length ≤ fuel := by
      have hmem := hus i him hif
      rw [List.length_erase_of_mem hmem]
      have := List.length_pos_of_mem hmem
      omega
    have hsubv : HRep E.W ρ (Hk N Hv i) w := by
      refine HRep.sub_pre (r := (N i).map some ++ rest) ?_
      rw [← hrest']
      refine k2.sub fun id k hk => ?_
      obtain ⟨R, hR⟩ := Hk_app N (Nat.zero_le m)
      simp only [Hk] at hR
      rw [hR] at hk ⊢
      have hB : (bif listed.getD k0 false then H1 else H0).length = Hv.length := by cases listed.getD k0 false <;> simp [hlen1, hlenv]
      by_cases hid : id < Hv.length
      · rw [List.getElem?_append_left hid] at hk
        rw [List.getElem?_append_left (by omega)]
        cases listed.getD k0 false
        · exact hv0 id k hk
        · exact hv1 id k hk
      · rw [List.getElem?_append_right (by omega)] at hk
        rw [List.getElem?_append_right (by omega), hB]; exact hk
    unfold wpOp
    simp only [ho]
    by_cases hik : i = k0
    · subst hik
      obtain ⟨o', hs, ho', hNi, hg, hlow, hvl, hlH, hmut⟩ := hmut
      rw [ho] at ho'
      cases ho'
      rw [hwant _ hg]
      simp only [if_true]
      rw [hif] at k2
      simp only [cond_false] at k2
      refine .inl ?_
      obtain ⟨R, hR⟩ := Hk_app N (Nat.zero_le m)
      simp only [Hk] at hR
      refine mut_step (R := R) hs hlen1 hmut (by rw [← hR]; exact k2) hW hopsrep hlow hvl hlH (fun id x hx => ?_) _ Q ?_
      · rcases k4 id x hx with h | ⟨j, h1, h2, h3, h4⟩
        · exact Nat.lt_of_lt_of_le h (by simp)
        · have := Hk_len (N := N) (H0 := H0) h1
          rw [← hR H0]; omega
      · rintro v' w' ⟨hheap, hfr, hv⟩
        refine ih (us.erase i) _ _ _ hus' hlen' (hinv v' w' ρ (.refl _) ?_ (fun id x hx => .inl hx) hfr hv)
        simp only [show (listed.setIfInBounds i true).getD i false = true by simp [hi.size, his], cond_true]
        rw [hR]; exact hheap
    · obtain ⟨o', ho', hso⟩ := hstep i him hik
      rw [ho] at ho'
      cases ho'
      have hsk : (listed.setIfInBounds i true).getD k0 false = listed.getD k0 false := getD_set_ne false hik
      have hlv := Hk_same (N := N) (X := Hv) (Y := H0) hlenv i
      have hBl : (bif listed.getD k0 false then H1 else H0).length = H0.length := by cases listed.getD k0 false <;> simp [hlen1]
      have hBi := Hk_same (N := N) (X := bif listed.getD k0 false then H1 else H0) (Y := H0) hBl i
      rcases hso with ⟨hg, hh⟩ | ⟨hg, hv, hn⟩
      · rw [hwant _ hg]
        simp only [if_true]
        refine .inl (hh E.W ρ a w hsubv (fun i' hi' => by rw [hlv]; exact hnone i' hi') hopsrep _ Q ?_)
        rintro v' w' ⟨ρ', hnew, hv⟩
        rw [hlv] at hnew
        refine ih (us.erase i) _ _ _ hus' hlen' (hinv v' w' ρ' hnew.le ?_ (fun id x hx => ?_) (hnew.ext.fr _) hv)
        · rw [hsk]
          refine k2.new' hW hnone (fun i' hi' => ?_) hnew
          rw [hrest', List.getElem?_append_right (by omega), ← hBi, Nat.add_sub_cancel_left, List.getElem?_append_left (by simpa using hi')]
          simp [hi']
        · obtain ⟨b, off⟩ := x
          rcases hnew.old id b off hx with h | ⟨h1, h2, _, _⟩
          · exact .inl h
          · exact .inr ⟨h1, h2⟩
      · rw [hwant _ hg]
        simp only [Bool.false_eq_true, if_false]
        refine ih (us.erase i) _ _ _ hus' hlen' (hinv undef w ρ (.refl _) (by rw [hsk]; exact k2) (fun id x hx => .inl hx) (.refl _ _) ?_)
        rw [hv]; trivial

theorem Rep.invM {E : Env} {ops : Array Oper} {m k0 : Nat} {V : Nat → AV} {N : Nat → List Blk} {T0 : Tm} {H0 H1 : Heap} {a : Act} {w : World} (h : Rep E T0 H0 a w) : InvM E ops m k0 V N T0 H0 H1 (Array.replicate ops.size false) a w := by
  obtain ⟨s1, s2, s3, ρ, k1, k2, k3⟩ := (h.inv : Inv E ops m V N T0 H0 (Array.replicate ops.size false) a w)
  exact ⟨s1, s2, s3, ρ, k1, by rw [getD_rep_false]; exact k2, k3⟩
/-- What is hidden is not told. -/
def visH (hs : List Nat) (H : Heap) : Heap := H.mapIdx fun i k => if i ∈ hs then none else k
theorem visH_get {hs : List Nat} {H : Heap} {id : Nat} {k : Blk} (h : (visH hs H)[id]? = some (some k)) : id ∉ hs ∧ H[id]? = some (some k) := by
  simp only [visH, List.getElem?_mapIdx] at h
  cases h0 : H[id]? with
  | none => rw [h0] at h; cases h
  | some q =>
    rw [h0] at h
    simp only [Option.map_some, Option.some.injEq] at h
    by_cases hi : id ∈ hs
    · rw [if_pos hi] at h; cases h
    · rw [if_neg hi] at h; subst h; exact ⟨hi, rfl⟩
def setB (H : Heap) : List (Nat × Blk) → Heap
  | [] => H
  | p :: r => (setB H r).set p.1 (some p.2)
theorem setB_len (H : Heap) (nw : List (Nat × Blk)) : (setB H nw).length = H.length := by
  induction nw with
  | nil => rfl
  | cons p r ih => simp [setB, ih]
theorem setB_out {H : Heap} {nw : List (Nat × Blk)} {id : Nat} (h : id ∉ nw.map (·.1)) : (setB H nw)[id]? = H[id]? := by
  induction nw with
  | nil => rfl
  | cons p r ih =>
    simp only [List.map_cons, List.mem_cons, not_or] at h
    rw [setB, List.getElem?_set_ne (Ne.symm h.1)]
    exact ih h.2
theorem setB_in {H : Heap} {nw : List (Nat × Blk)} {id : Nat} (h : id ∈ nw.map (·.1)) (hl : ∀ p ∈ nw, p.1 < H.length) : ∃ p ∈ nw, p.1 = id ∧ (setB H nw)[id]? = some (some p.2) := by
  induction nw with
  | nil => cases h
  | cons p r ih =>
    by_cases hp : p.1 = id
    · refine ⟨p, by simp, hp, ?_⟩
      rw [setB, ← hp, List.getElem?_set_self (by rw [setB_len]; exact hl p (by simp))]
    · have h2 : id ∈ r.map (·.1) := by
        rw [List.map_cons, List.mem_cons] at h
        rcases h with e | e
        · exact absurd e.symm hp
        · exact e
      obtain ⟨q, h3, h4, h5⟩ := ih h2 (fun q hq => hl q (by simp [hq]))
      exact ⟨q, by simp [h3], h4, by rw [setB, List.getElem?_set_ne hp]; exact h5⟩
def ownOk (nw : List (Nat × Blk)) (H : Heap) : Bool := nw.all fun p => p.2.rw && p.2.segs.all (Seg.lowB 0) && (match H[p.1]? with | some (some k) => k.rw | _ => false)
theorem own_of {nw : List (Nat × Blk)} {H : Heap} (h : ownOk nw H = true) : Own (nw.map (·.1)) H (setB H nw) := by
  simp only [ownOk, List.all_eq_true, Bool.and_eq_true] at h
  have old : ∀ p ∈ nw, ∃ k, H[p.1]? = some (some k) ∧ k.rw = true := by
    intro p hp
    have := (h p hp).2
    split at this
    · rename_i k hk; exact ⟨k, hk, this⟩
    · cases this
  refine ⟨fun id hid => ?_, fun id hid => ?_, fun id hid => setB_out hid⟩
  · obtain ⟨p, hp, rfl⟩ := List.mem_map.1 hid
    exact old p hp
  · obtain ⟨p, hp, _, e2⟩ := setB_in (H := H) hid (fun p hp => by obtain ⟨k, e, _⟩ := old p hp; exact (List.getElem?_eq_some_iff.1 e).1)
    exact ⟨p.2, e2, (h p hp).1.1, List.all_eq_true.2 (h p hp).1.2⟩
/-- **A region that draws its order**, one of whose operations writes. -/
theorem region_anyM {E : Env} {id : Nat} {ops : Array Oper} {Q : Exit → Act → World → Prop} {m k0 : Nat} (hmix : E.P.follows .mixedOrders = true) (hok : regionOk E.n ops = true) (hany : anyOk ops m = true) {la lb l2 : List Oper} {o : Oper} (hl : ops.toList = la ++ o :: (lb ++ l2)) (hk : la.length = k0) (hm : k0 + 1 + lb.length = m)
    {T Ta T1 T' : Tm} {H H1 Ha Hb H' : Heap} {v : AV} (hs : List Nat) (own : Own hs H H1) (hlen1 : H1.length = H.length) (hA : HSteps E.P ops la T (visH hs H) Ta Ha)
    (hg : Guard ops Ta o true) (hlow : ∀ x ∈ o.op.operands, (ev Ta x).lowB H.length = true) (hvl : v.lowB 0 = true) (hlH : H.all (fun | none => true | some k => k.segs.all (Seg.lowB H.length)) = true) (hM : MOk E.P o Ta (roH hs H) v (roH hs H1))
    (hB : HSteps E.P ops lb (put Ta o.dst v) Ha T1 Hb) (h2 : Steps E.P ops l2 T1 (H1 ++ Hb.drop H.length) T' H') {a : Act} {w : World} (hr : Rep E T H a w) (hQ : ∀ a' w', Rep E T' H' a' w' → Q .normal a' w') : (Code.region id ops true).wp E.P Q a w := by
  have hsz : ops.size = m + l2.length := by rw [← Array.length_toList, hl]; simp; omega
  have hget : ∀ j, ops[j]? = (la ++ o :: (lb ++ l2))[j]? := fun j => by rw [← Array.getElem?_toList, hl]
  have ho : ops[k0]? = some o := by rw [hget, ← hk]; simp
  have gA : ∀ j, j < la.length → la[j]? = ops[0 + j]? := fun j hj => by rw [Nat.zero_add, hget, List.getElem?_append_left hj]
  have gB : ∀ j, j < lb.length → lb[j]? = ops[k0 + 1 + j]? := fun j hj => by
    rw [hget, List.getElem?_append_right (by omega), show k0 + 1 + j - la.length = j + 1 by omega, List.getElem?_cons_succ, List.getElem?_append_left hj]
  obtain ⟨V1, N1, _, a2, a3, a4⟩ := trace' hA T (visH hs H) 0 (fun _ => .s .junk) (fun _ => []) gA rfl rfl
  rw [Nat.zero_add, hk] at a3 a4
  let V2 : Nat → AV := fun j => if j = k0 then v else V1 j
  let N2 : Nat → List Blk := fun j => if j = k0 then [] else N1 j
  have eT : Tk ops V2 T k0 = Ta := by rw [← a3]; exact Tk_congr fun j hj => by simp [V2, show j ≠ k0 by omega]
  have eH : Hk N2 (visH hs H) k0 = Ha := by rw [← a4]; exact Hk_congr fun j hj => by simp [N2, show j ≠ k0 by omega]
  obtain ⟨V, N, b1, b2, b3, b4⟩ := trace' hB T (visH hs H) (k0 + 1) V2 N2 gB (by simp only [Tk, eT, ho, Option.bind_some]; simp [V2]) (by simp only [Hk, eH]; simp [N2])
  rw [hm] at b3 b4
  have eTk : ∀ k, k ≤ k0 → Tk ops V T k = Tk ops V1 T k := fun k hk' => Tk_congr fun j hj => by rw [(b1 j (by omega)).1]; simp [V2, show j ≠ k0 by omega]
  have eHk : ∀ k, k ≤ k0 → Hk N (visH hs H) k = Hk N1 (visH hs H) k := fun k hk' => Hk_congr fun j hj => by rw [(b1 j (by omega)).2]; simp [N2, show j ≠ k0 by omega]
  have hvl' : V k0 = v := by rw [(b1 k0 (by omega)).1]; simp [V2]
  have hNl : N k0 = [] := by rw [(b1 k0 (by omega)).2]; simp [N2]
  have eTa : Tk ops V T k0 = Ta := by rw [eTk k0 (Nat.le_refl _), a3]
  have hstep : ∀ k, k < m → k ≠ k0 → StepOk E.P ops V N T (visH hs H) k := by
    intro k hk1 hk2
    rcases Nat.lt_or_gt_of_ne hk2 with h | h
    · have := a2 k (Nat.zero_le _) (by omega)
      unfold StepOk at this ⊢
      rw [eTk k (by omega), eHk k (by omega), (b1 k (by omega)).1, (b1 k (by omega)).2]
      simpa [V2, N2, hk2] using this
    · exact b2 k (by omega) (by omega)
  have hstepM : StepM E.P ops V N T H H1 k0 := ⟨o, hs, ho, hNl, by rw [eTa]; exact hg, by rw [eTa]; exact hlow, by rw [hvl']; exact hvl, hlH, own, by rw [eTa, hvl']; exact hM⟩
  have hHb : Hk N H1 m = H1 ++ Hb.drop H.length := by
    obtain ⟨R, hR⟩ := Hk_app N (Nat.zero_le m)
    simp only [Hk] at hR
    rw [hR] at b4
    rw [hR, ← b4, show H.length = (visH hs H).length by simp [visH], List.drop_left]
  refine wp_region_any hmix ?_
  refine head_anyM (k0 := k0) hok hany (by omega) (by omega) hlen1 (Hv := visH hs H) (by simp [visH]) (fun id k h => (visH_get h).2) (fun id k h => by rw [own.out id (visH_get h).1]; exact (visH_get h).2) hstep hstepM (l := l2) (fun j => ?_) (by omega) (by rw [b3, hHb]; exact h2) hQ ops.size (List.range m) _ a _ (fun j hj _ => List.mem_range.2 hj) (by simp; omega) hr.drew.invM
  rw [hget, List.getElem?_append_right (by omega), show m + j - la.length = (lb.length + j) + 1 by omega, List.getElem?_cons_succ, List.getElem?_append_right (by omega), Nat.add_sub_cancel_left]
/-! Short forms -/
def TG (P : Program) (ops : Array Oper) (l : List Oper) (T : Tm) (H : Heap) (F : Tm → Heap → Prop) : Prop := ∃ T1 H1, HSteps P ops l T H T1 H1 ∧ F T1 H1
section steps
variable {P : Program} {ops : Array Oper} {T : Tm} {H : Heap} {ty : TypeId} {pos : String} {af : Array Edge} {r : List Oper} {op : Op} {d : Nat} {F : Tm → Heap → Prop}
theorem g_nil (h : F T H) : TG P ops [] T H F := ⟨T, H, .nil, h⟩
theorem g_p {v : AV} (h : HOk P ⟨some d, op, ty, pos, af, none⟩ T H v []) (k : TG P ops r ((d, v) :: T) H F) : TG P ops (⟨some d, op, ty, pos, af, none⟩ :: r) T H F :=
  let ⟨T', H', k1, k2⟩ := k
  ⟨T', H', .cons (.free rfl) h (by simpa [put] using k1), k2⟩
theorem g_a {v : AV} {b : Blk} {H1 : Heap} (h : HOk P ⟨some d, op, ty, pos, af, none⟩ T H v [b]) (e : H ++ [some b] = H1) (k : TG P ops r ((d, v) :: T) H1 F) : TG P ops (⟨some d, op, ty, pos, af, none⟩ :: r) T H F :=
  let ⟨T', H', k1, k2⟩ := k
  ⟨T', H', .cons (.free rfl) h (by subst e; simpa [put] using k1), k2⟩
theorem g_on {j t : Nat} {b B : Bool} {v : AV} (ht : (ops[j]?).bind (·.dst) = some t) (hv : look T t = .s (.bool B)) (hB : B = b) (h : HOk P ⟨some d, op, ty, pos, af, some (j, b)⟩ T H v []) (k : TG P ops r ((d, v) :: T) H F) : TG P ops (⟨some d, op, ty, pos, af, some (j, b)⟩ :: r) T H F :=
  let ⟨T', H', k1, k2⟩ := k
  ⟨T', H', .cons (.on rfl ht hv hB) h (by simpa [put] using k1), k2⟩
end steps
theorem c_anyM {E : Env} {T : Tm} {H : Heap} {Q : Exit → Tm → Heap → Prop} {id : Nat} {ops : Array Oper} (m k0 : Nat) {la lb l2 : List Oper} {d : Nat} {op : Op} {ty : TypeId} {pos : String} {af : Array Edge} (nw : List (Nat × Blk)) {Hv Hr H1r H1 : Heap} (hmix : E.P.follows .mixedOrders = true) (hok : regionOk E.n ops = true) (hany : anyOk ops m = true)
    (hla : ops.toList.take k0 = la) (ho : ops[k0]? = some ⟨some d, op, ty, pos, af, none⟩) (hlb : (ops.toList.drop (k0 + 1)).take (m - k0 - 1) = lb) (hl2 : ops.toList.drop m = l2) (hkm : Nat.blt k0 m = true) (hms : Nat.ble m ops.size = true)
    (hvis : visH (nw.map (·.1)) H = Hv) (hro : roH (nw.map (·.1)) H = Hr) (hset : setB H nw = H1) (hro1 : roH (nw.map (·.1)) H1 = H1r) (hown : ownOk nw H = true) (hlH : H.all (fun | none => true | some k => k.segs.all (Seg.lowB H.length)) = true)
    (h : TG E.P ops la T Hv fun Ta Ha => ∃ v : AV, (op.operands.toList.all fun x => (ev Ta x).lowB H.length) = true ∧ v.lowB 0 = true ∧ MOk E.P ⟨some d, op, ty, pos, af, none⟩ Ta Hr v H1r ∧
      TG E.P ops lb ((d, v) :: Ta) Ha fun Tb Hb => SK E.P ops l2 Tb (H1 ++ Hb.drop H.length) (Q .normal)) : Wp E (.region id ops true) T H Q := by
  intro a w hr
  obtain ⟨Ta, Ha, hA, v, hlow, hvl, hM, Tb, Hb, hB, T', H', hS, hK⟩ := h
  have h1 : k0 < m := Nat.blt_eq.mp hkm
  have h2 : m ≤ ops.toList.length := by rw [Array.length_toList]; exact Nat.le_of_ble_eq_true hms
  have hd : ops.toList.drop k0 = ⟨some d, op, ty, pos, af, none⟩ :: ops.toList.drop (k0 + 1) := by
    rw [List.drop_eq_getElem_cons (by omega)]
    congr 1
    have : ops.toList[k0]? = some ⟨some d, op, ty, pos, af, none⟩ := by rw [Array.getElem?_toList]; exact ho
    exact (List.getElem?_eq_some_iff.1 this).2
  have hsp : ops.toList.drop (k0 + 1) = lb ++ l2 := by
    rw [← hlb, ← hl2]
    have := (List.take_append_drop (m - k0 - 1) (ops.toList.drop (k0 + 1))).symm
    rw [List.drop_drop, show k0 + 1 + (m - k0 - 1) = m by omega] at this
    exact this
  subst hvis; subst hro; subst hset; subst hro1
  refine region_anyM (k0 := k0) hmix hok hany (la := la) (lb := lb) (l2 := l2) (by rw [← hsp, ← hd, ← hla, List.take_append_drop]) (by rw [← hla, List.length_take]; omega) (by rw [← hlb, List.length_take, List.length_drop]; omega) _ (own_of hown) (setB_len _ _) hA (.free rfl) (fun x hx => ?_) hvl hlH hM (by simpa [put] using hB) hS hr fun _ _ hr' => ⟨T', H', hK, hr'⟩
  exact List.all_eq_true.1 hlow x (by simpa using hx)
end Go.Ab
end

section
/- Contracts of functions that write what they are handed, and hand back memory that holds addresses. No program. -/
namespace Go.Ab
/-! ### Other numbers for the same blocks -/
def SV.ren (f : Nat → Nat × Nat) : SV → SV
  | .ptr id base idx => .ptr (f id).1 (base + (f id).2) idx
  | .slice id base idx l c => .slice (f id).1 (base + (f id).2) idx l c
  | .slx id base idx l => .slx (f id).1 (base + (f id).2) idx l
  | .slf id base idx l q => .slf (f id).1 (base + (f id).2) idx l q
  | .clo g caps => .clo g (caps.map fun c => ((f c.1).1, c.2.1 + (f c.1).2, c.2.2))
  | x => x
def SV.idB (p : Nat → Bool) : SV → Bool
  | .ptr id _ _ => p id
  | .slice id _ _ _ _ => p id
  | .slx id _ _ _ => p id
  | .slf id _ _ _ _ => p id
  | .clo _ caps => caps.all fun c => p c.1
  | _ => true
def Seg.ren (f : Nat → Nat × Nat) : Seg → Seg
  | .one v => .one (v.ren f)
  | .ints k n l => .ints k n l
  | .svs n g => .svs n fun i => (g i).ren f
def Seg.idB (p : Nat → Bool) : Seg → Bool
  | .one v => v.idB p
  | .ints .. => true
  | .svs .. => false
def AV.ren (f : Nat → Nat × Nat) : AV → AV
  | .s v => .s (v.ren f)
  | .agg l => .agg (l.map (Seg.ren f))
  | .tup l => .tup (l.map fun | .s v => .s (v.ren f) | .agg l => .agg (l.map (Seg.ren f)) | .tup l => .tup l)
def AV.idB (p : Nat → Bool) : AV → Bool
  | .s v => v.idB p
  | .agg l => l.all (Seg.idB p)
  | .tup l => l.all fun | .s v => v.idB p | .agg l => l.all (Seg.idB p) | .tup _ => false
/-- What one calls so, the other one calls so. -/
def RenOk (p : Nat → Bool) (f : Nat → Nat × Nat) (ρ ρ' : Rho) : Prop := ∀ id b o, p id = true → ρ id = some (b, o) → ∃ o', ρ' (f id).1 = some (b, o') ∧ o = o' + (f id).2
theorem SV.rep_ren {p : Nat → Bool} {f : Nat → Nat × Nat} {ρ ρ' : Rho} (h : RenOk p f ρ ρ') {x : SV} {v : Value} (hp : x.idB p = true) (hr : x.rep ρ v) : (x.ren f).rep ρ' v := by
  cases x <;> simp only [SV.rep, SV.ren, SV.idB] at * <;> first
    | exact hr
    | (obtain ⟨b, o, h1, h2⟩ := hr
       obtain ⟨o', h3, h4⟩ := h _ _ _ hp h1
       exact ⟨b, o', h3, by rw [h2, h4]; simp [Nat.add_assoc, Nat.add_comm, Nat.add_left_comm]⟩)
    | (obtain ⟨b, o, c, h1, h2, h5⟩ := hr
       obtain ⟨o', h3, h4⟩ := h _ _ _ hp h1
       exact ⟨b, o', c, h3, by rw [h2, h4]; simp [Nat.add_assoc, Nat.add_comm, Nat.add_left_comm], h5⟩)
    | (obtain ⟨vs, h1, h2, h3⟩ := hr
       refine ⟨vs, h1, by simpa using h2, fun i c hc => ?_⟩
       simp only [List.getElem?_map, Option.map_eq_some_iff] at hc
       obtain ⟨c0, hc0, rfl⟩ := hc
       obtain ⟨b, o, h4, h5⟩ := h3 i c0 hc0
       obtain ⟨o', h6, h7⟩ := h _ _ _ (List.all_eq_true.1 hp c0 (List.mem_of_getElem? hc0)) h4
       exact ⟨b, o', h6, by rw [h5, h7]; simp [Nat.add_assoc, Nat.add_comm, Nat.add_left_comm]⟩)
theorem Seg.ren_size (f : Nat → Nat × Nat) (s : Seg) : (s.ren f).size = s.size := by cases s <;> rfl
theorem Seg.ren_at (f : Nat → Nat × Nat) (s : Seg) (i : Nat) : (s.ren f).at i = (s.at i).ren f := by cases s <;> rfl
theorem atS_ren (f : Nat → Nat × Nat) : ∀ (l : List Seg) (i : Nat), atS (l.map (Seg.ren f)) i = (atS l i).map (SV.ren f)
  | [], _ => rfl
  | s :: r, i => by
    simp only [List.map_cons, atS, Seg.ren_size, Seg.ren_at]
    by_cases h : i < s.size
    · simp [h]
    · simp only [h, if_false]; exact atS_ren f r _
theorem sizeS_ren (f : Nat → Nat × Nat) : ∀ l : List Seg, sizeS (l.map (Seg.ren f)) = sizeS l
  | [] => rfl
  | s :: r => by simp only [List.map_cons, sizeS, Seg.ren_size, sizeS_ren f r]
theorem atS_idB {p : Nat → Bool} : ∀ {l : List Seg} {i : Nat} {x : SV}, l.all (Seg.idB p) = true → atS l i = some x → x.idB p = true
  | [], _, _, _, h => by simp [atS] at h
  | s :: r, i, x, hb, h => by
    simp only [List.all_cons, Bool.and_eq_true] at hb
    simp only [atS] at h
    by_cases hi : i < s.size
    · rw [if_pos hi] at h
      have h := Option.some.inj h
      subst h
      cases s with
      | one v => exact hb.1
      | ints k m l => rfl
      | svs m f => simp [Seg.idB] at hb
    · rw [if_neg hi] at h
      exact atS_idB hb.2 h
theorem RowRep.ren {p : Nat → Bool} {f : Nat → Nat × Nat} {ρ ρ' : Rho} (h : RenOk p f ρ ρ') {l : List Seg} {g : Nat → Option Value} (hp : l.all (Seg.idB p) = true) (hr : RowRep ρ l g) : RowRep ρ' (l.map (Seg.ren f)) g := by
  intro i x hx
  rw [atS_ren] at hx
  obtain ⟨y, hy, rfl⟩ := Option.map_eq_some_iff.1 hx
  obtain ⟨v, h1, h2, h3⟩ := hr i y hy
  exact ⟨v, h1, SV.rep_ren h (atS_idB hp hy) h2, h3⟩
theorem AV.rep_ren {p : Nat → Bool} {f : Nat → Nat × Nat} {ρ ρ' : Rho} (h : RenOk p f ρ ρ') {x : AV} {v : Value} (hp : x.idB p = true) (hr : x.rep ρ v) : (x.ren f).rep ρ' v := by
  cases x with
  | s x => exact SV.rep_ren h hp hr
  | agg l => obtain ⟨cs, e1, e2, e3⟩ := hr; exact ⟨cs, e1, by rw [sizeS_ren]; exact e2, e3.ren h hp⟩
  | tup l =>
    obtain ⟨vs, e1, e2⟩ := hr
    simp only [AV.idB, List.all_eq_true] at hp
    refine ⟨vs, e1, fun i x hx => ?_⟩
    simp only [List.getElem?_map, Option.map_eq_some_iff] at hx
    obtain ⟨y, hy, rfl⟩ := hx
    obtain ⟨u, hu, hr⟩ := e2 i y hy
    have h2 := hp y (List.mem_of_getElem? hy)
    refine ⟨u, hu, ?_⟩
    cases y with
    | s y => exact SV.rep_ren h h2 hr
    | agg l => obtain ⟨cs, e1, e2, e3⟩ := hr; exact ⟨cs, e1, by rw [sizeS_ren]; exact e2, e3.ren h h2⟩
    | tup l => exact hr.elim

/-! ### The contract -/
/-- The callee's numbers, the caller's: what is handed in, then what is new. -/
def namesOf (σ : List (Nat × Nat)) (picks : List Nat) (n : Nat) (k : Nat) : Nat × Nat := match σ[k]? with
  | some x => x
  | none => (n + picks.idxOf k, 0)
def knownB (σ : List (Nat × Nat)) (picks : List Nat) (k : Nat) : Bool := Nat.blt k σ.length || picks.contains k
def Blk.ren (f : Nat → Nat × Nat) (b : Blk) : Blk := ⟨b.rw, b.segs.map (Seg.ren f)⟩
structure DoneM (E : Env) (fn : Func) (v : AV) (Hf : Heap) (e : Exit) (T : Tm) (H : Heap) : Prop where
  e : e = .ret ∨ e = .normal
  ret : Ret E fn T H v
  heap : ∀ (k : Nat) (b : Blk), Hf[k]? = some (some b) → H[k]? = some (some b)
/-- The caller's blocks, behind the call. -/
def afterH (σ : List (Nat × Nat)) (picks : List Nat) (n : Nat) (Hf : Heap) : List (Nat × Nat) → Nat → Heap → Heap
  | [], _, H => H
  | (id, _) :: r, k, H => afterH σ picks n Hf r (k + 1) (match Hf[k]? with
    | some (some b) => bif b.rw then H.set id (some (b.ren (namesOf σ picks n))) else H
    | _ => H)
def newH (σ : List (Nat × Nat)) (picks : List Nat) (n : Nat) (Hf : Heap) : Heap := picks.map fun k => (Hf[k]?.getD none).map (Blk.ren (namesOf σ picks n))
theorem afterH_len (σ : List (Nat × Nat)) (picks : List Nat) (n : Nat) (Hf : Heap) : ∀ (l : List (Nat × Nat)) (k : Nat) (H : Heap), (afterH σ picks n Hf l k H).length = H.length
  | [], _, _ => rfl
  | (id, sh) :: r, k, H => by
    rw [afterH, afterH_len σ picks n Hf r]
    split
    · rename_i b _
      cases b.rw <;> simp
    · rfl
/-- A block behind the call: the one that was, or what the callee has made of it. -/
theorem afterH_get (σ : List (Nat × Nat)) (picks : List Nat) (n : Nat) (Hf : Heap) : ∀ (l : List (Nat × Nat)) (k : Nat) (H : Heap) (id : Nat) (q : Blk), (afterH σ picks n Hf l k H)[id]? = some (some q) →
    (∃ j sh b, l[j]? = some (id, sh) ∧ Hf[k + j]? = some (some b) ∧ b.rw = true ∧ q = b.ren (namesOf σ picks n)) ∨ (H[id]? = some (some q) ∧ ∀ j sh b, l[j]? = some (id, sh) → Hf[k + j]? = some (some b) → b.rw = false)
  | [], _, _, _, _, h => .inr ⟨h, fun j sh b e => by simp at e⟩
  | (id0, sh0) :: r, k, H, id, q, h => by
    rw [afterH] at h
    rcases afterH_get σ picks n Hf r (k + 1) _ id q h with ⟨j, sh, b, h1, h2, h3, h4⟩ | ⟨h1, h2⟩
    · exact .inl ⟨j + 1, sh, b, by simpa using h1, by rw [show k + (j + 1) = k + 1 + j by omega]; exact h2, h3, h4⟩
    · have rest : ∀ (hh : ∀ b, Hf[k]? = some (some b) → id0 = id → b.rw = false), ∀ j sh b, ((id0, sh0) :: r)[j]? = some (id, sh) → Hf[k + j]? = some (some b) → b.rw = false := by
        intro hh j sh b e1 e2
        cases j with
        | zero => simp at e1; exact hh b e2 e1.1
        | succ j => exact h2 j sh b (by simpa using e1) (by rw [show k + 1 + j = k + (j + 1) by omega]; exact e2)
      split at h1
      · rename_i b hb
        cases hrw : b.rw with
        | false =>
          rw [hrw] at h1
          exact .inr ⟨h1, rest fun b' e _ => by rw [hb] at e; cases e; exact hrw⟩
        | true =>
          rw [hrw] at h1
          simp only [cond_true] at h1
          by_cases hid : id0 = id
          · subst hid
            by_cases hl : id0 < H.length
            · rw [List.getElem?_set_self hl] at h1
              exact .inl ⟨0, sh0, b, rfl, by simpa using hb, hrw, (Option.some.inj (Option.some.inj h1)).symm⟩
            · rw [List.getElem?_eq_none (by simp; omega)] at h1; cases h1
          · rw [List.getElem?_set_ne hid] at h1
            exact .inr ⟨h1, rest fun b' _ e => absurd e hid⟩
      · rename_i hno
        exact .inr ⟨h1, rest fun b e _ => absurd e (hno b)⟩
theorem SV.unren {σ : List (Nat × Nat)} {f : Nat → Nat × Nat} (hf : ∀ k, k < σ.length → σ[k]? = some (f k)) {ρ : Rho} {x : SV} {v : Value} (hp : x.idB (fun j => Nat.blt j σ.length) = true) (hr : (x.ren f).rep ρ v) : x.rep (foot ρ σ) v := by
  have key : ∀ k b o, Nat.blt k σ.length = true → ρ (f k).1 = some (b, o) → foot ρ σ k = some (b, o + (f k).2) := fun k b o h1 h2 => by
    simp [foot, hf k (Nat.blt_eq.mp h1), h2]
  cases x <;> simp only [SV.rep, SV.ren, SV.idB] at * <;> first
    | exact hr
    | (obtain ⟨b, o, h1, h2⟩ := hr
       exact ⟨b, _, key _ _ _ hp h1, by rw [h2]; simp [Nat.add_assoc, Nat.add_comm, Nat.add_left_comm]⟩)
    | (obtain ⟨b, o, c, h1, h2, h5⟩ := hr
       exact ⟨b, _, c, key _ _ _ hp h1, by rw [h2]; simp [Nat.add_assoc, Nat.add_comm, Nat.add_left_comm], h5⟩)
    | (obtain ⟨vs, h1, h2, h3⟩ := hr
       refine ⟨vs, h1, by simpa using h2, fun i c hc => ?_⟩
       obtain ⟨b, o, h4, h5⟩ := h3 i _ (by rw [List.getElem?_map, hc]; rfl)
       exact ⟨b, _, key _ _ _ (List.all_eq_true.1 hp c (List.mem_of_getElem? hc)) h4, by rw [h5]; simp [Nat.add_assoc, Nat.add_comm, Nat.add_left_comm]⟩)
theorem RowRep.unren {σ : List (Nat × Nat)} {f : Nat → Nat × Nat} (hf : ∀ k, k < σ.length → σ[k]? = some (f k)) {ρ : Rho} {l : List Seg} {g : Nat → Option Value} (hp : l.all (Seg.idB fun j => Nat.blt j σ.length) = true) (hr : ∀ i x, atS l i = some x → ∃ v, g i = some v ∧ (x.ren f).cell ρ v) : RowRep (foot ρ σ) l g := by
  intro i x hx
  obtain ⟨v, h1, h2, h3⟩ := hr i x hx
  exact ⟨v, h1, SV.unren hf (atS_idB hp hx) h2, h3⟩
theorem AV.unren {σ : List (Nat × Nat)} {f : Nat → Nat × Nat} (hf : ∀ k, k < σ.length → σ[k]? = some (f k)) {ρ : Rho} {x : AV} {v : Value} (hp : x.idB (fun j => Nat.blt j σ.length) = true) (hr : (x.ren f).rep ρ v) : x.rep (foot ρ σ) v := by
  cases x with
  | s x => exact SV.unren hf hp hr
  | agg l =>
    obtain ⟨cs, e1, e2, e3⟩ := hr
    refine ⟨cs, e1, by rw [sizeS_ren] at e2; exact e2, RowRep.unren hf hp fun i x hx => ?_⟩
    exact e3 i _ (by rw [atS_ren, hx]; rfl)
  | tup l =>
    obtain ⟨vs, e1, e2⟩ := hr
    simp only [AV.idB, List.all_eq_true] at hp
    refine ⟨vs, e1, fun i x hx => ?_⟩
    obtain ⟨u, hu, hr⟩ := e2 i _ (by rw [List.getElem?_map, hx]; rfl)
    have h2 := hp x (List.mem_of_getElem? hx)
    refine ⟨u, hu, ?_⟩
    cases x with
    | s y => exact SV.unren hf h2 hr
    | agg l =>
      obtain ⟨cs, e1, e2, e3⟩ := hr
      refine ⟨cs, e1, by rw [sizeS_ren] at e2; exact e2, RowRep.unren hf h2 fun i x hx => ?_⟩
      exact e3 i _ (by rw [atS_ren, hx]; rfl)
    | tup l => exact hr.elim
def idKnown (σ : List (Nat × Nat)) (picks : List Nat) (b : Blk) : Bool := b.segs.all (Seg.idB (knownB σ picks))
/-- What is asked of the callee's last heap: what was handed in to be written is told, and is to be written still; what is new is told. -/
def endOk (σ : List (Nat × Nat)) (picks : List Nat) (H0 Hf : Heap) : Bool :=
  ((List.range σ.length).all fun k => (match H0[k]? with | some (some b0) => !b0.rw || (match Hf[k]? with | some (some b) => b.rw && idKnown σ picks b | _ => false) | _ => true) &&
    (match Hf[k]? with | some (some b) => !b.rw || (match H0[k]? with | some (some b0) => b0.rw | _ => false) | _ => true)) &&
  picks.all fun p => Nat.ble σ.length p && (match Hf[p]? with | some (some b) => b.rw && idKnown σ picks b | _ => false)
theorem amut_gen {P : Program} {f : FuncId} {fn : Func} {c : Code} {n : Nat} {args0 args : List AV} {H0 H Hf H' : Heap} {v0 v : AV} (σ : List (Nat × Nat)) (picks : List Nat) (hf : P.funcs[f]? = some fn) (hb : fn.body = some c) (hn : fn.ntmps = n) (hl : args0.length ≤ n)
    (hσ : σ.length = H0.length)
    (hfoot : ∀ (k id sh : Nat) (b0 : Blk), σ[k]? = some (id, sh) → H0[k]? = some (some b0) → b0.segs.all (Seg.idB fun j => Nat.blt j σ.length) = true ∧ ∃ b : Blk, H[id]? = some (some b) ∧ (b0.rw = true → b.rw = true ∧ sh = 0) ∧ ∀ i x, atS b0.segs i = some x → atS b.segs (sh + i) = some (x.ren (namesOf σ picks H.length)))
    (honce : ∀ (k k' id sh sh' : Nat) (b0 : Blk), σ[k]? = some (id, sh) → σ[k']? = some (id, sh') → k ≠ k' → H0[k]? = some (some b0) → b0.rw = false)
    (hlive : ∀ (W : Nat → Prop) (ρ : Rho) (vals : Array Value) (w : World), HRep W ρ H w → ArgsRep ρ args vals → ∀ (k id sh : Nat), σ[k]? = some (id, sh) → ∃ x, ρ id = some x)
    (hargs : args0.map (AV.ren (namesOf σ picks H.length)) = args) (hargsB : args0.all (AV.idB fun j => Nat.blt j σ.length) = true)
    (hend : endOk σ picks H0 Hf = true) (hnd : picks.Nodup) (hvB : v0.idB (knownB σ picks) = true) (hv : v0.ren (namesOf σ picks H.length) = v) (hH' : afterH σ picks H.length Hf σ 0 H ++ newH σ picks H.length Hf = H')
    (h : ∀ W w ρ0 hW hdom, Wp ⟨P, W, w, ρ0, n, H0.length, hW, hdom⟩ c (argT 0 args0) H0 (DoneM ⟨P, W, w, ρ0, n, H0.length, hW, hdom⟩ fn v0 Hf)) : AMut P f H args v H' := by
  subst hn; subst hargs; subst hv; subst hH'
  generalize hg : namesOf σ picks H.length = g at *
  have gσ : ∀ k, k < σ.length → σ[k]? = some (g k) := fun k hk => by rw [← hg]; simp [namesOf, hk]
  simp only [endOk, Bool.and_eq_true, List.all_eq_true, List.mem_range] at hend
  have hup : ∀ (k : Nat) (b0 : Blk), H0[k]? = some (some b0) → b0.rw = true → ∃ b, Hf[k]? = some (some b) ∧ b.rw = true ∧ idKnown σ picks b = true := by
    intro k b0 e1 e2
    have hk : k < σ.length := by rw [hσ]; exact (List.getElem?_eq_some_iff.1 e1).1
    have := (hend.1 k hk).1
    rw [e1] at this
    simp only [e2, Bool.not_true, Bool.false_or] at this
    split at this
    · rename_i b hb'
      rw [Bool.and_eq_true] at this
      exact ⟨b, hb', this.1, this.2⟩
    · cases this
  have hdown : ∀ (k : Nat) (b : Blk), k < σ.length → Hf[k]? = some (some b) → b.rw = true → ∃ b0, H0[k]? = some (some b0) ∧ b0.rw = true := by
    intro k b hk e1 e2
    have := (hend.1 k hk).2
    rw [e1] at this
    simp only [e2, Bool.not_true, Bool.false_or] at this
    split at this
    · rename_i b0 hb0; exact ⟨b0, hb0, this⟩
    · cases this
  have hpk : ∀ p ∈ picks, σ.length ≤ p ∧ ∃ b, Hf[p]? = some (some b) ∧ b.rw = true ∧ idKnown σ picks b = true := by
    intro p hp
    have := hend.2 p hp
    refine ⟨Nat.le_of_ble_eq_true this.1, ?_⟩
    have := this.2
    split at this
    · rename_i b hb'
      rw [Bool.and_eq_true] at this
      exact ⟨b, hb', this.1, this.2⟩
    · cases this
  intro W ρ vals w hH hnone hW hrep
  have live := hlive W ρ vals w hH hrep
  let W' : Nat → Prop := fun b => w.heap.size ≤ b ∨ ∃ (k id sh : Nat) (b0 : Blk) (o : Nat), σ[k]? = some (id, sh) ∧ H0[k]? = some (some b0) ∧ b0.rw = true ∧ ρ id = some (b, o)
  have hW' : ∀ b, w.heap.size ≤ b → W' b := fun b hb => .inl hb
  have hWW : ∀ b, W' b → W b := by
    rintro b (h | ⟨k, id, sh, b0, o, e1, e2, e3, e4⟩)
    · exact hW b h
    · obtain ⟨_, bb, f1, f2, _⟩ := hfoot k id sh b0 e1 e2
      exact (hH.rep id b o bb e4 f1).2 (f2 e3).1
  have hdom : ∀ id, H0.length ≤ id → foot ρ σ id = none := fun id hid => by simp [foot, List.getElem?_eq_none (show σ.length ≤ id by omega)]
  have hfr : ∀ (k b o : Nat), foot ρ σ k = some (b, o) → ∃ id sh o', σ[k]? = some (id, sh) ∧ ρ id = some (b, o') ∧ o = o' + sh := by
    intro id b o e
    unfold foot at e
    cases hs : σ[id]? with
    | none => simp [hs] at e
    | some x =>
      obtain ⟨i, sh⟩ := x
      simp [hs] at e
      obtain ⟨a, o', h1, rfl, h2⟩ := e
      exact ⟨i, sh, o', rfl, h1, h2.symm⟩
  have hH0 : HRep W' (foot ρ σ) H0 w := by
    refine ⟨fun id b o e => ?_, fun k b o b0 e hk => ?_, fun k k' b o o' b0 b0' hne e e' hk hk' => ?_⟩
    · obtain ⟨i, sh, o', h1, h2, h3⟩ := hfr id b o e
      exact hH.lt _ _ _ h2
    · obtain ⟨id, sh, o', h1, h2, h3⟩ := hfr k b o e
      obtain ⟨f1, bb, f3, f2, f4⟩ := hfoot k id sh b0 h1 hk
      obtain ⟨⟨cells, t, fr, g1, g2, g3⟩, _⟩ := hH.rep id b o' bb h2 f3
      refine ⟨⟨cells, t, fr, g1, fun hr => g2 (f2 hr).1, RowRep.unren gσ f1 fun j x hx => ?_⟩, fun hr => .inr ⟨k, id, sh, b0, o', h1, hk, hr, h2⟩⟩
      obtain ⟨v, hv, hc⟩ := g3 _ _ (f4 j x hx)
      exact ⟨v, by show cells[o + j]? = some v; rw [h3, Nat.add_assoc]; exact hv, hc⟩
    · obtain ⟨id, sh, _, h1, h2, _⟩ := hfr k b o e
      obtain ⟨id', sh', _, h1', h2', _⟩ := hfr k' b o' e'
      obtain ⟨_, bb, f3, f2, _⟩ := hfoot k id sh b0 h1 hk
      obtain ⟨_, bb', f3', f2', _⟩ := hfoot k' id' sh' b0' h1' hk'
      by_cases hid : id = id'
      · subst hid
        exact ⟨honce k k' id sh sh' b0 h1 h1' hne hk, honce k' k id sh' sh b0' h1' h1 (Ne.symm hne) hk'⟩
      · have := hH.apart id id' b _ _ bb bb' hid h2 h2' f3 f3'
        constructor
        · cases hq : b0.rw with
          | false => rfl
          | true => rw [(f2 hq).1] at this; exact absurd this.1 (by simp)
        · cases hq : b0'.rw with
          | false => rfl
          | true => rw [(f2' hq).1] at this; exact absurd this.2 (by simp)
  refine calls_enter (W := W') (ρ0 := foot ρ σ) (H0 := H0) (args := args0) hf hb hW' hH0 hdom ⟨by rw [hrep.1, List.length_map], fun i x hx => ?_⟩ hl ((h W' w (foot ρ σ) hW' hdom).mono ?_)
  · exact AV.unren gσ (List.all_eq_true.1 hargsB x (List.mem_of_getElem? hx)) (hrep.2 i _ (by rw [List.getElem?_map, hx]; rfl))
  · rintro e T H1 ⟨he, hret, hheap⟩
    refine ⟨he, _, hret, fun v' ρ' w' h1 h2 h3 h4 h5 => ?_⟩
    let ρ'' : Rho := fun id => if H.length ≤ id ∧ id < H.length + picks.length then (picks[id - H.length]?).bind ρ' else ρ id
    have hnew : ∀ i, i < picks.length → ρ'' (H.length + i) = (picks[i]?).bind ρ' := fun i hi => by
      simp only [ρ'']
      rw [if_pos ⟨by omega, by omega⟩, Nat.add_sub_cancel_left]
    have hold : ∀ id, id < H.length → ρ'' id = ρ id := fun id hid => by simp only [ρ'']; rw [if_neg (by omega)]
    have hlen : (afterH σ picks H.length Hf σ 0 H ++ newH σ picks H.length Hf).length = H.length + picks.length := by simp [afterH_len, newH]
    have hren : RenOk (knownB σ picks) g ρ' ρ'' := by
      intro k b o hk hρ
      by_cases hks : k < σ.length
      · have e1 := gσ k hks
        obtain ⟨⟨b1, o1⟩, hx⟩ := live k (g k).1 (g k).2 (by rw [e1])
        have e2 : foot ρ σ k = some (b1, o1 + (g k).2) := by simp [foot, e1, hx]
        have e3 := h2 k _ e2
        rw [hρ] at e3
        cases e3
        have hlt : (g k).1 < H.length := by
          rcases Nat.lt_or_ge (g k).1 H.length with h | h
          · exact h
          · rw [hnone _ h] at hx; cases hx
        exact ⟨o1, by rw [hold _ hlt]; exact hx, rfl⟩
      · simp only [knownB, Bool.or_eq_true, Nat.blt_eq] at hk
        have hm : k ∈ picks := by
          rcases hk with h | h
          · exact absurd h hks
          · simpa using h
        have hi := List.idxOf_lt_length_of_mem hm
        have e1 : g k = (H.length + picks.idxOf k, 0) := by rw [← hg]; simp [namesOf, List.getElem?_eq_none (show σ.length ≤ k by omega)]
        refine ⟨o, ?_, by rw [e1]; simp⟩
        rw [e1, hnew _ hi]
        have : picks[picks.idxOf k]? = some k := by simp [hi]
        rw [this]; exact hρ
    have brep : ∀ {k : Nat} {b o : Nat} {q : Blk}, ρ' k = some (b, o) → Hf[k]? = some (some q) → idKnown σ picks q = true → BRep ρ'' (q.ren g) w' b o := by
      intro k b o q e1 e2 e3
      obtain ⟨⟨cells, t, fr, g1, g2, g3⟩, _⟩ := h3.rep k b o q e1 (hheap k q e2)
      exact ⟨cells, t, fr, g1, g2, g3.ren hren e3⟩
    -- a new block to be written lies in new memory
    have fresh : ∀ (p b o : Nat), p ∈ picks → ρ' p = some (b, o) → w.heap.size ≤ b := by
      intro p b o hp hρ
      obtain ⟨hps, q, e1, e2, _⟩ := hpk p hp
      rcases (h3.rep p b o q hρ (hheap p q e1)).2 e2 with h | ⟨k, id, sh, b0, o1, s1, s2, s3, s4⟩
      · exact h
      · obtain ⟨q', f1, f2, _⟩ := hup k b0 s2 s3
        have hks : k < σ.length := (List.getElem?_eq_some_iff.1 s1).1
        have e4 : foot ρ σ k = some (b, o1 + sh) := by simp [foot, s1, s4]
        have := h3.apart k p b _ o q' q (by omega) (h2 k _ e4) hρ (hheap k q' f1) (hheap p q e1)
        rw [f2] at this; exact absurd this.1 (by simp)
    -- an old block behind the call
    have oldB : ∀ (id b o : Nat) (q : Blk), id < H.length → ρ id = some (b, o) → (afterH σ picks H.length Hf σ 0 H)[id]? = some (some q) → BRep ρ'' q w' b o ∧ ∃ q0, H[id]? = some (some q0) ∧ (q.rw = true → q0.rw = true) := by
      intro id b o q hid hρ hq
      rcases afterH_get σ picks H.length Hf σ 0 H id q hq with ⟨j, sh, b1, s1, s2, s3, rfl⟩ | ⟨s1, s2⟩
      · rw [Nat.zero_add] at s2
        have hj : j < σ.length := (List.getElem?_eq_some_iff.1 s1).1
        obtain ⟨b0, t1, t2⟩ := hdown j b1 hj s2 s3
        obtain ⟨_, bb, f1, f2, _⟩ := hfoot j id sh b0 s1 t1
        obtain ⟨f3, f4⟩ := f2 t2
        subst f4
        obtain ⟨q', u1, _, u3⟩ := hup j b0 t1 t2
        rw [s2] at u1
        cases u1
        have e4 : foot ρ σ j = some (b, o) := by simp [foot, s1, hρ]
        rw [hg]
        exact ⟨brep (h2 j _ e4) s2 u3, bb, f1, fun _ => f3⟩
      · have hr := hH.rep id b o q hρ s1
        refine ⟨?_, q, s1, fun e => e⟩
        have hsame : w'.heap[b]? = w.heap[b]? := by
          refine h5.block b (hH.lt id b o hρ) ?_
          rintro (h | ⟨k, id', sh, b0, o1, t1, t2, t3, t4⟩)
          · have := hH.lt id b o hρ; omega
          · obtain ⟨_, bb, f1, f2, _⟩ := hfoot k id' sh b0 t1 t2
            by_cases hi : id = id'
            · subst hi
              obtain ⟨q', u1, u2, _⟩ := hup k b0 t2 t3
              have := s2 k sh q' t1 (by rw [Nat.zero_add]; exact u1)
              rw [u2] at this; cases this
            · have := hH.apart id id' b o o1 q bb hi hρ t4 s1 f1
              rw [(f2 t3).1] at this; exact absurd this.2 (by simp)
        refine (hr.1.world hsame).le fun i x hx => ?_
        have : i < H.length := by
          rcases Nat.lt_or_ge i H.length with h | h
          · exact h
          · rw [hnone i h] at hx; cases hx
        rw [hold i this]; exact hx
    have newB : ∀ (i : Nat) (q : Blk), (newH σ picks H.length Hf)[i]? = some (some q) → ∃ (p : Nat) (q0 : Blk), picks[i]? = some p ∧ Hf[p]? = some (some q0) ∧ q = q0.ren g ∧ p ∈ picks := by
      intro i q hq
      simp only [newH, List.getElem?_map, Option.map_eq_some_iff] at hq
      obtain ⟨p, hp, hq⟩ := hq
      obtain ⟨_, q0, e1, _, _⟩ := hpk p (List.mem_of_getElem? hp)
      rw [e1] at hq
      simp at hq
      exact ⟨p, q0, hp, e1, by rw [← hg]; exact hq.symm, List.mem_of_getElem? hp⟩
    have split' : ∀ (id b o : Nat) (q : Blk), ρ'' id = some (b, o) → (afterH σ picks H.length Hf σ 0 H ++ newH σ picks H.length Hf)[id]? = some (some q) →
        (id < H.length ∧ ρ id = some (b, o) ∧ (afterH σ picks H.length Hf σ 0 H)[id]? = some (some q)) ∨ (∃ (p : Nat) (q0 : Blk), id = H.length + (id - H.length) ∧ picks[id - H.length]? = some p ∧ ρ' p = some (b, o) ∧ Hf[p]? = some (some q0) ∧ q = q0.ren g ∧ p ∈ picks) := by
      intro id b o q hρ hq
      by_cases hid : id < H.length
      · rw [List.getElem?_append_left (by rw [afterH_len]; exact hid)] at hq
        rw [hold id hid] at hρ
        exact .inl ⟨hid, hρ, hq⟩
      · rw [List.getElem?_append_right (by rw [afterH_len]; omega), afterH_len] at hq
        obtain ⟨p, q0, e1, e2, e3, e4⟩ := newB _ q hq
        have hi : id - H.length < picks.length := (List.getElem?_eq_some_iff.1 e1).1
        have hh := hnew _ hi
        rw [show H.length + (id - H.length) = id by omega, hρ, e1] at hh
        exact .inr ⟨p, q0, by omega, e1, hh.symm, e2, e3, e4⟩
    refine ⟨v', ρ'', rfl, fun id hid => ?_, fun id x hx => ?_, ⟨fun id b o hρ => ?_, fun id b o q hρ hq => ?_, fun id id' b o o' q q' hne hρ hρ' hq hq' => ?_⟩, ⟨h5.os, h5.tape, h5.output, h5.size, fun k hk hn => h5.block k hk fun h => hn (hWW k h), h5.others⟩, AV.rep_ren hren hvB h1⟩
    · rw [hlen] at hid
      simp only [ρ'']
      rw [if_neg (by omega)]
      exact hnone id (by omega)
    · have : id < H.length := by
        rcases Nat.lt_or_ge id H.length with h | h
        · exact h
        · rw [hnone id h] at hx; cases hx
      rw [hold id this]; exact hx
    · by_cases hid : H.length ≤ id ∧ id < H.length + picks.length
      · have hh := hnew (id - H.length) (by omega)
        rw [show H.length + (id - H.length) = id by omega, hρ] at hh
        cases hp : picks[id - H.length]? with
        | none => rw [hp] at hh; cases hh
        | some p => rw [hp] at hh; exact h3.lt p b o hh.symm
      · simp only [ρ''] at hρ
        rw [if_neg hid] at hρ
        exact Nat.lt_of_lt_of_le (hH.lt id b o hρ) h5.size
    · rcases split' id b o q hρ hq with ⟨s1, s2, s3⟩ | ⟨p, q0, s1, s2, s3, s4, rfl, s6⟩
      · obtain ⟨t1, q0, t2, t3⟩ := oldB id b o q s1 s2 s3
        exact ⟨t1, fun e => (hH.rep id b o q0 s2 t2).2 (t3 e)⟩
      · obtain ⟨_, q1, u1, u2, u3⟩ := hpk p s6
        rw [s4] at u1
        cases u1
        exact ⟨brep s3 s4 u3, fun _ => hW b (fresh p b o s6 s3)⟩
    · rcases split' id b o q hρ hq with ⟨s1, s2, s3⟩ | ⟨p, q0, s1, s2, s3, s4, rfl, s6⟩ <;> rcases split' id' b o' q' hρ' hq' with ⟨s1', s2', s3'⟩ | ⟨p', q0', s1', s2', s3', s4', rfl, s6'⟩
      · obtain ⟨_, q0, t2, t3⟩ := oldB id b o q s1 s2 s3
        obtain ⟨_, q0', t2', t3'⟩ := oldB id' b o' q' s1' s2' s3'
        have := hH.apart id id' b o o' q0 q0' hne s2 s2' t2 t2'
        constructor
        · cases hb : q.rw with
          | false => rfl
          | true => rw [t3 hb] at this; exact absurd this.1 (by simp)
        · cases hb : q'.rw with
          | false => rfl
          | true => rw [t3' hb] at this; exact absurd this.2 (by simp)
      · have := fresh p' b o' s6' s3'
        have := hH.lt id b o s2
        omega
      · have := fresh p b o s6 s3
        have := hH.lt id' b o' s2'
        omega
      · have hpp : p ≠ p' := by
          intro e
          subst e
          have q1 := (List.getElem?_eq_some_iff.1 s2)
          have q2 := (List.getElem?_eq_some_iff.1 s2')
          have := (List.getElem_inj (h₀ := q1.1) (h₁ := q2.1) hnd).1 (q1.2.trans q2.2.symm)
          omega
        have := h3.apart p p' b o o' q0 q0' hpp s3 s3' (hheap p q0 s4) (hheap p' q0' s4')
        exact this
def pickOk (σ : List (Nat × Nat)) (picks : List Nat) (Hf : Heap) : Bool := picks.all fun p => Nat.ble σ.length p && (match Hf[p]? with | some (some b) => b.rw && idKnown σ picks b | _ => false)
/-- A function that writes nothing of what it is handed. -/
theorem acall_gen2 {P : Program} {f : FuncId} {fn : Func} {c : Code} {n : Nat} {args0 args : List AV} {H0 H Hf : Heap} {nb : List Blk} {v0 v : AV} (σ : List (Nat × Nat)) (picks : List Nat) (hf : P.funcs[f]? = some fn) (hb : fn.body = some c) (hn : fn.ntmps = n) (hl : args0.length ≤ n)
    (hσ : σ.length = H0.length)
    (hfoot : ∀ (k id sh : Nat) (b0 : Blk), σ[k]? = some (id, sh) → H0[k]? = some (some b0) → b0.rw = false ∧ b0.segs.all (Seg.idB fun j => Nat.blt j σ.length) = true ∧ ∃ b : Blk, H[id]? = some (some b) ∧ ∀ i x, atS b0.segs i = some x → atS b.segs (sh + i) = some (x.ren (namesOf σ picks H.length)))
    (hlive : ∀ (W : Nat → Prop) (ρ : Rho) (vals : Array Value) (w : World), HRep W ρ H w → ArgsRep ρ args vals → ∀ (k id sh : Nat), σ[k]? = some (id, sh) → id < H.length ∧ ∃ x, ρ id = some x)
    (hargs : args0.map (AV.ren (namesOf σ picks H.length)) = args) (hargsB : args0.all (AV.idB fun j => Nat.blt j σ.length) = true)
    (hend : pickOk σ picks Hf = true) (hnd : picks.Nodup) (hvB : v0.idB (knownB σ picks) = true) (hv : v0.ren (namesOf σ picks H.length) = v) (hnb : newH σ picks H.length Hf = nb.map some)
    (h : ∀ W w ρ0 hW hdom, Wp ⟨P, W, w, ρ0, n, H0.length, hW, hdom⟩ c (argT 0 args0) H0 (DoneM ⟨P, W, w, ρ0, n, H0.length, hW, hdom⟩ fn v0 Hf)) : ACall P f H args v nb := by
  subst hn; subst hargs; subst hv
  generalize hg : namesOf σ picks H.length = g at *
  have gσ : ∀ k, k < σ.length → σ[k]? = some (g k) := fun k hk => by rw [← hg]; simp [namesOf, hk]
  have hnl : nb.length = picks.length := by have := congrArg List.length hnb; simpa [newH] using this.symm
  simp only [pickOk, List.all_eq_true, Bool.and_eq_true] at hend
  have hpk : ∀ p ∈ picks, σ.length ≤ p ∧ ∃ b, Hf[p]? = some (some b) ∧ b.rw = true ∧ idKnown σ picks b = true := by
    intro p hp
    have := hend p hp
    refine ⟨Nat.le_of_ble_eq_true this.1, ?_⟩
    have := this.2
    split at this
    · rename_i b hb'
      rw [Bool.and_eq_true] at this
      exact ⟨b, hb', this.1, this.2⟩
    · cases this
  intro W ρ vals w hH hnone hrep
  rw [hnl] at hnone
  have live := hlive W ρ vals w hH hrep
  let W' : Nat → Prop := fun b => w.heap.size ≤ b
  have hW' : ∀ b, w.heap.size ≤ b → W' b := fun b hb => hb
  have hdom : ∀ id, H0.length ≤ id → foot ρ σ id = none := fun id hid => by simp [foot, List.getElem?_eq_none (show σ.length ≤ id by omega)]
  have hfr : ∀ (k b o : Nat), foot ρ σ k = some (b, o) → ∃ id sh o', σ[k]? = some (id, sh) ∧ ρ id = some (b, o') ∧ o = o' + sh := by
    intro id b o e
    unfold foot at e
    cases hs : σ[id]? with
    | none => simp [hs] at e
    | some x =>
      obtain ⟨i, sh⟩ := x
      simp [hs] at e
      obtain ⟨a, o', h1, rfl, h2⟩ := e
      exact ⟨i, sh, o', rfl, h1, h2.symm⟩
  have hH0 : HRep W' (foot ρ σ) H0 w := by
    refine ⟨fun id b o e => ?_, fun k b o b0 e hk => ?_, fun k k' b o o' b0 b0' hne e e' hk hk' => ?_⟩
    · obtain ⟨i, sh, o', h1, h2, h3⟩ := hfr id b o e
      exact hH.lt _ _ _ h2
    · obtain ⟨id, sh, o', h1, h2, h3⟩ := hfr k b o e
      obtain ⟨f0, f1, bb, f3, f4⟩ := hfoot k id sh b0 h1 hk
      obtain ⟨⟨cells, t, fr, g1, g2, g3⟩, _⟩ := hH.rep id b o' bb h2 f3
      refine ⟨⟨cells, t, fr, g1, fun hr => (by rw [f0] at hr; cases hr), RowRep.unren gσ f1 fun j x hx => ?_⟩, fun hr => (by rw [f0] at hr; cases hr)⟩
      obtain ⟨v, hv, hc⟩ := g3 _ _ (f4 j x hx)
      exact ⟨v, by show cells[o + j]? = some v; rw [h3, Nat.add_assoc]; exact hv, hc⟩
    · obtain ⟨id, sh, _, h1, h2, _⟩ := hfr k b o e
      obtain ⟨id', sh', _, h1', h2', _⟩ := hfr k' b o' e'
      exact ⟨(hfoot k id sh b0 h1 hk).1, (hfoot k' id' sh' b0' h1' hk').1⟩
  refine calls_enter (W := W') (ρ0 := foot ρ σ) (H0 := H0) (args := args0) hf hb hW' hH0 hdom ⟨by rw [hrep.1, List.length_map], fun i x hx => ?_⟩ hl ((h W' w (foot ρ σ) hW' hdom).mono ?_)
  · exact AV.unren gσ (List.all_eq_true.1 hargsB x (List.mem_of_getElem? hx)) (hrep.2 i _ (by rw [List.getElem?_map, hx]; rfl))
  · rintro e T H1 ⟨he, hret, hheap⟩
    refine ⟨he, _, hret, fun v' ρ' w' h1 h2 h3 h4 h5 => ?_⟩
    have hext : Ext w w' := ⟨h5.os, h5.tape, h5.output, h5.size, fun k hk => h5.block k hk (by simp [W']; omega)⟩
    let ρ'' : Rho := fun id => if H.length ≤ id ∧ id < H.length + picks.length then (picks[id - H.length]?).bind ρ' else ρ id
    have hnew : ∀ i, i < picks.length → ρ'' (H.length + i) = (picks[i]?).bind ρ' := fun i hi => by
      simp only [ρ'']
      rw [if_pos ⟨by omega, by omega⟩, Nat.add_sub_cancel_left]
    have hold : ∀ id, id < H.length → ρ'' id = ρ id := fun id hid => by simp only [ρ'']; rw [if_neg (by omega)]
    have hren : RenOk (knownB σ picks) g ρ' ρ'' := by
      intro k b o hk hρ
      by_cases hks : k < σ.length
      · have e1 := gσ k hks
        obtain ⟨hlt, ⟨b1, o1⟩, hx⟩ := live k (g k).1 (g k).2 (by rw [e1])
        have e2 : foot ρ σ k = some (b1, o1 + (g k).2) := by simp [foot, e1, hx]
        have e3 := h2 k _ e2
        rw [hρ] at e3
        cases e3
        exact ⟨o1, by rw [hold _ hlt]; exact hx, rfl⟩
      · simp only [knownB, Bool.or_eq_true, Nat.blt_eq] at hk
        have hm : k ∈ picks := by
          rcases hk with h | h
          · exact absurd h hks
          · simpa using h
        have hi := List.idxOf_lt_length_of_mem hm
        have e1 : g k = (H.length + picks.idxOf k, 0) := by rw [← hg]; simp [namesOf, List.getElem?_eq_none (show σ.length ≤ k by omega)]
        refine ⟨o, ?_, by rw [e1]; simp⟩
        rw [e1, hnew _ hi]
        have : picks[picks.idxOf k]? = some k := by simp [hi]
        rw [this]; exact hρ
    have fresh : ∀ (p b o : Nat), p ∈ picks → ρ' p = some (b, o) → w.heap.size ≤ b := by
      intro p b o hp hρ
      obtain ⟨hps, q, e1, e2, _⟩ := hpk p hp
      exact (h3.rep p b o q hρ (hheap p q e1)).2 e2
    have newB : ∀ (i : Nat) (q : Blk), nb[i]? = some q → ∃ (p : Nat) (q0 : Blk), picks[i]? = some p ∧ Hf[p]? = some (some q0) ∧ q = q0.ren g ∧ p ∈ picks := by
      intro i q hq
      have hq : (newH σ picks H.length Hf)[i]? = some (some q) := by rw [hnb, List.getElem?_map, hq]; rfl
      simp only [newH, List.getElem?_map, Option.map_eq_some_iff] at hq
      obtain ⟨p, hp, hq⟩ := hq
      obtain ⟨_, q0, e1, _, _⟩ := hpk p (List.mem_of_getElem? hp)
      rw [e1] at hq
      simp at hq
      exact ⟨p, q0, hp, e1, by rw [← hg]; exact hq.symm, List.mem_of_getElem? hp⟩
    have pickOf : ∀ (id b o : Nat), H.length ≤ id → id < H.length + picks.length → ρ'' id = some (b, o) → ∃ p, picks[id - H.length]? = some p ∧ p ∈ picks ∧ ρ' p = some (b, o) := by
      intro id b o h1 h2 hρ
      have hh := hnew (id - H.length) (by omega)
      rw [show H.length + (id - H.length) = id by omega, hρ] at hh
      cases hp : picks[id - H.length]? with
      | none => rw [hp] at hh; cases hh
      | some p => rw [hp] at hh; exact ⟨p, rfl, List.mem_of_getElem? hp, hh.symm⟩
    refine ⟨v', ρ'', rfl, ⟨fun id x hx => ?_, hext, fun id b o hρ => ?_, fun i q hq b o hρ => ?_, fun id id' b o o' a1 a2 a3 a4 hρ hρ' => ?_⟩, AV.rep_ren hren hvB h1⟩
    · simp only [ρ'']
      by_cases hid : H.length ≤ id ∧ id < H.length + picks.length
      · have := hnone (id - H.length) (by omega)
        rw [show H.length + (id - H.length) = id by omega, hx] at this
        cases this
      · rw [if_neg hid]; exact hx
    · by_cases hid : H.length ≤ id ∧ id < H.length + picks.length
      · obtain ⟨p, _, hp, hρ'⟩ := pickOf id b o hid.1 hid.2 hρ
        exact .inr ⟨hid.1, by omega, fresh p b o hp hρ', h3.lt p b o hρ'⟩
      · simp only [ρ''] at hρ
        rw [if_neg hid] at hρ; exact .inl hρ
    · obtain ⟨p, q0, e1, e2, rfl, e4⟩ := newB i q hq
      have hi : i < picks.length := (List.getElem?_eq_some_iff.1 e1).1
      rw [hnew i hi, e1] at hρ
      have hρ : ρ' p = some (b, o) := hρ
      obtain ⟨_, q1, u1, u2, u3⟩ := hpk p e4
      rw [e2] at u1
      cases u1
      obtain ⟨⟨cells, t, fr, g1, g2, g3⟩, _⟩ := h3.rep p b o q0 hρ (hheap p q0 e2)
      exact ⟨cells, t, fr, g1, g2, g3.ren hren u3⟩
    · obtain ⟨p, e1, e2, e3⟩ := pickOf id b o a1 (by omega) hρ
      obtain ⟨p', e1', e2', e3'⟩ := pickOf id' b o' a3 (by omega) hρ'
      apply Classical.byContradiction
      intro hne
      have hpp : p ≠ p' := by
        intro e
        subst e
        have q1 := (List.getElem?_eq_some_iff.1 e1)
        have q2 := (List.getElem?_eq_some_iff.1 e1')
        have := (List.getElem_inj (h₀ := q1.1) (h₁ := q2.1) hnd).1 (q1.2.trans q2.2.symm)
        omega
      obtain ⟨_, q, f1, f2, _⟩ := hpk p e2
      obtain ⟨_, q', f1', f2', _⟩ := hpk p' e2'
      have := h3.apart p p' b o o' q q' hpp e3 e3' (hheap p q f1) (hheap p' q' f1')
      rw [f2] at this; exact absurd this.1 (by simp)
end Go.Ab
end
