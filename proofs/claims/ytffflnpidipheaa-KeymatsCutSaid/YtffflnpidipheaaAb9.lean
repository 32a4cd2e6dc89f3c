/- More rules: scopes, slices made and cut, min, max. -/
import Derived.Test.YtffflnpidipheaaAb8
import Derived.Scope
namespace Go.Ab

def Sco (Q : Exit → Tm → Heap → Prop) : Exit → Tm → Heap → Prop
  | .goto _, _, _ => False
  | e, T, H => Q e T H
section code
variable {E : Env} {T : Tm} {H : Heap} {Q : Exit → Tm → Heap → Prop}
theorem w_scope {c : Code} (h : Wp E c T H (Sco Q)) : Wp E (.scope c) T H Q := by
  intro a w hr
  refine wp_scope_straight (wp_mono (h a w hr) ?_)
  rintro e a' w' ⟨T', H', h1, h2⟩
  cases e with
  | goto l => exact h1.elim
  | normal => exact ⟨T', H', h1, h2⟩
  | exit j => exact ⟨T', H', h1, h2⟩
  | ret => exact ⟨T', H', h1, h2⟩
  | panic ch => exact ⟨T', H', h1, h2⟩
  | outgrown => exact ⟨T', H', h1, h2⟩
theorem n_sco (h : Q .normal T H) : Sco Q .normal T H := h
theorem x_sco {i : Nat} (h : Q (.exit i) T H) : Sco Q (.exit i) T H := h
theorem r_sco (h : Q .ret T H) : Sco Q .ret T H := h
/-- Two ways that meet again: what is told there. -/
theorem w_cut {x y : Code} (J : Tm → Heap → Prop) (h1 : Wp E x T H (Thn (fun T1 H1 => ∃ T2 H2, Weak E T1 H1 T2 H2 ∧ J T2 H2) Q)) (h2 : ∀ T H, J T H → Wp E y T H Q) : Wp E (.seq x y) T H Q := by
  refine w_seq (h1.mono ?_)
  rintro e T1 H1 he
  cases e with
  | normal => obtain ⟨T2, H2, k1, k2⟩ := he; exact w_weak k1 (h2 T2 H2 k2)
  | exit i => exact he
  | goto l => exact he
  | ret => exact he
  | panic ch => exact he
  | outgrown => exact he
theorem w_cut' {x y : Code} (J : Tm → Heap → Prop) (h1 : Wp E x T H (Thn (fun T1 H1 => ∃ T2 H2, Weak E T1 H1 T2 H2 ∧ J T2 H2) Q)) (h2 : ∀ T H, J T H → Wp E y T H Q) : Wp E x T H (Thn (fun T H => Wp E y T H Q) Q) := by
  refine h1.mono ?_
  rintro e T1 H1 he
  cases e with
  | normal => obtain ⟨T2, H2, k1, k2⟩ := he; exact w_weak k1 (h2 T2 H2 k2)
  | exit i => exact he
  | goto l => exact he
  | ret => exact he
  | panic ch => exact he
  | outgrown => exact he
theorem n_cut {J : Tm → Heap → Prop} {T2 : Tm} {H2 : Heap} (hJ : J T2 H2) (hw : Weak E T H T2 H2) : Thn (fun T1 H1 => ∃ T2 H2, Weak E T1 H1 T2 H2 ∧ J T2 H2) Q .normal T H := ⟨T2, H2, hw, hJ⟩
end code

/-! A region of few operations, order by order. -/
def AnyK (E : Env) (ops : Array Oper) (Q : Exit → Tm → Heap → Prop) (fuel : Nat) (listed : Array Bool) (T : Tm) (H : Heap) : Prop :=
  ∀ a w, Rep E T H a w → wpAny E.P .any ops (fun e a' w' => ∃ T' H', Q e T' H' ∧ Rep E T' H' a' w') fuel listed a w
section anyk
variable {E : Env} {ops : Array Oper} {Q : Exit → Tm → Heap → Prop} {T : Tm} {H : Heap}
theorem c_all {id : Nat} {n : Nat} (hmix : E.P.follows .mixedOrders = true) (hn : ops.size = n) (h : AnyK E ops Q n (Array.replicate n false) T H) : Wp E (.region id ops true) T H Q := by
  subst hn
  exact fun a w hr => wp_region_any hmix (h a _ hr.drew)
theorem ak_done {fuel : Nat} {listed : Array Bool} (hr : Region.ready .any ops listed = []) (h : Q .normal T H) : AnyK E ops Q fuel listed T H := fun _ _ hrep => wpAny_done hr ⟨T, H, h, hrep⟩ fuel
theorem ak_op {fuel i : Nat} {listed : Array Bool} {o : Oper} {v : AV} {H1 : Heap} (ho : ops[i]? = some o) (hok : opOk E.n o = true) (hg : o.guard = none) (h : MOk E.P o T H v H1) (k : AnyK E ops Q fuel (listed.setIfInBounds i true) (put T o.dst v) H1) :
    ∀ a w, Rep E T H a w → wpOp E.P ops (fun e a' w' => ∃ T' H', Q e T' H' ∧ Rep E T' H' a' w') i (wpAny E.P .any ops (fun e a' w' => ∃ T' H', Q e T' H' ∧ Rep E T' H' a' w') fuel (listed.setIfInBounds i true)) a w :=
  fun _ _ hr => step_mok ho hok (fun j b t e _ => by rw [hg] at e; cases e) (.free hg) h hr (fun a' w' hr' => k a' w' hr')
theorem ak_one {fuel i : Nat} {listed : Array Bool} (hr : Region.ready .any ops listed = [i])
    (h : ∀ a w, Rep E T H a w → wpOp E.P ops (fun e a' w' => ∃ T' H', Q e T' H' ∧ Rep E T' H' a' w') i (wpAny E.P .any ops (fun e a' w' => ∃ T' H', Q e T' H' ∧ Rep E T' H' a' w') fuel (listed.setIfInBounds i true)) a w) : AnyK E ops Q (fuel + 1) listed T H :=
  fun a w hrep => wpAny_all hr (by simp) (fun j hj => by simp at hj; subst hj; exact h a w hrep)
theorem ak_two {fuel i j : Nat} {listed : Array Bool} (hr : Region.ready .any ops listed = [i, j])
    (h1 : ∀ a w, Rep E T H a w → wpOp E.P ops (fun e a' w' => ∃ T' H', Q e T' H' ∧ Rep E T' H' a' w') i (wpAny E.P .any ops (fun e a' w' => ∃ T' H', Q e T' H' ∧ Rep E T' H' a' w') fuel (listed.setIfInBounds i true)) a w)
    (h2 : ∀ a w, Rep E T H a w → wpOp E.P ops (fun e a' w' => ∃ T' H', Q e T' H' ∧ Rep E T' H' a' w') j (wpAny E.P .any ops (fun e a' w' => ∃ T' H', Q e T' H' ∧ Rep E T' H' a' w') fuel (listed.setIfInBounds j true)) a w) : AnyK E ops Q (fuel + 1) listed T H :=
  fun a w hrep => wpAny_all hr (by simp) (fun k hk => by simp at hk; rcases hk with rfl | rfl; exact h1 a w hrep; exact h2 a w hrep)
end anyk

theorem HOk.m0 {P : Program} {o : Oper} {T : Tm} {H : Heap} {v : AV} (h : HOk P o T H v []) : MOk P o T H v H := by simpa using h.mok

theorem atS_ints1 {k : IntKind} {n i : Nat} {l : List Int} {x : SV} (h : atS [.ints k n l] i = some x) : i < n ∧ x = .int k (l.getD i 0) := by
  have hs : (Seg.ints k n l).size = n := rfl
  simp only [atS] at h
  rw [hs] at h
  by_cases hi : i < n
  · rw [if_pos hi] at h; exact ⟨hi, (Option.some.inj h).symm⟩
  · rw [if_neg hi] at h; cases h

theorem wrap_u8 {n : Int} (h0 : 0 ≤ n) (h1 : n < 256) : IntKind.u8.wrap n = n := by
  unfold IntKind.wrap
  simp [IntKind.bits, IntKind.signed]
  omega
theorem wrap_u8_range (n : Int) : 0 ≤ IntKind.u8.wrap n ∧ IntKind.u8.wrap n < 256 := by
  unfold IntKind.wrap
  simp [IntKind.bits, IntKind.signed]
  omega
theorem xorK_u8_range (m n : Int) : 0 ≤ xorK .u8 m n ∧ xorK .u8 m n < 256 := wrap_u8_range _
theorem orK_u8_range (m n : Int) : 0 ≤ orK .u8 m n ∧ orK .u8 m n < 256 := wrap_u8_range _
theorem shlK_u8_range (m n : Int) : 0 ≤ shlK .u8 m n ∧ shlK .u8 m n < 256 := wrap_u8_range _

section rules
variable {P : Program} {T : Tm} {H : Heap} {d : Option Tmp} {ty : TypeId} {pos : String} {af : Array Edge} {g : Option (Nat × Bool)}

theorem h_ixs {t e : TypeId} {x i : Operand} {id base b len cap j : Nat} {k : IntKind} (hx : ev T x = .s (.slice id base b len cap)) (hi : ev T i = .s (.int k (j : Int)))
    (hu : P.underlying t = some (.slice e)) (hs : ∀ w, (sizeOf e).run P w = .ok 1 w) (h1 : j < len) : HOk P ⟨d, .indexAddr t x i, ty, pos, af, g⟩ T H (.s (.ptr id base (b + j))) [] :=
  h_indexAddr_sl hx hi hu hs (by omega) (by omega) (by simp)
theorem h_ixsx {t e : TypeId} {x i : Operand} {id base b len j : Nat} {k : IntKind} (hx : ev T x = .s (.slx id base b len)) (hi : ev T i = .s (.int k (j : Int)))
    (hu : P.underlying t = some (.slice e)) (hs : ∀ w, (sizeOf e).run P w = .ok 1 w) (h1 : j < len) : HOk P ⟨d, .indexAddr t x i, ty, pos, af, g⟩ T H (.s (.ptr id base (b + j))) [] :=
  .pure fun W ρ a w _ ho => by
    obtain ⟨ha, hb⟩ := two (op := .indexAddr t x i) rfl ho hx hi
    simp only [AV.rep, SV.rep] at ha hb
    obtain ⟨bb, o, c, hρ, ha, _⟩ := ha
    refine ⟨.pointer (some ⟨bb, o + base + (b + j), none⟩), ?_, bb, o, hρ, rfl⟩
    have h2 : (j : Int) < (len : Int) := by omega
    simp [execOp, ha, hb, Instr.indexAt, asIntOf, Sem.run_bind, run_underlying hu, h1, hs, addr_add, Nat.add_assoc]

theorem h_min {x y : Operand} {ts : Array TypeId} {rt : TypeId} {k : IntKind} {m n r : Int} (hx : ev T x = .s (.int k m)) (hy : ev T y = .s (.int k n)) (hr : (if n < m then n else m) = r) :
    HOk P ⟨d, .call ⟨.builtin .min, #[x, y], ts⟩, rt, pos, af, g⟩ T H (.s (.int k r)) [] :=
  .pure fun W ρ a w _ ho => by
    have h1 : (ev T x).rep ρ (a.eval x) := ho x (by simp [Op.operands, Call.operands])
    have h2 : (ev T y).rep ρ (a.eval y) := ho y (by simp [Op.operands, Call.operands])
    rw [hx] at h1; rw [hy] at h2
    simp only [AV.rep, SV.rep] at h1 h2
    exact ⟨.int k r, by simp [execOp, resolve, invoke, builtin, Builtin.min_, h1, h2, List.foldlM, Builtin.min2, hr], rfl⟩
theorem h_max {x y : Operand} {ts : Array TypeId} {rt : TypeId} {k : IntKind} {m n r : Int} (hx : ev T x = .s (.int k m)) (hy : ev T y = .s (.int k n)) (hr : (if n > m then n else m) = r) :
    HOk P ⟨d, .call ⟨.builtin .max, #[x, y], ts⟩, rt, pos, af, g⟩ T H (.s (.int k r)) [] :=
  .pure fun W ρ a w _ ho => by
    have h1 : (ev T x).rep ρ (a.eval x) := ho x (by simp [Op.operands, Call.operands])
    have h2 : (ev T y).rep ρ (a.eval y) := ho y (by simp [Op.operands, Call.operands])
    rw [hx] at h1; rw [hy] at h2
    simp only [AV.rep, SV.rep] at h1 h2
    exact ⟨.int k r, by simp [execOp, resolve, invoke, builtin, Builtin.max_, h1, h2, List.foldlM, Builtin.max2, hr], rfl⟩

/-- 'make' of integers, all of them nought. -/
theorem h_make {t e : TypeId} {x y : Operand} {l c n : Nat} {k : IntKind} {inf : TypeInfo} (hx : ev T x = .s (.int .i64 (l : Int))) (hy : ev T y = .s (.int .i64 (c : Int))) (hlc : l ≤ c) (hc : inf.bytes * c ≤ 281474976710656) (hc2 : c ≤ 281474976710656)
    (hu : P.underlying t = some (.slice e)) (hi : P.info? e = some inf) (hs : inf.size = 1) (hz : inf.zero = some (.int k 0)) (hn : H.length = n) :
    HOk P ⟨d, .makeSlice t x y, ty, pos, af, g⟩ T H (.s (.slice n 0 0 l c)) [⟨true, [.ints k c (List.replicate c 0)]⟩] := by
  subst hn
  intro W ρ a w hH hf ho next Q hq
  obtain ⟨h1, h2⟩ := two (op := .makeSlice t x y) rfl ho hx hy
  simp only [AV.rep, SV.rep] at h1 h2
  have hm := run_make (P := P) w t e inf (.int k 0) hu hi hz .i64 .i64 (l : Int) (c : Int) (by omega) (by omega) (by
    have h : ((inf.bytes * c : Nat) : Int) ≤ 281474976710656 := by omega
    rwa [Int.natCast_mul] at h) (by omega)
  simp only [Int.toNat_natCast, hs, Nat.mul_one] at hm
  have hrun : (execOp a.eval ⟨d, .makeSlice t x y, ty, pos, af, g⟩).run P w = .ok (.value (.slice (some ⟨w.heap.size, 0, none⟩) l c)) (w.alloc (.cells (madeCells (Value.int k 0).cells c) e)) := by
    simp [execOp, h1, h2, Sem.run_bind, hm]
  rw [hrun]
  have h0 : ρ H.length = none := by have := hf 0 (by simp); simpa using this
  refine hq _ _ ⟨_, .one h0 (fun ρ' _ i z hz => ?_), w.heap.size, 0, by simp [upd], rfl⟩
  have hz := atS_ints1 hz
  by_cases hi : i < c
  · have hz := hz.2
    subst hz
    refine ⟨.int k 0, ?_, by simp [Seg.at, SV.rep, List.getElem?_replicate, hi], rfl⟩
    simp [madeCells, Value.cells, hi, Nat.mod_one]
  · exact absurd hz.1 hi
theorem h_field {t : TypeId} {x : Operand} {id base f sz : Nat} {fs : Array Field} {fd : Field} (hx : ev T x = .s (.ptr id base 0))
    (hu : P.underlying t = some (.struct fs)) (hf : fs[f]? = some fd) (hs : ∀ w, (sizeOf fd.type).run P w = .ok sz w) (hz : sz ≠ 0) : HOk P ⟨d, .fieldAddr t x f, ty, pos, af, g⟩ T H (.s (.ptr id (base + fd.offset) 0)) [] :=
  h_fieldAddr hx hu hf (fun w a _ => by simp [fieldPlace, Sem.run_bind, hs, hz]) (.inl ⟨rfl, rfl⟩)
theorem h_ixg {t e : TypeId} {x i : Operand} {id base b n j sz : Nat} {k : IntKind} (hx : ev T x = .s (.ptr id base b)) (hi : ev T i = .s (.int k (j : Int)))
    (hu : P.underlying t = some (.array n e)) (hs : ∀ w, (sizeOf e).run P w = .ok sz w) (h1 : j < n) : HOk P ⟨d, .indexAddr t x i, ty, pos, af, g⟩ T H (.s (.ptr id base (b + j * sz))) [] :=
  h_indexAddr hx hi hu hs (by omega) (by omega) (by simp)
theorem h_ixgl {t e : TypeId} {x i : Operand} {id base b n sz : Nat} {k : IntKind} {m : Int} (j : Nat) (hx : ev T x = .s (.ptr id base b)) (hi : ev T i = .s (.int k m)) (hm : m = (j : Int))
    (hu : P.underlying t = some (.array n e)) (hs : ∀ w, (sizeOf e).run P w = .ok sz w) (h1 : j < n) : HOk P ⟨d, .indexAddr t x i, ty, pos, af, g⟩ T H (.s (.ptr id base (b + j * sz))) [] :=
  h_ixg hx (hm ▸ hi) hu hs h1
theorem h_ixw {t e : TypeId} {x i : Operand} {id base n j sz : Nat} {k : IntKind} (hx : ev T x = .s (.ptr id base 0)) (hi : ev T i = .s (.int k (j : Int)))
    (hu : P.underlying t = some (.array n e)) (hs : ∀ w, (sizeOf e).run P w = .ok sz w) (h1 : j < n) : HOk P ⟨d, .indexAddr t x i, ty, pos, af, g⟩ T H (.s (.ptr id base (j * sz))) [] :=
  h_indexAddr hx hi hu hs (by omega) (by omega) (by simp)
theorem h_ixwl {t e : TypeId} {x i : Operand} {id base n sz : Nat} {k : IntKind} {m : Int} (j : Nat) (hx : ev T x = .s (.ptr id base 0)) (hi : ev T i = .s (.int k m)) (hm : m = (j : Int))
    (hu : P.underlying t = some (.array n e)) (hs : ∀ w, (sizeOf e).run P w = .ok sz w) (h1 : j < n) : HOk P ⟨d, .indexAddr t x i, ty, pos, af, g⟩ T H (.s (.ptr id base (j * sz))) [] :=
  h_ixw hx (hm ▸ hi) hu hs h1
/-- Cells of one, from a place on. -/
theorem h_ixa {t e : TypeId} {x i : Operand} {id base b n j : Nat} {k : IntKind} (hx : ev T x = .s (.ptr id base b)) (hi : ev T i = .s (.int k (j : Int)))
    (hu : P.underlying t = some (.array n e)) (hs : ∀ w, (sizeOf e).run P w = .ok 1 w) (h1 : j < n) : HOk P ⟨d, .indexAddr t x i, ty, pos, af, g⟩ T H (.s (.ptr id base (b + j))) [] :=
  h_indexAddr hx hi hu hs (by omega) (by omega) (by simp)
theorem h_ixs0 {t e : TypeId} {x i : Operand} {id base len cap j : Nat} {k : IntKind} (hx : ev T x = .s (.slice id base 0 len cap)) (hi : ev T i = .s (.int k (j : Int)))
    (hu : P.underlying t = some (.slice e)) (hs : ∀ w, (sizeOf e).run P w = .ok 1 w) (h1 : j < len) : HOk P ⟨d, .indexAddr t x i, ty, pos, af, g⟩ T H (.s (.ptr id base j)) [] := by
  have := h_ixs (d := d) (ty := ty) (pos := pos) (af := af) (g := g) (H := H) hx hi hu hs h1
  rwa [Nat.zero_add] at this
theorem h_ixs0l {t e : TypeId} {x i : Operand} {id base len cap : Nat} {k : IntKind} {m : Int} (j : Nat) (hx : ev T x = .s (.slice id base 0 len cap)) (hi : ev T i = .s (.int k m)) (hm : m = (j : Int))
    (hu : P.underlying t = some (.slice e)) (hs : ∀ w, (sizeOf e).run P w = .ok 1 w) (h1 : j < len) : HOk P ⟨d, .indexAddr t x i, ty, pos, af, g⟩ T H (.s (.ptr id base j)) [] := h_ixs0 hx (hm ▸ hi) hu hs h1
theorem h_build0 {t : TypeId} {cs : Array Value} {segs : List Seg} (hb : ∀ w, (Instr.build t #[]).run P w = .ok (.agg cs) w) (hk : rowOk segs cs = true) : HOk P ⟨d, .build t #[], ty, pos, af, g⟩ T H (.agg segs) [] :=
  .pure fun W ρ a w _ _ => ⟨.agg cs, by simp [execOp, hb], cs, rfl, (rowOk_rep hk).1, (rowOk_rep hk).2 ρ⟩
/-- A row of integers, part by part. -/
theorem h_build_ints {t : TypeId} {parts : Array (Nat × Operand)} {l : List (Nat × Int)} {xs : List Int} {k : IntKind} {n : Nat} (hargs : parts.toList.map (fun p => (p.1, ev T p.2)) = l.map (fun p => (p.1, AV.s (.int k p.2))))
    (hb : ∀ w, (Instr.build t (l.map (fun p => (p.1, Value.int k p.2))).toArray).run P w = .ok (.agg (xs.map (Value.int k)).toArray) w) (hn : xs.length = n) : HOk P ⟨d, .build t parts, ty, pos, af, g⟩ T H (.agg [.ints k n xs]) [] :=
  .pure fun W ρ a w _ ho => by
    have he : parts.map (fun p => (p.1, a.eval p.2)) = (l.map (fun p => (p.1, Value.int k p.2))).toArray := by
      apply Array.ext'
      simp only [Array.toList_map, List.toList_toArray]
      apply List.ext_getElem?
      intro i
      have hi := congrArg (fun q => q[i]?) hargs
      simp only [List.getElem?_map] at hi ⊢
      cases hp : parts.toList[i]? with
      | none => rw [hp] at hi; cases hl : l[i]? with
        | none => rfl
        | some y => rw [hl] at hi; simp at hi
      | some p =>
        rw [hp] at hi
        cases hl : l[i]? with
        | none => rw [hl] at hi; simp at hi
        | some y =>
          rw [hl] at hi
          simp only [Option.map_some, Option.some.injEq, Prod.mk.injEq] at hi
          have hm : p.2 ∈ (Op.build t parts).operands := by
            simp only [Op.operands]
            have : p ∈ parts.toList := List.mem_of_getElem? hp
            simpa using ⟨p.1, Array.mem_toList_iff.1 this⟩
          have h1 : (ev T p.2).rep ρ (a.eval p.2) := ho _ hm
          rw [hi.2] at h1
          have h1 : a.eval p.2 = .int k y.2 := h1
          simp [hi.1, h1]
    subst hn
    refine ⟨.agg (xs.map (Value.int k)).toArray, by simp only [execOp]; rw [he]; simp [Sem.run_bind, hb], _, rfl, by simp [sizeS, Seg.size], fun i x hx => ?_⟩
    obtain ⟨h1, h2⟩ := atS_ints1 hx
    subst h2
    exact ⟨.int k (xs.getD i 0), by simp [h1], rfl, rfl⟩
theorem h_build4 {t : TypeId} {x0 x1 x2 x3 : Operand} {a b c e : Int} {k : IntKind} (h0 : ev T x0 = .s (.int k a)) (h1 : ev T x1 = .s (.int k b)) (h2 : ev T x2 = .s (.int k c)) (h3 : ev T x3 = .s (.int k e))
    (hb : ∀ (a b c e : Int) w, (Instr.build t #[(0, .int k a), (1, .int k b), (2, .int k c), (3, .int k e)]).run P w = .ok (.agg #[.int k a, .int k b, .int k c, .int k e]) w) : HOk P ⟨d, .build t #[(0, x0), (1, x1), (2, x2), (3, x3)], ty, pos, af, g⟩ T H (.agg [.ints k 4 [a, b, c, e]]) [] :=
  h_build_ints (l := [(0, a), (1, b), (2, c), (3, e)]) (by simp [h0, h1, h2, h3]) (fun w => hb a b c e w) rfl
/-- A row of one kind of integers, told part by part. -/
def intsL (k : IntKind) : List (Nat × Operand) → Tm → Option (List Int)
  | [], _ => some []
  | (_, x) :: r, T => match ev T x, intsL k r T with
    | .s (.int _ n), some l => some (n :: l)
    | _, _ => none
end rules

theorem args_free {args : List AV} {σ : List (Nat × Nat)} (h : args.all (AV.lowB 0) = true) (i : Nat) (x0 x : AV) (h0 : args[i]? = some x0) (h1 : args[i]? = some x) (ρ : Rho) (u : Value) (hr : x.rep ρ u) : x0.rep (foot ρ σ) u := by
  rw [h0] at h1
  cases h1
  exact arg_free (List.all_eq_true.1 h _ (List.mem_of_getElem? h0)) hr
theorem pick1 {H : Heap} {nE k : Nat} {b : Blk} (hE : nE ≤ k) (h : H[k]? = some (some b)) (i k' : Nat) (b' : Blk) (h1 : [k][i]? = some k') (h2 : [b][i]? = some b') : nE ≤ k' ∧ H[k']? = some (some b') := by
  cases i with
  | zero => simp at h1 h2; subst h1; subst h2; exact ⟨hE, h⟩
  | succ i => simp at h1
theorem done1 {E : Env} {fn : Func} {vf : (Nat → Nat) → AV} {b : Blk} {T : Tm} {H : Heap} {k : Nat} (hE : E.nE ≤ k) (h : H[k]? = some (some b)) (hr : Ret E fn T H (vf fun i => [k].getD i 0)) : DoneP E fn vf [b] .ret T H :=
  ⟨.inl rfl, [k], by simp, rfl, pick1 hE h, hr⟩
theorem done0 {E : Env} {fn : Func} {vf : (Nat → Nat) → AV} {T : Tm} {H : Heap} (hr : Ret E fn T H (vf fun _ => 0)) : DoneP E fn vf [] .ret T H :=
  ⟨.inl rfl, [], by simp, rfl, fun i k b h1 _ => by simp at h1, by simpa using hr⟩
theorem foot1 {H0 H : Heap} {id sh : Nat} {segs : List Seg} {b : Blk} (hl : segs.all (Seg.lowB 0) = true) (hb : H[id]? = some (some b)) (hs : ∀ i x, atS segs i = some x → atS b.segs (sh + i) = some x) (e : H0 = [some ⟨false, segs⟩]) :
    ∀ (k id' sh' : Nat) (b0 : Blk), [(id, sh)][k]? = some (id', sh') → H0[k]? = some (some b0) → b0.rw = false ∧ b0.segs.all (Seg.lowB 0) = true ∧ ∃ b : Blk, H[id']? = some (some b) ∧ ∀ i x, atS b0.segs i = some x → atS b.segs (sh' + i) = some x := by
  subst e
  intro k id' sh' b0 h1 h2
  cases k with
  | zero => simp at h1 h2; obtain ⟨rfl, rfl⟩ := h1; subst h2; exact ⟨rfl, hl, b, hb, hs⟩
  | succ k => simp at h1
/-- A window of a row of integers. -/
theorem win_ints {segs : List Seg} {base idx n m : Nat} {k : IntKind} {l : List Int} (h : segAt segs base = some (.ints k m l)) (hn : idx + n ≤ m) (i : Nat) (x : SV) (hx : atS [.ints k n ((l.drop idx).take n)] i = some x) : atS segs (base + idx + i) = some x := by
  obtain ⟨h1, h2⟩ := atS_ints1 hx
  rw [Nat.add_assoc, segAt_at h (idx + i) (by show idx + i < m; omega), h2]
  simp [Seg.at, List.getElem?_take, h1]
theorem ret_cells2 {E : Env} {fn : Func} {T : Tm} {H : Heap} {p id n p' id' n' : Nat} {ty ty' : TypeId} {k k' : Blk} {segs segs' : List Seg} (hr : fn.results = #[.cell p ty, .cell p' ty']) (hp : look T p = .s (.ptr id 0 0)) (hb : H[id]? = some (some k)) (hs : SubS k.segs 0 n segs)
    (ha : ∀ w, (isAgg ty).run E.P w = .ok true w) (hz : ∀ w, (sizeOf ty).run E.P w = .ok n w) (hp' : look T p' = .s (.ptr id' 0 0)) (hb' : H[id']? = some (some k')) (hs' : SubS k'.segs 0 n' segs')
    (ha' : ∀ w, (isAgg ty').run E.P w = .ok true w) (hz' : ∀ w, (sizeOf ty').run E.P w = .ok n' w) : Ret E fn T H (.tup [.agg segs, .agg segs']) := by
  intro ρ a w hH hT
  have hx := hT p
  rw [hp] at hx
  obtain ⟨b, o, hρ, hx⟩ := hx
  obtain ⟨v1, h3, h4⟩ := run_load_sub (P := E.P) (hH.rep id b o k hρ hb).1 hs ha hz
  have hx' := hT p'
  rw [hp'] at hx'
  obtain ⟨b', o', hρ', hx'⟩ := hx'
  obtain ⟨v2, h3', h4'⟩ := run_load_sub (P := E.P) (hH.rep id' b' o' k' hρ' hb').1 hs' ha' hz'
  have e1 : a.tmps[p]?.getD undef = .pointer (some ⟨b, o, none⟩) := by simpa using hx
  have e2 : a.tmps[p']?.getD undef = .pointer (some ⟨b', o', none⟩) := by simpa using hx'
  simp only [Nat.add_zero] at h3 h3'
  refine ⟨.tuple #[v1, v2], by simp [results, hr, Sem.run_bind, e1, e2, asAddr, h3, h3'], #[v1, v2], rfl, fun i x hx => ?_⟩
  match i, hx with
  | 0, hx => simp at hx; subst hx; exact ⟨v1, rfl, h4⟩
  | 1, hx => simp at hx; subst hx; exact ⟨v2, rfl, h4'⟩
  | i + 2, hx => simp at hx
end Go.Ab
