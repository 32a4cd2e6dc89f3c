/- More rules: copies, arrays cut, literal slices, functions made and called. No program. -/
import Derived.Test.YtffflnpidipheaaAb17
namespace Go.Ab
section rules
variable {P : Program} {d : Option Tmp} {ty : TypeId} {pos : String} {af : Array Edge} {g : Option (Tmp × Bool)} {T : Tm} {H : Heap}
theorem h_bsli1 {t e : TypeId} {x0 : Operand} {k : IntKind} {a0 : Int} {z : Value} {n : Nat} (h0 : ev T x0 = .s (.int k a0)) (hu : P.underlying t = some (.slice e)) (hs : ∀ w, (sizeOf e).run P w = .ok 1 w) (hz : ∀ w, (zeroValue e).run P w = .ok z w) (hz1 : z.cells = #[z]) (hn : H.length = n) :
    HOk P ⟨d, .buildSlice t 1 #[(0, x0)], ty, pos, af, g⟩ T H (.s (.slice n 0 0 1 1)) [⟨true, [.ints k 1 [a0]]⟩] := by
  subst hn
  intro W ρ a w hH hf ho next Q hq
  have r0 : (SV.int k a0).rep ρ (a.eval x0) := by have := ho x0 (by simp [Op.operands]); rwa [h0] at this
  have c0 := SV.oneCell r0 (by simp)
  have k0 := cells_one c0
  have hrun : (execOp a.eval ⟨d, .buildSlice t 1 #[(0, x0)], ty, pos, af, g⟩).run P w = .ok (.value (.slice (some ⟨w.heap.size, 0, none⟩) 1 1)) (w.alloc (.cells #[a.eval x0] e)) := by
    simp only [execOp, List.map_toArray, List.map_cons, List.map_nil]
    generalize a.eval x0 = X0 at *
    simp [Instr.buildSlice, Instr.fill, Sem.run_bind, run_underlying hu, hs, hz, newRow, k0, hz1]
    have hr : Array.range 1 = #[0] := by decide
    simp [hr]
  rw [hrun]
  have h0 : ρ H.length = none := by have := hf 0 (by simp); simpa using this
  refine hq _ _ ⟨_, .one h0 (fun ρ' hl i y hy => ?_), w.heap.size, 0, by simp [upd], rfl⟩
  obtain ⟨hi, rfl⟩ := atS_ints1 hy
  match i, hi with
  | 0, _ => exact ⟨_, rfl, SV.rep_le hl r0, c0⟩
  | i + 1, hi => exact absurd hi (by omega)

theorem h_bsli2 {t e : TypeId} {x0 x1 : Operand} {k : IntKind} {a0 a1 : Int} {z : Value} {n : Nat} (h0 : ev T x0 = .s (.int k a0)) (h1 : ev T x1 = .s (.int k a1)) (hu : P.underlying t = some (.slice e)) (hs : ∀ w, (sizeOf e).run P w = .ok 1 w) (hz : ∀ w, (zeroValue e).run P w = .ok z w) (hz1 : z.cells = #[z]) (hn : H.length = n) :
    HOk P ⟨d, .buildSlice t 2 #[(0, x0), (1, x1)], ty, pos, af, g⟩ T H (.s (.slice n 0 0 2 2)) [⟨true, [.ints k 2 [a0, a1]]⟩] := by
  subst hn
  intro W ρ a w hH hf ho next Q hq
  have r0 : (SV.int k a0).rep ρ (a.eval x0) := by have := ho x0 (by simp [Op.operands]); rwa [h0] at this
  have c0 := SV.oneCell r0 (by simp)
  have k0 := cells_one c0
  have r1 : (SV.int k a1).rep ρ (a.eval x1) := by have := ho x1 (by simp [Op.operands]); rwa [h1] at this
  have c1 := SV.oneCell r1 (by simp)
  have k1 := cells_one c1
  have hrun : (execOp a.eval ⟨d, .buildSlice t 2 #[(0, x0), (1, x1)], ty, pos, af, g⟩).run P w = .ok (.value (.slice (some ⟨w.heap.size, 0, none⟩) 2 2)) (w.alloc (.cells #[a.eval x0, a.eval x1] e)) := by
    simp only [execOp, List.map_toArray, List.map_cons, List.map_nil]
    generalize a.eval x0 = X0 at *
    generalize a.eval x1 = X1 at *
    simp [Instr.buildSlice, Instr.fill, Sem.run_bind, run_underlying hu, hs, hz, newRow, k0, k1, hz1]
    have hr : Array.range 2 = #[0, 1] := by decide
    simp [hr]
  rw [hrun]
  have h0 : ρ H.length = none := by have := hf 0 (by simp); simpa using this
  refine hq _ _ ⟨_, .one h0 (fun ρ' hl i y hy => ?_), w.heap.size, 0, by simp [upd], rfl⟩
  obtain ⟨hi, rfl⟩ := atS_ints1 hy
  match i, hi with
  | 0, _ => exact ⟨_, rfl, SV.rep_le hl r0, c0⟩
  | 1, _ => exact ⟨_, rfl, SV.rep_le hl r1, c1⟩
  | i + 2, hi => exact absurd hi (by omega)

theorem h_bsli3 {t e : TypeId} {x0 x1 x2 : Operand} {k : IntKind} {a0 a1 a2 : Int} {z : Value} {n : Nat} (h0 : ev T x0 = .s (.int k a0)) (h1 : ev T x1 = .s (.int k a1)) (h2 : ev T x2 = .s (.int k a2)) (hu : P.underlying t = some (.slice e)) (hs : ∀ w, (sizeOf e).run P w = .ok 1 w) (hz : ∀ w, (zeroValue e).run P w = .ok z w) (hz1 : z.cells = #[z]) (hn : H.length = n) :
    HOk P ⟨d, .buildSlice t 3 #[(0, x0), (1, x1), (2, x2)], ty, pos, af, g⟩ T H (.s (.slice n 0 0 3 3)) [⟨true, [.ints k 3 [a0, a1, a2]]⟩] := by
  subst hn
  intro W ρ a w hH hf ho next Q hq
  have r0 : (SV.int k a0).rep ρ (a.eval x0) := by have := ho x0 (by simp [Op.operands]); rwa [h0] at this
  have c0 := SV.oneCell r0 (by simp)
  have k0 := cells_one c0
  have r1 : (SV.int k a1).rep ρ (a.eval x1) := by have := ho x1 (by simp [Op.operands]); rwa [h1] at this
  have c1 := SV.oneCell r1 (by simp)
  have k1 := cells_one c1
  have r2 : (SV.int k a2).rep ρ (a.eval x2) := by have := ho x2 (by simp [Op.operands]); rwa [h2] at this
  have c2 := SV.oneCell r2 (by simp)
  have k2 := cells_one c2
  have hrun : (execOp a.eval ⟨d, .buildSlice t 3 #[(0, x0), (1, x1), (2, x2)], ty, pos, af, g⟩).run P w = .ok (.value (.slice (some ⟨w.heap.size, 0, none⟩) 3 3)) (w.alloc (.cells #[a.eval x0, a.eval x1, a.eval x2] e)) := by
    simp only [execOp, List.map_toArray, List.map_cons, List.map_nil]
    generalize a.eval x0 = X0 at *
    generalize a.eval x1 = X1 at *
    generalize a.eval x2 = X2 at *
    simp [Instr.buildSlice, Instr.fill, Sem.run_bind, run_underlying hu, hs, hz, newRow, k0, k1, k2, hz1]
    have hr : Array.range 3 = #[0, 1, 2] := by decide
    simp [hr]
  rw [hrun]
  have h0 : ρ H.length = none := by have := hf 0 (by simp); simpa using this
  refine hq _ _ ⟨_, .one h0 (fun ρ' hl i y hy => ?_), w.heap.size, 0, by simp [upd], rfl⟩
  obtain ⟨hi, rfl⟩ := atS_ints1 hy
  match i, hi with
  | 0, _ => exact ⟨_, rfl, SV.rep_le hl r0, c0⟩
  | 1, _ => exact ⟨_, rfl, SV.rep_le hl r1, c1⟩
  | 2, _ => exact ⟨_, rfl, SV.rep_le hl r2, c2⟩
  | i + 3, hi => exact absurd hi (by omega)

theorem h_bsli4 {t e : TypeId} {x0 x1 x2 x3 : Operand} {k : IntKind} {a0 a1 a2 a3 : Int} {z : Value} {n : Nat} (h0 : ev T x0 = .s (.int k a0)) (h1 : ev T x1 = .s (.int k a1)) (h2 : ev T x2 = .s (.int k a2)) (h3 : ev T x3 = .s (.int k a3)) (hu : P.underlying t = some (.slice e)) (hs : ∀ w, (sizeOf e).run P w = .ok 1 w) (hz : ∀ w, (zeroValue e).run P w = .ok z w) (hz1 : z.cells = #[z]) (hn : H.length = n) :
    HOk P ⟨d, .buildSlice t 4 #[(0, x0), (1, x1), (2, x2), (3, x3)], ty, pos, af, g⟩ T H (.s (.slice n 0 0 4 4)) [⟨true, [.ints k 4 [a0, a1, a2, a3]]⟩] := by
  subst hn
  intro W ρ a w hH hf ho next Q hq
  have r0 : (SV.int k a0).rep ρ (a.eval x0) := by have := ho x0 (by simp [Op.operands]); rwa [h0] at this
  have c0 := SV.oneCell r0 (by simp)
  have k0 := cells_one c0
  have r1 : (SV.int k a1).rep ρ (a.eval x1) := by have := ho x1 (by simp [Op.operands]); rwa [h1] at this
  have c1 := SV.oneCell r1 (by simp)
  have k1 := cells_one c1
  have r2 : (SV.int k a2).rep ρ (a.eval x2) := by have := ho x2 (by simp [Op.operands]); rwa [h2] at this
  have c2 := SV.oneCell r2 (by simp)
  have k2 := cells_one c2
  have r3 : (SV.int k a3).rep ρ (a.eval x3) := by have := ho x3 (by simp [Op.operands]); rwa [h3] at this
  have c3 := SV.oneCell r3 (by simp)
  have k3 := cells_one c3
  have hrun : (execOp a.eval ⟨d, .buildSlice t 4 #[(0, x0), (1, x1), (2, x2), (3, x3)], ty, pos, af, g⟩).run P w = .ok (.value (.slice (some ⟨w.heap.size, 0, none⟩) 4 4)) (w.alloc (.cells #[a.eval x0, a.eval x1, a.eval x2, a.eval x3] e)) := by
    simp only [execOp, List.map_toArray, List.map_cons, List.map_nil]
    generalize a.eval x0 = X0 at *
    generalize a.eval x1 = X1 at *
    generalize a.eval x2 = X2 at *
    generalize a.eval x3 = X3 at *
    simp [Instr.buildSlice, Instr.fill, Sem.run_bind, run_underlying hu, hs, hz, newRow, k0, k1, k2, k3, hz1]
    have hr : Array.range 4 = #[0, 1, 2, 3] := by decide
    simp [hr]
  rw [hrun]
  have h0 : ρ H.length = none := by have := hf 0 (by simp); simpa using this
  refine hq _ _ ⟨_, .one h0 (fun ρ' hl i y hy => ?_), w.heap.size, 0, by simp [upd], rfl⟩
  obtain ⟨hi, rfl⟩ := atS_ints1 hy
  match i, hi with
  | 0, _ => exact ⟨_, rfl, SV.rep_le hl r0, c0⟩
  | 1, _ => exact ⟨_, rfl, SV.rep_le hl r1, c1⟩
  | 2, _ => exact ⟨_, rfl, SV.rep_le hl r2, c2⟩
  | 3, _ => exact ⟨_, rfl, SV.rep_le hl r3, c3⟩
  | i + 4, hi => exact absurd hi (by omega)

theorem h_bsls1 {t e : TypeId} {x0 : Operand} {u0 : SV} {z : Value} {n : Nat} (h0 : ev T x0 = .s u0) (j0 : u0 ≠ .junk) (hu : P.underlying t = some (.slice e)) (hs : ∀ w, (sizeOf e).run P w = .ok 1 w) (hz : ∀ w, (zeroValue e).run P w = .ok z w) (hz1 : z.cells = #[z]) (hn : H.length = n) :
    HOk P ⟨d, .buildSlice t 1 #[(0, x0)], ty, pos, af, g⟩ T H (.s (.slice n 0 0 1 1)) [⟨true, [.one u0]⟩] := by
  subst hn
  intro W ρ a w hH hf ho next Q hq
  have r0 : u0.rep ρ (a.eval x0) := by have := ho x0 (by simp [Op.operands]); rwa [h0] at this
  have c0 := SV.oneCell r0 j0
  have k0 := cells_one c0
  have hrun : (execOp a.eval ⟨d, .buildSlice t 1 #[(0, x0)], ty, pos, af, g⟩).run P w = .ok (.value (.slice (some ⟨w.heap.size, 0, none⟩) 1 1)) (w.alloc (.cells #[a.eval x0] e)) := by
    simp only [execOp, List.map_toArray, List.map_cons, List.map_nil]
    generalize a.eval x0 = X0 at *
    simp [Instr.buildSlice, Instr.fill, Sem.run_bind, run_underlying hu, hs, hz, newRow, k0, hz1]
    have hr : Array.range 1 = #[0] := by decide
    simp [hr]
  rw [hrun]
  have h0 : ρ H.length = none := by have := hf 0 (by simp); simpa using this
  refine hq _ _ ⟨_, .one h0 (fun ρ' hl i y hy => ?_), w.heap.size, 0, by simp [upd], rfl⟩
  match i, hy with
  | 0, hy => simp [atS, Seg.size, Seg.at] at hy; subst hy; exact ⟨_, rfl, SV.rep_le hl r0, c0⟩
  | i + 1, hy => simp [atS, Seg.size] at hy

theorem h_bsls2 {t e : TypeId} {x0 x1 : Operand} {u0 u1 : SV} {z : Value} {n : Nat} (h0 : ev T x0 = .s u0) (h1 : ev T x1 = .s u1) (j0 : u0 ≠ .junk) (j1 : u1 ≠ .junk) (hu : P.underlying t = some (.slice e)) (hs : ∀ w, (sizeOf e).run P w = .ok 1 w) (hz : ∀ w, (zeroValue e).run P w = .ok z w) (hz1 : z.cells = #[z]) (hn : H.length = n) :
    HOk P ⟨d, .buildSlice t 2 #[(0, x0), (1, x1)], ty, pos, af, g⟩ T H (.s (.slice n 0 0 2 2)) [⟨true, [.one u0, .one u1]⟩] := by
  subst hn
  intro W ρ a w hH hf ho next Q hq
  have r0 : u0.rep ρ (a.eval x0) := by have := ho x0 (by simp [Op.operands]); rwa [h0] at this
  have c0 := SV.oneCell r0 j0
  have k0 := cells_one c0
  have r1 : u1.rep ρ (a.eval x1) := by have := ho x1 (by simp [Op.operands]); rwa [h1] at this
  have c1 := SV.oneCell r1 j1
  have k1 := cells_one c1
  have hrun : (execOp a.eval ⟨d, .buildSlice t 2 #[(0, x0), (1, x1)], ty, pos, af, g⟩).run P w = .ok (.value (.slice (some ⟨w.heap.size, 0, none⟩) 2 2)) (w.alloc (.cells #[a.eval x0, a.eval x1] e)) := by
    simp only [execOp, List.map_toArray, List.map_cons, List.map_nil]
    generalize a.eval x0 = X0 at *
    generalize a.eval x1 = X1 at *
    simp [Instr.buildSlice, Instr.fill, Sem.run_bind, run_underlying hu, hs, hz, newRow, k0, k1, hz1]
    have hr : Array.range 2 = #[0, 1] := by decide
    simp [hr]
  rw [hrun]
  have h0 : ρ H.length = none := by have := hf 0 (by simp); simpa using this
  refine hq _ _ ⟨_, .one h0 (fun ρ' hl i y hy => ?_), w.heap.size, 0, by simp [upd], rfl⟩
  match i, hy with
  | 0, hy => simp [atS, Seg.size, Seg.at] at hy; subst hy; exact ⟨_, rfl, SV.rep_le hl r0, c0⟩
  | 1, hy => simp [atS, Seg.size, Seg.at] at hy; subst hy; exact ⟨_, rfl, SV.rep_le hl r1, c1⟩
  | i + 2, hy => simp [atS, Seg.size] at hy

theorem h_bsls3 {t e : TypeId} {x0 x1 x2 : Operand} {u0 u1 u2 : SV} {z : Value} {n : Nat} (h0 : ev T x0 = .s u0) (h1 : ev T x1 = .s u1) (h2 : ev T x2 = .s u2) (j0 : u0 ≠ .junk) (j1 : u1 ≠ .junk) (j2 : u2 ≠ .junk) (hu : P.underlying t = some (.slice e)) (hs : ∀ w, (sizeOf e).run P w = .ok 1 w) (hz : ∀ w, (zeroValue e).run P w = .ok z w) (hz1 : z.cells = #[z]) (hn : H.length = n) :
    HOk P ⟨d, .buildSlice t 3 #[(0, x0), (1, x1), (2, x2)], ty, pos, af, g⟩ T H (.s (.slice n 0 0 3 3)) [⟨true, [.one u0, .one u1, .one u2]⟩] := by
  subst hn
  intro W ρ a w hH hf ho next Q hq
  have r0 : u0.rep ρ (a.eval x0) := by have := ho x0 (by simp [Op.operands]); rwa [h0] at this
  have c0 := SV.oneCell r0 j0
  have k0 := cells_one c0
  have r1 : u1.rep ρ (a.eval x1) := by have := ho x1 (by simp [Op.operands]); rwa [h1] at this
  have c1 := SV.oneCell r1 j1
  have k1 := cells_one c1
  have r2 : u2.rep ρ (a.eval x2) := by have := ho x2 (by simp [Op.operands]); rwa [h2] at this
  have c2 := SV.oneCell r2 j2
  have k2 := cells_one c2
  have hrun : (execOp a.eval ⟨d, .buildSlice t 3 #[(0, x0), (1, x1), (2, x2)], ty, pos, af, g⟩).run P w = .ok (.value (.slice (some ⟨w.heap.size, 0, none⟩) 3 3)) (w.alloc (.cells #[a.eval x0, a.eval x1, a.eval x2] e)) := by
    simp only [execOp, List.map_toArray, List.map_cons, List.map_nil]
    generalize a.eval x0 = X0 at *
    generalize a.eval x1 = X1 at *
    generalize a.eval x2 = X2 at *
    simp [Instr.buildSlice, Instr.fill, Sem.run_bind, run_underlying hu, hs, hz, newRow, k0, k1, k2, hz1]
    have hr : Array.range 3 = #[0, 1, 2] := by decide
    simp [hr]
  rw [hrun]
  have h0 : ρ H.length = none := by have := hf 0 (by simp); simpa using this
  refine hq _ _ ⟨_, .one h0 (fun ρ' hl i y hy => ?_), w.heap.size, 0, by simp [upd], rfl⟩
  match i, hy with
  | 0, hy => simp [atS, Seg.size, Seg.at] at hy; subst hy; exact ⟨_, rfl, SV.rep_le hl r0, c0⟩
  | 1, hy => simp [atS, Seg.size, Seg.at] at hy; subst hy; exact ⟨_, rfl, SV.rep_le hl r1, c1⟩
  | 2, hy => simp [atS, Seg.size, Seg.at] at hy; subst hy; exact ⟨_, rfl, SV.rep_le hl r2, c2⟩
  | i + 3, hy => simp [atS, Seg.size] at hy


/-! Copies -/
theorem loadCells_ints {w : World} {b o n : Nat} {k : IntKind} {zs : List Int} {cells : Array Value} {t : TypeId} {fr : Nat × Nat} (hb : w.heap[b]? = some (.cells cells t fr)) (hz : zs.length = n) (h : ∀ i, i < n → cells[o + i]? = some (.int k (zs.getD i 0))) (len cap : Nat) :
    (Builtin.firstCells 1 n (.slice (some ⟨b, o, none⟩) len cap)).run P w = .ok (zs.map (Value.int k)).toArray w := by
  refine run_firstCells_some w 1 n ⟨b, o, none⟩ len cap (zs.map (Value.int k)) (by simp [hz]) fun j v hj => ?_
  simp only [List.getElem?_map, Option.map_eq_some_iff] at hj
  obtain ⟨y, hy, rfl⟩ := hj
  have hlt : j < n := by rw [← hz]; exact (List.getElem?_eq_some_iff.1 hy).1
  have hc := h j hlt
  have e : zs.getD j 0 = y := by simp [List.getD_eq_getElem?_getD, hy]
  rw [e] at hc
  rw [addr_add]
  simp [World.cell?, hb, hc]
theorem m_copy {x y : Operand} {t t' e rt : TypeId} {id base idx dl dc id2 base2 idx2 sl sc n m2 : Nat} {k : IntKind} {segs segs' : List Seg} {bk2 : Blk} {ys : List Int} (hx : ev T x = .s (.slice id base idx dl dc)) (hy : ev T y = .s (.slice id2 base2 idx2 sl sc)) (hb : H[id]? = some (some ⟨true, segs⟩))
    (hb2 : H[id2]? = some (some bk2)) (hs2 : segAt bk2.segs base2 = some (.ints k m2 ys)) (hl2 : ys.length = m2) (hfit2 : idx2 + n ≤ m2) (hn : min sl dl = n) (hu : P.underlying t = some (.slice e)) (hs : ∀ w, (sizeOf e).run P w = .ok 1 w)
    (hp : PutS segs (base + idx) n [.ints k n ((ys.drop idx2).take n)] segs') : MOk P ⟨d, .call ⟨.builtin .copy, #[x, y], #[t, t']⟩, rt, pos, af, g⟩ T H (.s (.int .i64 n)) (H.set id (some ⟨true, segs'⟩)) := by
  intro W ρ a w hH hnn hW ho next Q hq
  have h1 : (ev T x).rep ρ (a.eval x) := ho x (by simp [Op.operands, Call.operands])
  have h2 : (ev T y).rep ρ (a.eval y) := ho y (by simp [Op.operands, Call.operands])
  rw [hx] at h1
  rw [hy] at h2
  obtain ⟨b, o, hρ, h1⟩ := h1
  obtain ⟨b2, o2, hρ2, h2⟩ := h2
  obtain ⟨⟨cells, tt, fr, g1, g2, g3⟩, hWb⟩ := hH.rep id b o _ hρ hb
  obtain ⟨⟨cells2, tt2, fr2, q1, q2, q3⟩, _⟩ := hH.rep id2 b2 o2 _ hρ2 hb2
  have hfr := g2 rfl
  subst hfr
  have hsrc : ∀ i, i < n → cells2[o2 + base2 + idx2 + i]? = some (.int k (((ys.drop idx2).take n).getD i 0)) := by
    intro i hi
    obtain ⟨v, hv, hc⟩ := q3 (base2 + (idx2 + i)) _ (segAt_at hs2 (idx2 + i) (by show idx2 + i < m2; omega))
    have hc : v = .int k (ys.getD (idx2 + i) 0) := hc.1
    subst hc
    have hv : cells2[o2 + (base2 + (idx2 + i))]? = some (.int k (ys.getD (idx2 + i) 0)) := hv
    rw [show o2 + base2 + idx2 + i = o2 + (base2 + (idx2 + i)) by omega, hv]
    simp [List.getD_eq_getElem?_getD, List.getElem?_take, List.getElem?_drop, hi]
  have hzl : ((ys.drop idx2).take n).length = n := by simp; omega
  have hfc := loadCells_ints (P := P) q1 hzl hsrc sl sc
  generalize (ys.drop idx2).take n = zs at *
  have hfit : o + (base + idx) + n ≤ cells.size := by
    have hle := hp.1
    obtain ⟨y, hy⟩ := atS_some (l := segs) (i := base + idx + n - 1) (by omega)
    obtain ⟨v, hv, _⟩ := g3 _ y hy
    have : o + (base + idx + n - 1) < cells.size := by
      rcases Nat.lt_or_ge (o + (base + idx + n - 1)) cells.size with h | h
      · exact h
      · simp [Array.getElem?_eq_none h] at hv
    omega
  have hst := run_storeCells_at P b (o + (base + idx)) tt (zs.map (Value.int k)) 0 cells w g1 (by simp; omega) (by intro v hv; obtain ⟨z, _, rfl⟩ := List.mem_map.1 hv; rfl)
  rw [Nat.add_zero] at hst
  have hrun : (execOp a.eval ⟨d, .call ⟨.builtin .copy, #[x, y], #[t, t']⟩, rt, pos, af, g⟩).run P w = .ok (.value (.int .i64 n)) (w.setRow b (cells.toList.take (o + (base + idx)) ++ zs.map (Value.int k) ++ cells.toList.drop (o + (base + idx) + (zs.map (Value.int k)).length)).toArray) := by
    have hn' : Nat.min sl dl = n := hn
    simp only [execOp, resolve, invoke, builtin, List.map_toArray, List.map_cons, List.map_nil, h1, h2]
    rw [show o + base + idx = o + (base + idx) by omega]
    simp [Builtin.copy_, Sem.run_bind, run_underlying hu, Builtin.lenOf, hn', hs, hfc, goInt]
    rw [hst]; simp
  rw [hrun]
  refine hq _ _ ⟨ρ, fun i hi => hnn i (by simpa using hi), .refl _, ?_, Fr.setRow _ (hWb rfl), rfl⟩
  refine hH.write hρ hb g1 g3 hp (by simp; omega) (fun i z hz => ?_) hfit
  obtain ⟨hi, rfl⟩ := atS_ints1 hz
  refine ⟨.int k (zs.getD i 0), ?_, rfl, rfl⟩
  have : i < zs.length := by omega
  simp [List.getD_eq_getElem?_getD, this]
/-- Nothing is copied. -/
theorem h_copy0 {x y : Operand} {t t' e rt : TypeId} {id base idx dl dc : Nat} {u : SV} (hx : ev T x = .s (.slice id base idx dl dc)) (hy : ev T y = .s u) (hu0 : u = .nils ∨ (∃ i2 b2 x2 c2, u = .slice i2 b2 x2 0 c2) ∨ ∃ ad c, u = .val (.slice ad 0 c)) (hu : P.underlying t = some (.slice e)) (hs : ∀ w, (sizeOf e).run P w = .ok 1 w) :
    HOk P ⟨d, .call ⟨.builtin .copy, #[x, y], #[t, t']⟩, rt, pos, af, g⟩ T H (.s (.int .i64 0)) [] :=
  .pure fun W ρ a w _ ho => by
    have h1 : (ev T x).rep ρ (a.eval x) := ho x (by simp [Op.operands, Call.operands])
    have h2 : (ev T y).rep ρ (a.eval y) := ho y (by simp [Op.operands, Call.operands])
    rw [hx] at h1
    rw [hy] at h2
    obtain ⟨b, o, hρ, h1⟩ := h1
    obtain ⟨ad, c, h2⟩ : ∃ ad c, a.eval y = .slice ad 0 c := by
      rcases hu0 with rfl | ⟨i2, b2, x2, c2, rfl⟩ | ⟨ad, c, rfl⟩
      · exact ⟨none, 0, h2⟩
      · obtain ⟨b', o', _, h2⟩ := h2; exact ⟨_, _, h2⟩
      · exact ⟨ad, c, h2.1⟩
    refine ⟨.int .i64 0, ?_, rfl⟩
    have hf : (Builtin.firstCells 1 0 (.slice ad 0 c)).run P w = .ok #[] w := by
      cases ad with
      | none => simp [Builtin.firstCells]
      | some ad => exact run_firstCells_some w 1 0 ad 0 c [] (by simp) (fun j v hj => by simp at hj)
    simp [execOp, resolve, invoke, builtin, h1, h2, Builtin.copy_, Sem.run_bind, run_underlying hu, Builtin.lenOf, hs, hf, goInt, storeCells]
/-! Arrays cut -/
theorem asl_run {w : World} {t e : TypeId} {n : Nat} {ad : Addr} {l h m : Nat} {lo hi mx : Option Value} (hu : P.underlying t = some (.array n e)) (hs : ∀ w, (sizeOf e).run P w = .ok 1 w) (hb : (Instr.sliceBounds false n n lo hi mx).run P w = .ok (l, h, m) w) :
    (Instr.sliceAt t (.pointer (some ad)) lo hi mx).run P w = .ok (.slice (some (if m = l then ad else ad.add l)) (h - l) (m - l)) w := by
  simp [Instr.sliceAt, Instr.sureAddr, Sem.run_bind, run_underlying hu, hb, hs]
theorem ab_l {w : World} {n l : Nat} {k : IntKind} (h1 : l ≤ n) : (Instr.sliceBounds false n n (some (.int k (l : Int))) none none).run P w = .ok (l, n, n) w := by
  simp [Instr.sliceBounds, Sem.run_bind, run_sliceBound w k (l : Int) n _ (by omega) (by omega)]
theorem ab_h {w : World} {n h : Nat} {k : IntKind} (h1 : h ≤ n) : (Instr.sliceBounds false n n none (some (.int k (h : Int))) none).run P w = .ok (0, h, n) w := by
  simp [Instr.sliceBounds, Sem.run_bind, run_sliceBound w k (h : Int) n _ (by omega) (by omega)]
theorem ab_lh {w : World} {n l h : Nat} {k k' : IntKind} (h1 : l ≤ h) (h2 : h ≤ n) : (Instr.sliceBounds false n n (some (.int k (l : Int))) (some (.int k' (h : Int))) none).run P w = .ok (l, h, n) w := by
  simp [Instr.sliceBounds, Sem.run_bind, run_sliceBound w k (l : Int) h _ (by omega) (by omega), run_sliceBound w k' (h : Int) n _ (by omega) (by omega)]
theorem ab_0 {w : World} {n : Nat} : (Instr.sliceBounds false n n none none none).run P w = .ok (0, n, n) w := by
  simp [Instr.sliceBounds, Sem.run_bind]
theorem asl_rep {ρ : Rho} {id base idx n l h : Nat} {v : Value} (hr : (SV.ptr id base idx).rep ρ v) : ∃ ad, v = .pointer (some ad) ∧ (SV.slice id base (if n = l then idx else idx + l) (h - l) (n - l)).rep ρ (.slice (some (if n = l then ad else ad.add l)) (h - l) (n - l)) := by
  obtain ⟨b, o, h1, rfl⟩ := hr
  refine ⟨_, rfl, b, o, h1, ?_⟩
  by_cases e : n = l
  · simp [e]
  · simp only [if_neg e, addr_add, Nat.add_assoc]
theorem h_asl_l {t e : TypeId} {x i : Operand} {id base idx n l : Nat} {k : IntKind} {m : Int} (hx : ev T x = .s (.ptr id base idx)) (hi : ev T i = .s (.int k m)) (hm : m = (l : Int)) (hu : P.underlying t = some (.array n e)) (hs : ∀ w, (sizeOf e).run P w = .ok 1 w) (h1 : l < n) :
    HOk P ⟨d, .slice t x (some i) none none, ty, pos, af, g⟩ T H (.s (.slice id base (idx + l) (n - l) (n - l))) [] :=
  .pure fun W ρ a w _ ho => by
    subst hm
    have k1 := ho x (by simp [Op.operands])
    have k2 := ho i (by simp [Op.operands])
    rw [hx] at k1
    rw [hi] at k2
    simp only [AV.rep, SV.rep] at k2
    obtain ⟨ad, e1, e2⟩ := asl_rep (l := l) (h := n) (n := n) k1
    have hr := asl_run (P := P) (w := w) (ad := ad) hu hs (ab_l (k := k) (Nat.le_of_lt h1))
    rw [if_neg (by omega)] at e2 hr
    rw [if_neg (by omega)] at e2
    exact ⟨_, by simp [execOp, e1, k2, Sem.run_bind, hr], e2⟩
theorem h_asl_h {t e : TypeId} {x i : Operand} {id base idx n h : Nat} {k : IntKind} {m : Int} (hx : ev T x = .s (.ptr id base idx)) (hi : ev T i = .s (.int k m)) (hm : m = (h : Int)) (hu : P.underlying t = some (.array n e)) (hs : ∀ w, (sizeOf e).run P w = .ok 1 w) (h1 : h ≤ n) (h0 : 0 < n) :
    HOk P ⟨d, .slice t x none (some i) none, ty, pos, af, g⟩ T H (.s (.slice id base idx h n)) [] :=
  .pure fun W ρ a w _ ho => by
    subst hm
    have k1 := ho x (by simp [Op.operands])
    have k2 := ho i (by simp [Op.operands])
    rw [hx] at k1
    rw [hi] at k2
    simp only [AV.rep, SV.rep] at k2
    obtain ⟨ad, e1, e2⟩ := asl_rep (l := 0) (h := h) (n := n) k1
    have hr := asl_run (P := P) (w := w) (ad := ad) hu hs (ab_h (k := k) h1)
    rw [if_neg (by omega)] at e2 hr
    rw [if_neg (by omega)] at e2
    exact ⟨_, by simp [execOp, e1, k2, Sem.run_bind, hr], e2⟩
theorem h_asl_0 {t e : TypeId} {x : Operand} {id base idx n : Nat} (hx : ev T x = .s (.ptr id base idx)) (hu : P.underlying t = some (.array n e)) (hs : ∀ w, (sizeOf e).run P w = .ok 1 w) (h0 : 0 < n) :
    HOk P ⟨d, .slice t x none none none, ty, pos, af, g⟩ T H (.s (.slice id base idx n n)) [] :=
  .pure fun W ρ a w _ ho => by
    have k1 := ho x (by simp [Op.operands])
    rw [hx] at k1
    obtain ⟨ad, e1, e2⟩ := asl_rep (l := 0) (h := n) (n := n) k1
    have hr := asl_run (P := P) (w := w) (ad := ad) hu hs (ab_0 (n := n))
    rw [if_neg (by omega)] at e2 hr
    rw [if_neg (by omega)] at e2
    exact ⟨_, by simp [execOp, e1, Sem.run_bind, hr], e2⟩
theorem h_index_ints {t e : TypeId} {x i : Operand} {k k' : IntKind} {n j : Nat} {l : List Int} (hx : ev T x = .agg [.ints k n l]) (hi : ev T i = .s (.int k' (j : Int))) (hu : P.underlying t = some (.array n e)) (hs : ∀ w, (sizeOf e).run P w = .ok 1 w) (ha : ∀ w, (isAgg e).run P w = .ok false w) (hj : j < n) :
    HOk P ⟨d, .index t x i, ty, pos, af, g⟩ T H (.s (.int k (l.getD j 0))) [] :=
  .pure fun W ρ a w _ ho => by
    obtain ⟨h1, h2⟩ := two (op := .index t x i) rfl ho hx hi
    obtain ⟨cs, e1, c1⟩ := agg_ints_cells h1
    simp only [AV.rep, SV.rep] at h2
    have hb : (0 : Int) ≤ (j : Int) ∧ (j : Int) < (n : Int) := by omega
    exact ⟨.int k (l.getD j 0), by simp [execOp, e1, h2, Instr.index, Sem.run_bind, run_underlying hu, asIntOf, hb, hj, hs, ha, part, c1 j hj], rfl⟩
/-! Functions as values -/
theorem h_mkfunc {fn : FuncId} {ops : Array Operand} {caps : List (Nat × Nat × Nat)} (hc : ops.toList.map (ev T) = caps.map fun c => AV.s (.ptr c.1 c.2.1 c.2.2)) : HOk P ⟨d, .makeFunc (.func fn) #[] ops, ty, pos, af, g⟩ T H (.s (.clo fn caps)) [] :=
  .pure fun W ρ a w _ ho => by
    refine ⟨.func (.func fn) #[] (ops.map a.eval), by simp [execOp, Instr.makeFunc, Sem.run_bind], ops.map a.eval, rfl, ?_, fun i c hi => ?_⟩
    · have := congrArg List.length hc; simpa using this
    · have h1 := congrArg (fun q => q[i]?) hc
      simp only [List.getElem?_map, hi] at h1
      cases hx : ops.toList[i]? with
      | none => rw [hx] at h1; cases h1
      | some x =>
        rw [hx] at h1
        simp only [Option.map_some, Option.some.injEq] at h1
        have hm : x ∈ (Op.makeFunc (.func fn) #[] ops).operands := by
          simp only [Op.operands]
          have : x ∈ ops.toList := List.mem_of_getElem? hx
          simpa using this
        have h2 : (ev T x).rep ρ (a.eval x) := ho x hm
        rw [h1] at h2
        obtain ⟨b, o, h3, h4⟩ := h2
        refine ⟨b, o, h3, ?_⟩
        have hx' : ops[i]? = some x := by simpa using hx
        simp [hx', h4]
theorem clo_args {xs : Array Operand} {at_ : Array TypeId} {t : Tmp} {fn : FuncId} {caps : List (Nat × Nat × Nat)} {args : List AV} {ρ : Rho} {a : Act} (ht : ev T (.tmp t) = .s (.clo fn caps)) (hargs : xs.toList.map (ev T) = args) (ho : Ops ⟨d, .call ⟨.value (.tmp t), xs, at_⟩, ty, pos, af, g⟩ T ρ a) :
    ∃ vs, a.eval (.tmp t) = .func (.func fn) #[] vs ∧ ArgsRep ρ (args ++ caps.map fun c => AV.s (.ptr c.1 c.2.1 c.2.2)) (xs.map a.eval ++ vs) := by
  have h1 : (ev T (.tmp t)).rep ρ (a.eval (.tmp t)) := ho _ (by simp [Op.operands, Call.operands])
  rw [ht] at h1
  obtain ⟨vs, e1, e2, e3⟩ := h1
  subst hargs
  refine ⟨vs, e1, by simp [e2], fun i x hx => ?_⟩
  by_cases hi : i < xs.size
  · rw [List.getElem?_append_left (by simpa using hi)] at hx
    simp only [List.getElem?_map, Option.map_eq_some_iff] at hx
    obtain ⟨y, hy, rfl⟩ := hx
    have hy' : xs[i]? = some y := by simpa using hy
    have hm : y ∈ (Op.call ⟨.value (.tmp t), xs, at_⟩).operands := by
      simp only [Op.operands, Call.operands]
      exact Array.mem_append.2 (.inr (Array.mem_of_getElem? hy'))
    have := ho y hm
    have hg : (xs.map a.eval ++ vs).getD i undef = a.eval y := by
      rw [Array.getD_eq_getD_getElem?, Array.getElem?_append_left (by simpa using hi)]
      simp [hy']
    rw [hg]; exact this
  · rw [List.getElem?_append_right (by simp; omega)] at hx
    simp only [List.length_map, Array.length_toList, List.getElem?_map, Option.map_eq_some_iff] at hx
    obtain ⟨c, hc, rfl⟩ := hx
    obtain ⟨b, o, h3, h4⟩ := e3 _ c hc
    have hg : (xs.map a.eval ++ vs).getD i undef = .pointer (some ⟨b, o + c.2.1 + c.2.2, none⟩) := by
      rw [Array.getD_eq_getD_getElem?, Array.getElem?_append_right (by simp; omega)]
      simp [h4]
    rw [hg]
    exact ⟨b, o, h3, rfl⟩
theorem run_callc {xs : Array Operand} {at_ : Array TypeId} {t : Tmp} {fn : FuncId} {vs : Array Value} {a : Act} (w : World) (hf : Callable P fn) (h : a.eval (.tmp t) = .func (.func fn) #[] vs) : (execOp a.eval ⟨d, .call ⟨.value (.tmp t), xs, at_⟩, ty, pos, af, g⟩).run P w = .ok (.enter fn (xs.map a.eval ++ vs)) w := by
  simp [execOp, resolve, h, Deferred.ofValue, invoke, Sem.run_bind, run_callFunc hf]
theorem m_callc {xs : Array Operand} {at_ : Array TypeId} {t : Tmp} {fn : FuncId} {caps : List (Nat × Nat × Nat)} {args : List AV} {v : AV} {H' : Heap} (hf : Callable P fn) (ht : ev T (.tmp t) = .s (.clo fn caps)) (hargs : xs.toList.map (ev T) = args) (h : AMut P fn H (args ++ caps.map fun c => AV.s (.ptr c.1 c.2.1 c.2.2)) v H') :
    MOk P ⟨d, .call ⟨.value (.tmp t), xs, at_⟩, ty, pos, af, g⟩ T H v H' := by
  intro W ρ a w hH hn hW ho next Q hq
  obtain ⟨vs, e1, e2⟩ := clo_args ht hargs ho
  rw [run_callc w hf e1]
  refine (h W ρ _ w hH hn hW e2).mono ?_
  rintro e w' ⟨v', ρ', rfl, h1, h2, h3, h4, h5⟩
  exact hq v' w' ⟨ρ', h1, h2, h3, h4, h5⟩
theorem h_callc {xs : Array Operand} {at_ : Array TypeId} {t : Tmp} {fn : FuncId} {caps : List (Nat × Nat × Nat)} {args : List AV} {v : AV} {nb : List Blk} (hf : Callable P fn) (ht : ev T (.tmp t) = .s (.clo fn caps)) (hargs : xs.toList.map (ev T) = args) (h : ACall P fn H (args ++ caps.map fun c => AV.s (.ptr c.1 c.2.1 c.2.2)) v nb) :
    HOk P ⟨d, .call ⟨.value (.tmp t), xs, at_⟩, ty, pos, af, g⟩ T H v nb := by
  intro W ρ a w hH hn ho next Q hq
  obtain ⟨vs, e1, e2⟩ := clo_args ht hargs ho
  rw [run_callc w hf e1]
  refine (h W ρ _ w hH hn e2).mono ?_
  rintro e w' ⟨v', ρ', rfl, h1, h2⟩
  exact hq v' w' ⟨ρ', h1, h2⟩
end rules
theorem ret_tmps2 {E : Env} {fn : Func} {T : Tm} {H : Heap} {u v : SV} {i j : Nat} (hr : fn.results = #[.tmp i, .tmp j]) (h1 : look T i = .s u) (h2 : look T j = .s v) : Ret E fn T H (.tup [.s u, .s v]) := by
  intro ρ a w hH hT
  refine ⟨.tuple #[a.tmps.getD i undef, a.tmps.getD j undef], by simp [results, hr, Sem.run_bind], _, rfl, fun n y hy => ?_⟩
  have e1 := hT i
  have e2 := hT j
  rw [h1] at e1; rw [h2] at e2
  match n, hy with
  | 0, hy => simp at hy; subst hy; exact ⟨_, rfl, e1⟩
  | 1, hy => simp at hy; subst hy; exact ⟨_, rfl, e2⟩
  | n + 2, hy => simp at hy
/-- A function without results. -/
theorem ret_none {E : Env} {fn : Func} {T : Tm} {H : Heap} (hr : fn.results = #[]) : Ret E fn T H (.tup []) := by
  intro ρ a w hH hT
  exact ⟨.tuple #[], by simp [results, hr, Sem.run_bind], _, rfl, fun n y hy => by simp at hy⟩
/-! What is handed in -/
theorem foot_same {f : Nat → Nat × Nat} {segs segs2 : List Seg} (h : segs2 = segs.map (Seg.ren f)) : ∀ (i : Nat) (x : SV), atS segs i = some x → atS segs2 (0 + i) = some (x.ren f) := by
  subst h
  intro i x hx
  rw [Nat.zero_add, atS_ren, hx]; rfl
/-- A window of integers. -/
theorem foot_win {f : Nat → Nat × Nat} {segs : List Seg} {base idx n m : Nat} {k : IntKind} {l B : List Int} (h : segAt segs base = some (.ints k m l)) (hn : idx + n ≤ m) (hB : B = (l.drop idx).take n) : ∀ (i : Nat) (x : SV), atS [.ints k n B] i = some x → atS segs (base + idx + i) = some (x.ren f) := by
  subst hB
  intro i x hx
  have h1 := win_ints h hn i x hx
  obtain ⟨_, rfl⟩ := atS_ints1 hx
  exact h1
theorem live_ptr {ρ : Rho} {args : List AV} {vals : Array Value} {id base idx i : Nat} (h : ArgsRep ρ args vals) (ha : args[i]? = some (.s (.ptr id base idx))) : ∃ x, ρ id = some x := by
  obtain ⟨b, o, h1, _⟩ := h.2 i _ ha
  exact ⟨_, h1⟩
theorem live_slice {ρ : Rho} {args : List AV} {vals : Array Value} {id base idx l c i : Nat} (h : ArgsRep ρ args vals) (ha : args[i]? = some (.s (.slice id base idx l c))) : ∃ x, ρ id = some x := by
  obtain ⟨b, o, h1, _⟩ := h.2 i _ ha
  exact ⟨_, h1⟩
theorem live_in {W : Nat → Prop} {ρ : Rho} {H : Heap} {w : World} {id base idx j p : Nat} {k : Blk} (hH : HRep W ρ H w) (hj : ∃ x, ρ j = some x) (hb : H[j]? = some (some k)) (ha : atS k.segs p = some (.ptr id base idx)) : ∃ x, ρ id = some x := by
  obtain ⟨⟨b, o⟩, hx⟩ := hj
  obtain ⟨⟨cells, t, fr, _, _, g3⟩, _⟩ := hH.rep j b o k hx hb
  obtain ⟨v, _, hc⟩ := g3 p _ ha
  obtain ⟨b', o', h1, _⟩ := hc.1
  exact ⟨_, h1⟩
theorem live_in_slice {W : Nat → Prop} {ρ : Rho} {H : Heap} {w : World} {id base idx l c j p : Nat} {k : Blk} (hH : HRep W ρ H w) (hj : ∃ x, ρ j = some x) (hb : H[j]? = some (some k)) (ha : atS k.segs p = some (.slice id base idx l c)) : ∃ x, ρ id = some x := by
  obtain ⟨⟨b, o⟩, hx⟩ := hj
  obtain ⟨⟨cells, t, fr, _, _, g3⟩, _⟩ := hH.rep j b o k hx hb
  obtain ⟨v, _, hc⟩ := g3 p _ ha
  obtain ⟨b', o', h1, _⟩ := hc.1
  exact ⟨_, h1⟩
section steps
variable {P : Program} {ops : Array Oper} {T : Tm} {H : Heap} {ty : TypeId} {pos : String} {af : Array Edge} {r l2 : List Oper} {op : Op} {d : Nat} {K : Tm → Heap → Prop}
theorem s_nb {v : AV} {nb : List Blk} {H1 : Heap} (h : HOk P ⟨some d, op, ty, pos, af, none⟩ T H v nb) (e : H ++ nb.map some = H1) (k : SK P ops r ((d, v) :: T) H1 K) : SK P ops (⟨some d, op, ty, pos, af, none⟩ :: r) T H K :=
  let ⟨T', H', k1, k2⟩ := k
  ⟨T', H', .cons (.free rfl) h (by subst e; simpa [put] using k1), k2⟩
theorem t_nb {v : AV} {nb : List Blk} {H1 : Heap} (h : HOk P ⟨some d, op, ty, pos, af, none⟩ T H v nb) (e : H ++ nb.map some = H1) (k : TK P ops r ((d, v) :: T) H1 l2 K) : TK P ops (⟨some d, op, ty, pos, af, none⟩ :: r) T H l2 K :=
  let ⟨T', H', k1, k2⟩ := k
  ⟨T', H', .cons (.free rfl) h (by subst e; simpa [put] using k1), k2⟩
theorem g_nb {v : AV} {nb : List Blk} {H1 : Heap} (h : HOk P ⟨some d, op, ty, pos, af, none⟩ T H v nb) (e : H ++ nb.map some = H1) (k : TG P ops r ((d, v) :: T) H1 K) : TG P ops (⟨some d, op, ty, pos, af, none⟩ :: r) T H K :=
  let ⟨T', H', k1, k2⟩ := k
  ⟨T', H', .cons (.free rfl) h (by subst e; simpa [put] using k1), k2⟩
end steps
def AllH : Heap → Heap → Prop
  | [], _ => True
  | none :: r, H => AllH r H.tail
  | some b :: r, H => H.head? = some (some b) ∧ AllH r H.tail
theorem allH : ∀ {Hf H : Heap}, AllH Hf H → ∀ (k : Nat) (b : Blk), Hf[k]? = some (some b) → H[k]? = some (some b)
  | [], _, _, k, b, h => by simp at h
  | none :: r, H, h, k, b, hk => by
    cases k with
    | zero => simp at hk
    | succ k =>
      have := allH (Hf := r) (H := H.tail) h k b (by simpa using hk)
      simpa using this
  | some q :: r, H, h, k, b, hk => by
    cases k with
    | zero =>
      simp at hk
      subst hk
      have := h.1
      rw [List.head?_eq_getElem?] at this
      exact this
    | succ k =>
      have := allH (Hf := r) (H := H.tail) h.2 k b (by simpa using hk)
      simpa using this
theorem doneM {E : Env} {fn : Func} {v : AV} {Hf H : Heap} {T : Tm} (h : AllH Hf H) (hr : Ret E fn T H v) : DoneM E fn v Hf .ret T H := ⟨.inl rfl, hr, allH h⟩
theorem doneN {E : Env} {fn : Func} {v : AV} {Hf H : Heap} {T : Tm} (h : AllH Hf H) (hr : Ret E fn T H v) : DoneM E fn v Hf .normal T H := ⟨.inr rfl, hr, allH h⟩
theorem wrap_u64_nonneg (x : Int) : 0 ≤ IntKind.u64.wrap x := by
  unfold IntKind.wrap
  simp [IntKind.bits, IntKind.signed]
  omega
end Go.Ab
