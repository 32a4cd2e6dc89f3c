/- A part of the proofs of this claim: AbC (Ab18, Ab19, Ab20, Ab21, Ab22, Ab23). No conditions. -/
import Derived.Test.YthlkbpkjmkdilaaGreatAbB
import Derived.RangeFuncRecord
import Derived.RangeFuncCalls
set_option linter.unusedVariables false
set_option linter.unusedSimpArgs false
section
/- More rules: copies, arrays cut, literal slices, functions made and called. No program. -/
namespace Go.Ab
section rules
variable {P : Program} {d : Option Tmp} {ty : TypeId} {pos : String} {af : Array Edge} {g : Option (Tmp × Bool)} {T : Tm} {H : Heap}
theorem h_bsli1 {t e : TypeId} {x0 : Operand} {k : IntKind} {a0 : Int} {z : Value} {n : Nat} (h0 : ev T x0 = .s (.int k a0)) (hu : P.underlying t = some (.slice e)) (hs : ∀ w, (sizeOf e).run P w = .ok 1 w) (hz : ∀ w, (zeroValue e).run P w = .ok z w) (hz1 : z.cells = #[z]) (hn : H.length = n) :
    HOk P ⟨d, .buildSlice t 1 #[(0, x0)], ty, pos, af, g⟩ T H (.s (.slice n 0 0 1 1)) [⟨true, [.ints k 1 [a0]]⟩] := by
  subst hn
  intro W ρ a w hH hf ho next Q hq
  have r0 : (SV.int k a0).rep ρ (a.eval x0) := by have := ho x0 (by simp [Op.operands]); rwa [h0] at this
  have c0 := SV.oneCell r0 (by simp)
  have k0 := cells_one c0
  have hrun : (execOp a.eval ⟨d, .buildSlice t 1 #[(0, x0)], ty, pos, af, g⟩).run P w = .ok (.value (.slice (some ⟨w.heap.size, 0, none⟩) 1 1)) (w.alloc (.cells #[a.eval x0] e)) := by
    simp only [execOp, List.map_toArray, List.map_cons, List.map_nil]
    generalize a.eval x0 = X0 at *
    simp [Instr.buildSlice, Instr.fill, Sem.run_bind, run_underlying hu, hs, hz, newRow, k0, hz1]
    have hr : Array.range 1 = #[0] := by decide
    simp [hr]
  rw [hrun]
  have h0 : ρ H.length = none := by have := hf 0 (by simp); simpa using this
  refine hq _ _ ⟨_, .one h0 (fun ρ' hl i y hy => ?_), w.heap.size, 0, by simp [upd], rfl⟩
  obtain ⟨hi, rfl⟩ := atS_ints1 hy
  match i, hi with
  | 0, _ => exact ⟨_, rfl, SV.rep_le hl r0, c0⟩
  | i + 1, hi => exact absurd hi (by omega)

theorem h_bsli2 {t e : TypeId} {x0 x1 : Operand} {k : IntKind} {a0 a1 : Int} {z : Value} {n : Nat} (h0 : ev T x0 = .s (.int k a0)) (h1 : ev T x1 = .s (.int k a1)) (hu : P.underlying t = some (.slice e)) (hs : ∀ w, (sizeOf e).run P w = .ok 1 w) (hz : ∀ w, (zeroValue e).run P w = .ok z w) (hz1 : z.cells = #[z]) (hn : H.length = n) :
    HOk P ⟨d, .buildSlice t 2 #[(0, x0), (1, x1)], ty, pos, af, g⟩ T H (.s (.slice n 0 0 2 2)) [⟨true, [.ints k 2 [a0, a1]]⟩] := by
  subst hn
  intro W ρ a w hH hf ho next Q hq
  have r0 : (SV.int k a0).rep ρ (a.eval x0) := by have := ho x0 (by simp [Op.operands]); rwa [h0] at this
  have c0 := SV.oneCell r0 (by simp)
  have k0 := cells_one c0
  have r1 : (SV.int k a1).rep ρ (a.eval x1) := by have := ho x1 (by simp [Op.operands]); rwa [h1] at this
  have c1 := SV.oneCell r1 (by simp)
  have k1 := cells_one c1
  have hrun : (execOp a.eval ⟨d, .buildSlice t 2 #[(0, x0), (1, x1)], ty, pos, af, g⟩).run P w = .ok (.value (.slice (some ⟨w.heap.size, 0, none⟩) 2 2)) (w.alloc (.cells #[a.eval x0, a.eval x1] e)) := by
    simp only [execOp, List.map_toArray, List.map_cons, List.map_nil]
    generalize a.eval x0 = X0 at *
    generalize a.eval x1 = X1 at *
    simp [Instr.buildSlice, Instr.fill, Sem.run_bind, run_underlying hu, hs, hz, newRow, k0, k1, hz1]
    have hr : Array.range 2 = #[0, 1] := by decide
    simp [hr]
  rw [hrun]
  have h0 : ρ H.length = none := by have := hf 0 (by simp); simpa using this
  refine hq _ _ ⟨_, .one h0 (fun ρ' hl i y hy => ?_), w.heap.size, 0, by simp [upd], rfl⟩
  obtain ⟨hi, rfl⟩ := atS_ints1 hy
  match i, hi with
  | 0, _ => exact ⟨_, rfl, SV.rep_le hl r0, c0⟩
  | 1, _ => exact ⟨_, rfl, SV.rep_le hl r1, c1⟩
  | i + 2, hi => exact absurd hi (by omega)

theorem h_bsli3 {t e : TypeId} {x0 x1 x2 : Operand} {k : IntKind} {a0 a1 a2 : Int} {z : Value} {n : Nat} (h0 : ev T x0 = .s (.int k a0)) (h1 : ev T x1 = .s (.int k a1)) (h2 : ev T x2 = .s (.int k a2)) (hu : P.underlying t = some (.slice e)) (hs : ∀ w, (sizeOf e).run P w = .ok 1 w) (hz : ∀ w, (zeroValue e).run P w = .ok z w) (hz1 : z.cells = #[z]) (hn : H.length = n) :
    HOk P ⟨d, .buildSlice t 3 #[(0, x0), (1, x1), (2, x2)], ty, pos, af, g⟩ T H (.s (.slice n 0 0 3 3)) [⟨true, [.ints k 3 [a0, a1, a2]]⟩] := by
  subst hn
  intro W ρ a w hH hf ho next Q hq
  have r0 : (SV.int k a0).rep ρ (a.eval x0) := by have := ho x0 (by simp [Op.operands]); rwa [h0] at this
  have c0 := SV.oneCell r0 (by simp)
  have k0 := cells_one c0
  have r1 : (SV.int k a1).rep ρ (a.eval x1) := by have := ho x1 (by simp [Op.operands]); rwa [h1] at this
  have c1 := SV.oneCell r1 (by simp)
  have k1 := cells_one c1
  have r2 : (SV.int k a2).rep ρ (a.eval x2) := by have := ho x2 (by simp [Op.operands]); rwa [h2] at this
  have c2 := SV.oneCell r2 (by simp)
  have k2 := cells_one c2
  have hrun : (execOp a.eval ⟨d, .buildSlice t 3 #[(0, x0), (1, x1), (2, x2)], ty, pos, af, g⟩).run P w = .ok (.value (.slice (some ⟨w.heap.size, 0, none⟩) 3 3)) (w.alloc (.cells #[a.eval x0, a.eval x1, a.eval x2] e)) := by
    simp only [execOp, List.map_toArray, List.map_cons, List.map_nil]
    generalize a.eval x0 = X0 at *
    generalize a.eval x1 = X1 at *
    generalize a.eval x2 = X2 at *
    simp [Instr.buildSlice, Instr.fill, Sem.run_bind, run_underlying hu, hs, hz, newRow, k0, k1, k2, hz1]
    have hr : Array.range 3 = #[0, 1, 2] := by decide
    simp [hr]
  rw [hrun]
  have h0 : ρ H.length = none := by have := hf 0 (by simp); simpa using this
  refine hq _ _ ⟨_, .one h0 (fun ρ' hl i y hy => ?_), w.heap.size, 0, by simp [upd], rfl⟩
  obtain ⟨hi, rfl⟩ := atS_ints1 hy
  match i, hi with
  | 0, _ => exact ⟨_, rfl, SV.rep_le hl r0, c0⟩
  | 1, _ => exact ⟨_, rfl, SV.rep_le hl r1, c1⟩
  | 2, _ => exact ⟨_, rfl, SV.rep_le hl r2, c2⟩
  | i + 3, hi => exact absurd hi (by omega)

theorem h_bsli4 {t e : TypeId} {x0 x1 x2 x3 : Operand} {k : IntKind} {a0 a1 a2 a3 : Int} {z : Value} {n : Nat} (h0 : ev T x0 = .s (.int k a0)) (h1 : ev T x1 = .s (.int k a1)) (h2 : ev T x2 = .s (.int k a2)) (h3 : ev T x3 = .s (.int k a3)) (hu : P.underlying t = some (.slice e)) (hs : ∀ w, (sizeOf e).run P w = .ok 1 w) (hz : ∀ w, (zeroValue e).run P w = .ok z w) (hz1 : z.cells = #[z]) (hn : H.length = n) :
    HOk P ⟨d, .buildSlice t 4 #[(0, x0), (1, x1), (2, x2), (3, x3)], ty, pos, af, g⟩ T H (.s (.slice n 0 0 4 4)) [⟨true, [.ints k 4 [a0, a1, a2, a3]]⟩] := by
  subst hn
  intro W ρ a w hH hf ho next Q hq
  have r0 : (SV.int k a0).rep ρ (a.eval x0) := by have := ho x0 (by simp [Op.operands]); rwa [h0] at this
  have c0 := SV.oneCell r0 (by simp)
  have k0 := cells_one c0
  have r1 : (SV.int k a1).rep ρ (a.eval x1) := by have := ho x1 (by simp [Op.operands]); rwa [h1] at this
  have c1 := SV.oneCell r1 (by simp)
  have k1 := cells_one c1
  have r2 : (SV.int k a2).rep ρ (a.eval x2) := by have := ho x2 (by simp [Op.operands]); rwa [h2] at this
  have c2 := SV.oneCell r2 (by simp)
  have k2 := cells_one c2
  have r3 : (SV.int k a3).rep ρ (a.eval x3) := by have := ho x3 (by simp [Op.operands]); rwa [h3] at this
  have c3 := SV.oneCell r3 (by simp)
  have k3 := cells_one c3
  have hrun : (execOp a.eval ⟨d, .buildSlice t 4 #[(0, x0), (1, x1), (2, x2), (3, x3)], ty, pos, af, g⟩).run P w = .ok (.value (.slice (some ⟨w.heap.size, 0, none⟩) 4 4)) (w.alloc (.cells #[a.eval x0, a.eval x1, a.eval x2, a.eval x3] e)) := by
    simp only [execOp, List.map_toArray, List.map_cons, List.map_nil]
    generalize a.eval x0 = X0 at *
    generalize a.eval x1 = X1 at *
    generalize a.eval x2 = X2 at *
    generalize a.eval x3 = X3 at *
    simp [Instr.buildSlice, Instr.fill, Sem.run_bind, run_underlying hu, hs, hz, newRow, k0, k1, k2, k3, hz1]
    have hr : Array.range 4 = #[0, 1, 2, 3] := by decide
    simp [hr]
  rw [hrun]
  have h0 : ρ H.length = none := by have := hf 0 (by simp); simpa using this
  refine hq _ _ ⟨_, .one h0 (fun ρ' hl i y hy => ?_), w.heap.size, 0, by simp [upd], rfl⟩
  obtain ⟨hi, rfl⟩ := atS_ints1 hy
  match i, hi with
  | 0, _ => exact ⟨_, rfl, SV.rep_le hl r0, c0⟩
  | 1, _ => exact ⟨_, rfl, SV.rep_le hl r1, c1⟩
  | 2, _ => exact ⟨_, rfl, SV.rep_le hl r2, c2⟩
  | 3, _ => exact ⟨_, rfl, SV.rep_le hl r3, c3⟩
  | i + 4, hi => exact absurd hi (by omega)

theorem h_bsls1 {t e : TypeId} {x0 : Operand} {u0 : SV} {z : Value} {n : Nat} (h0 : ev T x0 = .s u0) (j0 : u0 ≠ .junk) (hu : P.underlying t = some (.slice e)) (hs : ∀ w, (sizeOf e).run P w = .ok 1 w) (hz : ∀ w, (zeroValue e).run P w = .ok z w) (hz1 : z.cells = #[z]) (hn : H.length = n) :
    HOk P ⟨d, .buildSlice t 1 #[(0, x0)], ty, pos, af, g⟩ T H (.s (.slice n 0 0 1 1)) [⟨true, [.one u0]⟩] := by
  subst hn
  intro W ρ a w hH hf ho next Q hq
  have r0 : u0.rep ρ (a.eval x0) := by have := ho x0 (by simp [Op.operands]); rwa [h0] at this
  have c0 := SV.oneCell r0 j0
  have k0 := cells_one c0
  have hrun : (execOp a.eval ⟨d, .buildSlice t 1 #[(0, x0)], ty, pos, af, g⟩).run P w = .ok (.value (.slice (some ⟨w.heap.size, 0, none⟩) 1 1)) (w.alloc (.cells #[a.eval x0] e)) := by
    simp only [execOp, List.map_toArray, List.map_cons, List.map_nil]
    generalize a.eval x0 = X0 at *
    simp [Instr.buildSlice, Instr.fill, Sem.run_bind, run_underlying hu, hs, hz, newRow, k0, hz1]
    have hr : Array.range 1 = #[0] := by decide
    simp [hr]
  rw [hrun]
  have h0 : ρ H.length = none := by have := hf 0 (by simp); simpa using this
  refine hq _ _ ⟨_, .one h0 (fun ρ' hl i y hy => ?_), w.heap.size, 0, by simp [upd], rfl⟩
  match i, hy with
  | 0, hy => simp [atS, Seg.size, Seg.at] at hy; subst hy; exact ⟨_, rfl, SV.rep_le hl r0, c0⟩
  | i + 1, hy => simp [atS, Seg.size] at hy

theorem h_bsls2 {t e : TypeId} {x0 x1 : Operand} {u0 u1 : SV} {z : Value} {n : Nat} (h0 : ev T x0 = .s u0) (h1 : ev T x1 = .s u1) (j0 : u0 ≠ .junk) (j1 : u1 ≠ .junk) (hu : P.underlying t = some (.slice e)) (hs : ∀ w, (sizeOf e).run P w = .ok 1 w) (hz : ∀ w, (zeroValue e).run P w = .ok z w) (hz1 : z.cells = #[z]) (hn : H.length = n) :
    HOk P ⟨d, .buildSlice t 2 #[(0, x0), (1, x1)], ty, pos, af, g⟩ T H (.s (.slice n 0 0 2 2)) [⟨true, [.one u0, .one u1]⟩] := by
  subst hn
  intro W ρ a w hH hf ho next Q hq
  have r0 : u0.rep ρ (a.eval x0) := by have := ho x0 (by simp [Op.operands]); rwa [h0] at this
  have c0 := SV.oneCell r0 j0
  have k0 := cells_one c0
  have r1 : u1.rep ρ (a.eval x1) := by have := ho x1 (by simp [Op.operands]); rwa [h1] at this
  have c1 := SV.oneCell r1 j1
  have k1 := cells_one c1
  have hrun : (execOp a.eval ⟨d, .buildSlice t 2 #[(0, x0), (1, x1)], ty, pos, af, g⟩).run P w = .ok (.value (.slice (some ⟨w.heap.size, 0, none⟩) 2 2)) (w.alloc (.cells #[a.eval x0, a.eval x1] e)) := by
    simp only [execOp, List.map_toArray, List.map_cons, List.map_nil]
    generalize a.eval x0 = X0 at *
    generalize a.eval x1 = X1 at *
    simp [Instr.buildSlice, Instr.fill, Sem.run_bind, run_underlying hu, hs, hz, newRow, k0, k1, hz1]
    have hr : Array.range 2 = #[0, 1] := by decide
    simp [hr]
  rw [hrun]
  have h0 : ρ H.length = none := by have := hf 0 (by simp); simpa using this
  refine hq _ _ ⟨_, .one h0 (fun ρ' hl i y hy => ?_), w.heap.size, 0, by simp [upd], rfl⟩
  match i, hy with
  | 0, hy => simp [atS, Seg.size, Seg.at] at hy; subst hy; exact ⟨_, rfl, SV.rep_le hl r0, c0⟩
  | 1, hy => simp [atS, Seg.size, Seg.at] at hy; subst hy; exact ⟨_, rfl, SV.rep_le hl r1, c1⟩
  | i + 2, hy => simp [atS, Seg.size] at hy

theorem h_bsls3 {t e : TypeId} {x0 x1 x2 : Operand} {u0 u1 u2 : SV} {z : Value} {n : Nat} (h0 : ev T x0 = .s u0) (h1 : ev T x1 = .s u1) (h2 : ev T x2 = .s u2) (j0 : u0 ≠ .junk) (j1 : u1 ≠ .junk) (j2 : u2 ≠ .junk) (hu : P.underlying t = some (.slice e)) (hs : ∀ w, (sizeOf e).run P w = .ok 1 w) (hz : ∀ w, (zeroValue e).run P w = .ok z w) (hz1 : z.cells = #[z]) (hn : H.length = n) :
    HOk P ⟨d, .buildSlice t 3 #[(0, x0), (1, x1), (2, x2)], ty, pos, af, g⟩ T H (.s (.slice n 0 0 3 3)) [⟨true, [.one u0, .one u1, .one u2]⟩] := by
  subst hn
  intro W ρ a w hH hf ho next Q hq
  have r0 : u0.rep ρ (a.eval x0) := by have := ho x0 (by simp [Op.operands]); rwa [h0] at this
  have c0 := SV.oneCell r0 j0
  have k0 := cells_one c0
  have r1 : u1.rep ρ (a.eval x1) := by have := ho x1 (by simp [Op.operands]); rwa [h1] at this
  have c1 := SV.oneCell r1 j1
  have k1 := cells_one c1
  have r2 : u2.rep ρ (a.eval x2) := by have := ho x2 (by simp [Op.operands]); rwa [h2] at this
  have c2 := SV.oneCell r2 j2
  have k2 := cells_one c2
  have hrun : (execOp a.eval ⟨d, .buildSlice t 3 #[(0, x0), (1, x1), (2, x2)], ty, pos, af, g⟩).run P w = .ok (.value (.slice (some ⟨w.heap.size, 0, none⟩) 3 3)) (w.alloc (.cells #[a.eval x0, a.eval x1, a.eval x2] e)) := by
    simp only [execOp, List.map_toArray, List.map_cons, List.map_nil]
    generalize a.eval x0 = X0 at *
    generalize a.eval x1 = X1 at *
    generalize a.eval x2 = X2 at *
    simp [Instr.buildSlice, Instr.fill, Sem.run_bind, run_underlying hu, hs, hz, newRow, k0, k1, k2, hz1]
    have hr : Array.range 3 = #[0, 1, 2] := by decide
    simp [hr]
  rw [hrun]
  have h0 : ρ H.length = none := by have := hf 0 (by simp); simpa using this
  refine hq _ _ ⟨_, .one h0 (fun ρ' hl i y hy => ?_), w.heap.size, 0, by simp [upd], rfl⟩
  match i, hy with
  | 0, hy => simp [atS, Seg.size, Seg.at] at hy; subst hy; exact ⟨_, rfl, SV.rep_le hl r0, c0⟩
  | 1, hy => simp [atS, Seg.size, Seg.at] at hy; subst hy; exact ⟨_, rfl, SV.rep_le hl r1, c1⟩
  | 2, hy => simp [atS, Seg.size, Seg.at] at hy; subst hy; exact ⟨_, rfl, SV.rep_le hl r2, c2⟩
  | i + 3, hy => simp [atS, Seg.size] at hy


/-! Copies -/
theorem loadCells_ints {w : World} {b o n : Nat} {k : IntKind} {zs : List Int} {cells : Array Value} {t : TypeId} {fr : Nat × Nat} (hb : w.heap[b]? = some (.cells cells t fr)) (hz : zs.length = n) (h : ∀ i, i < n → cells[o + i]? = some (.int k (zs.getD i 0))) (len cap : Nat) :
    (Builtin.firstCells 1 n (.slice (some ⟨b, o, none⟩) len cap)).run P w = .ok (zs.map (Value.int k)).toArray w := by
  refine run_firstCells_some w 1 n ⟨b, o, none⟩ len cap (zs.map (Value.int k)) (by simp [hz]) fun j v hj => ?_
  simp only [List.getElem?_map, Option.map_eq_some_iff] at hj
  obtain ⟨y, hy, rfl⟩ := hj
  have hlt : j < n := by rw [← hz]; exact (List.getElem?_eq_some_iff.1 hy).1
  have hc := h j hlt
  have e : zs.getD j 0 = y := by simp [List.getD_eq_getElem?_getD, hy]
  rw [e] at hc
  rw [addr_add]
  simp [World.cell?, hb, hc]
theorem m_copy {x y : Operand} {t t' e rt : TypeId} {id base idx dl dc id2 base2 idx2 sl sc n m2 : Nat} {k : IntKind} {segs segs' : List Seg} {bk2 : Blk} {ys : List Int} (hx : ev T x = .s (.slice id base idx dl dc)) (hy : ev T y = .s (.slice id2 base2 idx2 sl sc)) (hb : H[id]? = some (some ⟨true, segs⟩))
    (hb2 : H[id2]? = some (some bk2)) (hs2 : segAt bk2.segs base2 = some (.ints k m2 ys)) (hl2 : ys.length = m2) (hfit2 : idx2 + n ≤ m2) (hn : min sl dl = n) (hu : P.underlying t = some (.slice e)) (hs : ∀ w, (sizeOf e).run P w = .ok 1 w)
    (hp : PutS segs (base + idx) n [.ints k n ((ys.drop idx2).take n)] segs') : MOk P ⟨d, .call ⟨.builtin .copy, #[x, y], #[t, t']⟩, rt, pos, af, g⟩ T H (.s (.int .i64 n)) (H.set id (some ⟨true, segs'⟩)) := by
  intro W ρ a w hH hnn hW ho next Q hq
  have h1 : (ev T x).rep ρ (a.eval x) := ho x (by simp [Op.operands, Call.operands])
  have h2 : (ev T y).rep ρ (a.eval y) := ho y (by simp [Op.operands, Call.operands])
  rw [hx] at h1
  rw [hy] at h2
  obtain ⟨b, o, hρ, h1⟩ := h1
  obtain ⟨b2, o2, hρ2, h2⟩ := h2
  obtain ⟨⟨cells, tt, fr, g1, g2, g3⟩, hWb⟩ := hH.rep id b o _ hρ hb
  obtain ⟨⟨cells2, tt2, fr2, q1, q2, q3⟩, _⟩ := hH.rep id2 b2 o2 _ hρ2 hb2
  have hfr := g2 rfl
  subst hfr
  have hsrc : ∀ i, i < n → cells2[o2 + base2 + idx2 + i]? = some (.int k (((ys.drop idx2).take n).getD i 0)) := by
    intro i hi
    obtain ⟨v, hv, hc⟩ := q3 (base2 + (idx2 + i)) _ (segAt_at hs2 (idx2 + i) (by show idx2 + i < m2; omega))
    have hc : v = .int k (ys.getD (idx2 + i) 0) := hc.1
    subst hc
    have hv : cells2[o2 + (base2 + (idx2 + i))]? = some (.int k (ys.getD (idx2 + i) 0)) := hv
    rw [show o2 + base2 + idx2 + i = o2 + (base2 + (idx2 + i)) by omega, hv]
    simp [List.getD_eq_getElem?_getD, List.getElem?_take, List.getElem?_drop, hi]
  have hzl : ((ys.drop idx2).take n).length = n := by simp; omega
  have hfc := loadCells_ints (P := P) q1 hzl hsrc sl sc
  generalize (ys.drop idx2).take n = zs at *
  have hfit : o + (base + idx) + n ≤ cells.size := by
    have hle := hp.1
    obtain ⟨y, hy⟩ := atS_some (l := segs) (i := base + idx + n - 1) (by omega)
    obtain ⟨v, hv, _⟩ := g3 _ y hy
    have : o + (base + idx + n - 1) < cells.size := by
      rcases Nat.lt_or_ge (o + (base + idx + n - 1)) cells.size with h | h
      · exact h
      · simp [Array.getElem?_eq_none h] at hv
    omega
  have hst := run_storeCells_at P b (o + (base + idx)) tt (zs.map (Value.int k)) 0 cells w g1 (by simp; omega) (by intro v hv; obtain ⟨z, _, rfl⟩ := List.mem_map.1 hv; rfl)
  rw [Nat.add_zero] at hst
  have hrun : (execOp a.eval ⟨d, .call ⟨.builtin .copy, #[x, y], #[t, t']⟩, rt, pos, af, g⟩).run P w = .ok (.value (.int .i64 n)) (w.setRow b (cells.toList.take (o + (base + idx)) ++ zs.map (Value.int k) ++ cells.toList.drop (o + (base + idx) + (zs.map (Value.int k)).length)).toArray) := by
    have hn' : Nat.min sl dl = n := hn
    simp only [execOp, resolve, invoke, builtin, List.map_toArray, List.map_cons, List.map_nil, h1, h2]
    rw [show o + base + idx = o + (base + idx) by omega]
    simp [Builtin.copy_, Sem.run_bind, run_underlying hu, Builtin.lenOf, hn', hs, hfc, goInt]
    rw [hst]; simp
  rw [hrun]
  refine hq _ _ ⟨ρ, fun i hi => hnn i (by simpa using hi), .refl _, ?_, Fr.setRow _ (hWb rfl), rfl⟩
  refine hH.write hρ hb g1 g3 hp (by simp; omega) (fun i z hz => ?_) hfit
  obtain ⟨hi, rfl⟩ := atS_ints1 hz
  refine ⟨.int k (zs.getD i 0), ?_, rfl, rfl⟩
  have : i < zs.length := by omega
  simp [List.getD_eq_getElem?_getD, this]
/-- Nothing is copied. -/
theorem h_copy0 {x y : Operand} {t t' e rt : TypeId} {id base idx dl dc : Nat} {u : SV} (hx : ev T x = .s (.slice id base idx dl dc)) (hy : ev T y = .s u) (hu0 : u = .nils ∨ (∃ i2 b2 x2 c2, u = .slice i2 b2 x2 0 c2) ∨ ∃ ad c, u = .val (.slice ad 0 c)) (hu : P.underlying t = some (.slice e)) (hs : ∀ w, (sizeOf e).run P w = .ok 1 w) :
    HOk P ⟨d, .call ⟨.builtin .copy, #[x, y], #[t, t']⟩, rt, pos, af, g⟩ T H (.s (.int .i64 0)) [] :=
  .pure fun W ρ a w _ ho => by
    have h1 : (ev T x).rep ρ (a.eval x) := ho x (by simp [Op.operands, Call.operands])
    have h2 : (ev T y).rep ρ (a.eval y) := ho y (by simp [Op.operands, Call.operands])
    rw [hx] at h1
    rw [hy] at h2
    obtain ⟨b, o, hρ, h1⟩ := h1
    obtain ⟨ad, c, h2⟩ : ∃ ad c, a.eval y = .slice ad 0 c := by
      rcases hu0 with rfl | ⟨i2, b2, x2, c2, rfl⟩ | ⟨ad, c, rfl⟩
      · exact ⟨none, 0, h2⟩
      · obtain ⟨b', o', _, h2⟩ := h2; exact ⟨_, _, h2⟩
      · exact ⟨ad, c, h2.1⟩
    refine ⟨.int .i64 0, ?_, rfl⟩
    have hf : (Builtin.firstCells 1 0 (.slice ad 0 c)).run P w = .ok #[] w := by
      cases ad with
      | none => simp [Builtin.firstCells]
      | some ad => exact run_firstCells_some w 1 0 ad 0 c [] (by simp) (fun j v hj => by simp at hj)
    simp [execOp, resolve, invoke, builtin, h1, h2, Builtin.copy_, Sem.run_bind, run_underlying hu, Builtin.lenOf, hs, hf, goInt, storeCells]
/-! Arrays cut -/
theorem asl_run {w : World} {t e : TypeId} {n : Nat} {ad : Addr} {l h m : Nat} {lo hi mx : Option Value} (hu : P.underlying t = some (.array n e)) (hs : ∀ w, (sizeOf e).run P w = .ok 1 w) (hb : (Instr.sliceBounds false n n lo hi mx).run P w = .ok (l, h, m) w) :
    (Instr.sliceAt t (.pointer (some ad)) lo hi mx).run P w = .ok (.slice (some (if m = l then ad else ad.add l)) (h - l) (m - l)) w := by
  simp [Instr.sliceAt, Instr.sureAddr, Sem.run_bind, run_underlying hu, hb, hs]
theorem ab_l {w : World} {n l : Nat} {k : IntKind} (h1 : l ≤ n) : (Instr.sliceBounds false n n (some (.int k (l : Int))) none none).run P w = .ok (l, n, n) w := by
  simp [Instr.sliceBounds, Sem.run_bind, run_sliceBound w k (l : Int) n _ (by omega) (by omega)]
theorem ab_h {w : World} {n h : Nat} {k : IntKind} (h1 : h ≤ n) : (Instr.sliceBounds false n n none (some (.int k (h : Int))) none).run P w = .ok (0, h, n) w := by
  simp [Instr.sliceBounds, Sem.run_bind, run_sliceBound w k (h : Int) n _ (by omega) (by omega)]
theorem ab_lh {w : World} {n l h : Nat} {k k' : IntKind} (h1 : l ≤ h) (h2 : h ≤ n) : (Instr.sliceBounds false n n (some (.int k (l : Int))) (some (.int k' (h : Int))) none).run P w = .ok (l, h, n) w := by
  simp [Instr.sliceBounds, Sem.run_bind, run_sliceBound w k (l : Int) h _ (by omega) (by omega), run_sliceBound w k' (h : Int) n _ (by omega) (by omega)]
theorem ab_0 {w : World} {n : Nat} : (Instr.sliceBounds false n n none none none).run P w = .ok (0, n, n) w := by
  simp [Instr.sliceBounds, Sem.run_bind]
theorem asl_rep {ρ : Rho} {id base idx n l h : Nat} {v : Value} (hr : (SV.ptr id base idx).rep ρ v) : ∃ ad, v = .pointer (some ad) ∧ (SV.slice id base (if n = l then idx else idx + l) (h - l) (n - l)).rep ρ (.slice (some (if n = l then ad else ad.add l)) (h - l) (n - l)) := by
  obtain ⟨b, o, h1, rfl⟩ := hr
  refine ⟨_, rfl, b, o, h1, ?_⟩
  by_cases e : n = l
  · simp [e]
  · simp only [if_neg e, addr_add, Nat.add_assoc]
theorem h_asl_l {t e : TypeId} {x i : Operand} {id base idx n l : Nat} {k : IntKind} {m : Int} (hx : ev T x = .s (.ptr id base idx)) (hi : ev T i = .s (.int k m)) (hm : m = (l : Int)) (hu : P.underlying t = some (.array n e)) (hs : ∀ w, (sizeOf e).run P w = .ok 1 w) (h1 : l < n) :
    HOk P ⟨d, .slice t x (some i) none none, ty, pos, af, g⟩ T H (.s (.slice id base (idx + l) (n - l) (n - l))) [] :=
  .pure fun W ρ a w _ ho => by
    subst hm
    have k1 := ho x (by simp [Op.operands])
    have k2 := ho i (by simp [Op.operands])
    rw [hx] at k1
    rw [hi] at k2
    simp only [AV.rep, SV.rep] at k2
    obtain ⟨ad, e1, e2⟩ := asl_rep (l := l) (h := n) (n := n) k1
    have hr := asl_run (P := P) (w := w) (ad := ad) hu hs (ab_l (k := k) (Nat.le_of_lt h1))
    rw [if_neg (by omega)] at e2 hr
    rw [if_neg (by omega)] at e2
    exact ⟨_, by simp [execOp, e1, k2, Sem.run_bind, hr], e2⟩
theorem h_asl_h {t e : TypeId} {x i : Operand} {id base idx n h : Nat} {k : IntKind} {m : Int} (hx : ev T x = .s (.ptr id base idx)) (hi : ev T i = .s (.int k m)) (hm : m = (h : Int)) (hu : P.underlying t = some (.array n e)) (hs : ∀ w, (sizeOf e).run P w = .ok 1 w) (h1 : h ≤ n) (h0 : 0 < n) :
    HOk P ⟨d, .slice t x none (some i) none, ty, pos, af, g⟩ T H (.s (.slice id base idx h n)) [] :=
  .pure fun W ρ a w _ ho => by
    subst hm
    have k1 := ho x (by simp [Op.operands])
    have k2 := ho i (by simp [Op.operands])
    rw [hx] at k1
    rw [hi] at k2
    simp only [AV.rep, SV.rep] at k2
    obtain ⟨ad, e1, e2⟩ := asl_rep (l := 0) (h := h) (n := n) k1
    have hr := asl_run (P := P) (w := w) (ad := ad) hu hs (ab_h (k := k) h1)
    rw [if_neg (by omega)] at e2 hr
    rw [if_neg (by omega)] at e2
    exact ⟨_, by simp [execOp, e1, k2, Sem.run_bind, hr], e2⟩
theorem h_asl_0 {t e : TypeId} {x : Operand} {id base idx n : Nat} (hx : ev T x = .s (.ptr id base idx)) (hu : P.underlying t = some (.array n e)) (hs : ∀ w, (sizeOf e).run P w = .ok 1 w) (h0 : 0 < n) :
    HOk P ⟨d, .slice t x none none none, ty, pos, af, g⟩ T H (.s (.slice id base idx n n)) [] :=
  .pure fun W ρ a w _ ho => by
    have k1 := ho x (by simp [Op.operands])
    rw [hx] at k1
    obtain ⟨ad, e1, e2⟩ := asl_rep (l := 0) (h := n) (n := n) k1
    have hr := asl_run (P := P) (w := w) (ad := ad) hu hs (ab_0 (n := n))
    rw [if_neg (by omega)] at e2 hr
    rw [if_neg (by omega)] at e2
    exact ⟨_, by simp [execOp, e1, Sem.run_bind, hr], e2⟩
theorem h_index_ints {t e : TypeId} {x i : Operand} {k k' : IntKind} {n j : Nat} {l : List Int} (hx : ev T x = .agg [.ints k n l]) (hi : ev T i = .s (.int k' (j : Int))) (hu : P.underlying t = some (.array n e)) (hs : ∀ w, (sizeOf e).run P w = .ok 1 w) (ha : ∀ w, (isAgg e).run P w = .ok false w) (hj : j < n) :
    HOk P ⟨d, .index t x i, ty, pos, af, g⟩ T H (.s (.int k (l.getD j 0))) [] :=
  .pure fun W ρ a w _ ho => by
    obtain ⟨h1, h2⟩ := two (op := .index t x i) rfl ho hx hi
    obtain ⟨cs, e1, c1⟩ := agg_ints_cells h1
    simp only [AV.rep, SV.rep] at h2
    have hb : (0 : Int) ≤ (j : Int) ∧ (j : Int) < (n : Int) := by omega
    exact ⟨.int k (l.getD j 0), by simp [execOp, e1, h2, Instr.index, Sem.run_bind, run_underlying hu, asIntOf, hb, hj, hs, ha, part, c1 j hj], rfl⟩
/-! Functions as values -/
theorem h_mkfunc {fn : FuncId} {ops : Array Operand} {caps : List (Nat × Nat × Nat)} (hc : ops.toList.map (ev T) = caps.map fun c => AV.s (.ptr c.1 c.2.1 c.2.2)) : HOk P ⟨d, .makeFunc (.func fn) #[] ops, ty, pos, af, g⟩ T H (.s (.clo fn caps)) [] :=
  .pure fun W ρ a w _ ho => by
    refine ⟨.func (.func fn) #[] (ops.map a.eval), by simp [execOp, Instr.makeFunc, Sem.run_bind], ops.map a.eval, rfl, ?_, fun i c hi => ?_⟩
    · have := congrArg List.length hc; simpa using this
    · have h1 := congrArg (fun q => q[i]?) hc
      simp only [List.getElem?_map, hi] at h1
      cases hx : ops.toList[i]? with
      | none => rw [hx] at h1; cases h1
      | some x =>
        rw [hx] at h1
        simp only [Option.map_some, Option.some.injEq] at h1
        have hm : x ∈ (Op.makeFunc (.func fn) #[] ops).operands := by
          simp only [Op.operands]
          have : x ∈ ops.toList := List.mem_of_getElem? hx
          simpa using this
        have h2 : (ev T x).rep ρ (a.eval x) := ho x hm
        rw [h1] at h2
        obtain ⟨b, o, h3, h4⟩ := h2
        refine ⟨b, o, h3, ?_⟩
        have hx' : ops[i]? = some x := by simpa using hx
        simp [hx', h4]
theorem clo_args {xs : Array Operand} {at_ : Array TypeId} {t : Tmp} {fn : FuncId} {caps : List (Nat × Nat × Nat)} {args : List AV} {ρ : Rho} {a : Act} (ht : ev T (.tmp t) = .s (.clo fn caps)) (hargs : xs.toList.map (ev T) = args) (ho : Ops ⟨d, .call ⟨.value (.tmp t), xs, at_⟩, ty, pos, af, g⟩ T ρ a) :
    ∃ vs, a.eval (.tmp t) = .func (.func fn) #[] vs ∧ ArgsRep ρ (args ++ caps.map fun c => AV.s (.ptr c.1 c.2.1 c.2.2)) (xs.map a.eval ++ vs) := by
  have h1 : (ev T (.tmp t)).rep ρ (a.eval (.tmp t)) := ho _ (by simp [Op.operands, Call.operands])
  rw [ht] at h1
  obtain ⟨vs, e1, e2, e3⟩ := h1
  subst hargs
  refine ⟨vs, e1, by simp [e2], fun i x hx => ?_⟩
  by_cases hi : i < xs.size
  · rw [List.getElem?_append_left (by simpa using hi)] at hx
    simp only [List.getElem?_map, Option.map_eq_some_iff] at hx
    obtain ⟨y, hy, rfl⟩ := hx
    have hy' : xs[i]? = some y := by simpa using hy
    have hm : y ∈ (Op.call ⟨.value (.tmp t), xs, at_⟩).operands := by
      simp only [Op.operands, Call.operands]
      exact Array.mem_append.2 (.inr (Array.mem_of_getElem? hy'))
    have := ho y hm
    have hg : (xs.map a.eval ++ vs).getD i undef = a.eval y := by
      rw [Array.getD_eq_getD_getElem?, Array.getElem?_append_left (by simpa using hi)]
      simp [hy']
    rw [hg]; exact this
  · rw [List.getElem?_append_right (by simp; omega)] at hx
    simp only [List.length_map, Array.length_toList, List.getElem?_map, Option.map_eq_some_iff] at hx
    obtain ⟨c, hc, rfl⟩ := hx
    obtain ⟨b, o, h3, h4⟩ := e3 _ c hc
    have hg : (xs.map a.eval ++ vs).getD i undef = .pointer (some ⟨b, o + c.2.1 + c.2.2, none⟩) := by
      rw [Array.getD_eq_getD_getElem?, Array.getElem?_append_right (by simp; omega)]
      simp [h4]
    rw [hg]
    exact ⟨b, o, h3, rfl⟩
theorem run_callc {xs : Array Operand} {at_ : Array TypeId} {t : Tmp} {fn : FuncId} {vs : Array Value} {a : Act} (w : World) (hf : Callable P fn) (h : a.eval (.tmp t) = .func (.func fn) #[] vs) : (execOp a.eval ⟨d, .call ⟨.value (.tmp t), xs, at_⟩, ty, pos, af, g⟩).run P w = .ok (.enter fn (xs.map a.eval ++ vs)) w := by
  simp [execOp, resolve, h, Deferred.ofValue, invoke, Sem.run_bind, run_callFunc hf]
theorem m_callc {xs : Array Operand} {at_ : Array TypeId} {t : Tmp} {fn : FuncId} {caps : List (Nat × Nat × Nat)} {args : List AV} {v : AV} {H' : Heap} (hf : Callable P fn) (ht : ev T (.tmp t) = .s (.clo fn caps)) (hargs : xs.toList.map (ev T) = args) (h : AMut P fn H (args ++ caps.map fun c => AV.s (.ptr c.1 c.2.1 c.2.2)) v H') :
    MOk P ⟨d, .call ⟨.value (.tmp t), xs, at_⟩, ty, pos, af, g⟩ T H v H' := by
  intro W ρ a w hH hn hW ho next Q hq
  obtain ⟨vs, e1, e2⟩ := clo_args ht hargs ho
  rw [run_callc w hf e1]
  refine (h W ρ _ w hH hn hW e2).mono ?_
  rintro e w' ⟨v', ρ', rfl, h1, h2, h3, h4, h5⟩
  exact hq v' w' ⟨ρ', h1, h2, h3, h4, h5⟩
theorem h_callc {xs : Array Operand} {at_ : Array TypeId} {t : Tmp} {fn : FuncId} {caps : List (Nat × Nat × Nat)} {args : List AV} {v : AV} {nb : List Blk} (hf : Callable P fn) (ht : ev T (.tmp t) = .s (.clo fn caps)) (hargs : xs.toList.map (ev T) = args) (h : ACall P fn H (args ++ caps.map fun c => AV.s (.ptr c.1 c.2.1 c.2.2)) v nb) :
    HOk P ⟨d, .call ⟨.value (.tmp t), xs, at_⟩, ty, pos, af, g⟩ T H v nb := by
  intro W ρ a w hH hn ho next Q hq
  obtain ⟨vs, e1, e2⟩ := clo_args ht hargs ho
  rw [run_callc w hf e1]
  refine (h W ρ _ w hH hn e2).mono ?_
  rintro e w' ⟨v', ρ', rfl, h1, h2⟩
  exact hq v' w' ⟨ρ', h1, h2⟩
end rules
theorem ret_tmps2 {E : Env} {fn : Func} {T : Tm} {H : Heap} {u v : SV} {i j : Nat} (hr : fn.results = #[.tmp i, .tmp j]) (h1 : look T i = .s u) (h2 : look T j = .s v) : Ret E fn T H (.tup [.s u, .s v]) := by
  intro ρ a w hH hT
  refine ⟨.tuple #[a.tmps.getD i undef, a.tmps.getD j undef], by simp [results, hr, Sem.run_bind], _, rfl, fun n y hy => ?_⟩
  have e1 := hT i
  have e2 := hT j
  rw [h1] at e1; rw [h2] at e2
  match n, hy with
  | 0, hy => simp at hy; subst hy; exact ⟨_, rfl, e1⟩
  | 1, hy => simp at hy; subst hy; exact ⟨_, rfl, e2⟩
  | n + 2, hy => simp at hy
/-- A function without results. -/
theorem ret_none {E : Env} {fn : Func} {T : Tm} {H : Heap} (hr : fn.results = #[]) : Ret E fn T H (.tup []) := by
  intro ρ a w hH hT
  exact ⟨.tuple #[], by simp [results, hr, Sem.run_bind], _, rfl, fun n y hy => by simp at hy⟩
/-! What is handed in -/
theorem foot_same {f : Nat → Nat × Nat} {segs segs2 : List Seg} (h : segs2 = segs.map (Seg.ren f)) : ∀ (i : Nat) (x : SV), atS segs i = some x → atS segs2 (0 + i) = some (x.ren f) := by
  subst h
  intro i x hx
  rw [Nat.zero_add, atS_ren, hx]; rfl
/-- A window of integers. -/
theorem foot_win {f : Nat → Nat × Nat} {segs : List Seg} {base idx n m : Nat} {k : IntKind} {l B : List Int} (h : segAt segs base = some (.ints k m l)) (hn : idx + n ≤ m) (hB : B = (l.drop idx).take n) : ∀ (i : Nat) (x : SV), atS [.ints k n B] i = some x → atS segs (base + idx + i) = some (x.ren f) := by
  subst hB
  intro i x hx
  have h1 := win_ints h hn i x hx
  obtain ⟨_, rfl⟩ := atS_ints1 hx
  exact h1
theorem live_ptr {ρ : Rho} {args : List AV} {vals : Array Value} {id base idx i : Nat} (h : ArgsRep ρ args vals) (ha : args[i]? = some (.s (.ptr id base idx))) : ∃ x, ρ id = some x := by
  obtain ⟨b, o, h1, _⟩ := h.2 i _ ha
  exact ⟨_, h1⟩
theorem live_slice {ρ : Rho} {args : List AV} {vals : Array Value} {id base idx l c i : Nat} (h : ArgsRep ρ args vals) (ha : args[i]? = some (.s (.slice id base idx l c))) : ∃ x, ρ id = some x := by
  obtain ⟨b, o, h1, _⟩ := h.2 i _ ha
  exact ⟨_, h1⟩
theorem live_in {W : Nat → Prop} {ρ : Rho} {H : Heap} {w : World} {id base idx j p : Nat} {k : Blk} (hH : HRep W ρ H w) (hj : ∃ x, ρ j = some x) (hb : H[j]? = some (some k)) (ha : atS k.segs p = some (.ptr id base idx)) : ∃ x, ρ id = some x := by
  obtain ⟨⟨b, o⟩, hx⟩ := hj
  obtain ⟨⟨cells, t, fr, _, _, g3⟩, _⟩ := hH.rep j b o k hx hb
  obtain ⟨v, _, hc⟩ := g3 p _ ha
  obtain ⟨b', o', h1, _⟩ := hc.1
  exact ⟨_, h1⟩
theorem live_in_slice {W : Nat → Prop} {ρ : Rho} {H : Heap} {w : World} {id base idx l c j p : Nat} {k : Blk} (hH : HRep W ρ H w) (hj : ∃ x, ρ j = some x) (hb : H[j]? = some (some k)) (ha : atS k.segs p = some (.slice id base idx l c)) : ∃ x, ρ id = some x := by
  obtain ⟨⟨b, o⟩, hx⟩ := hj
  obtain ⟨⟨cells, t, fr, _, _, g3⟩, _⟩ := hH.rep j b o k hx hb
  obtain ⟨v, _, hc⟩ := g3 p _ ha
  obtain ⟨b', o', h1, _⟩ := hc.1
  exact ⟨_, h1⟩
section steps
variable {P : Program} {ops : Array Oper} {T : Tm} {H : Heap} {ty : TypeId} {pos : String} {af : Array Edge} {r l2 : List Oper} {op : Op} {d : Nat} {K : Tm → Heap → Prop}
theorem s_nb {v : AV} {nb : List Blk} {H1 : Heap} (h : HOk P ⟨some d, op, ty, pos, af, none⟩ T H v nb) (e : H ++ nb.map some = H1) (k : SK P ops r ((d, v) :: T) H1 K) : SK P ops (⟨some d, op, ty, pos, af, none⟩ :: r) T H K :=
  let ⟨T', H', k1, k2⟩ := k
  ⟨T', H', .cons (.free rfl) h (by subst e; simpa [put] using k1), k2⟩
theorem t_nb {v : AV} {nb : List Blk} {H1 : Heap} (h : HOk P ⟨some d, op, ty, pos, af, none⟩ T H v nb) (e : H ++ nb.map some = H1) (k : TK P ops r ((d, v) :: T) H1 l2 K) : TK P ops (⟨some d, op, ty, pos, af, none⟩ :: r) T H l2 K :=
  let ⟨T', H', k1, k2⟩ := k
  ⟨T', H', .cons (.free rfl) h (by subst e; simpa [put] using k1), k2⟩
theorem g_nb {v : AV} {nb : List Blk} {H1 : Heap} (h : HOk P ⟨some d, op, ty, pos, af, none⟩ T H v nb) (e : H ++ nb.map some = H1) (k : TG P ops r ((d, v) :: T) H1 K) : TG P ops (⟨some d, op, ty, pos, af, none⟩ :: r) T H K :=
  let ⟨T', H', k1, k2⟩ := k
  ⟨T', H', .cons (.free rfl) h (by subst e; simpa [put] using k1), k2⟩
end steps
def AllH : Heap → Heap → Prop
  | [], _ => True
  | none :: r, H => AllH r H.tail
  | some b :: r, H => H.head? = some (some b) ∧ AllH r H.tail
theorem allH : ∀ {Hf H : Heap}, AllH Hf H → ∀ (k : Nat) (b : Blk), Hf[k]? = some (some b) → H[k]? = some (some b)
  | [], _, _, k, b, h => by simp at h
  | none :: r, H, h, k, b, hk => by
    cases k with
    | zero => simp at hk
    | succ k =>
      have := allH (Hf := r) (H := H.tail) h k b (by simpa using hk)
      simpa using this
  | some q :: r, H, h, k, b, hk => by
    cases k with
    | zero =>
      simp at hk
      subst hk
      have := h.1
      rw [List.head?_eq_getElem?] at this
      exact this
    | succ k =>
      have := allH (Hf := r) (H := H.tail) h.2 k b (by simpa using hk)
      simpa using this
theorem doneM {E : Env} {fn : Func} {v : AV} {Hf H : Heap} {T : Tm} (h : AllH Hf H) (hr : Ret E fn T H v) : DoneM E fn v Hf .ret T H := ⟨.inl rfl, hr, allH h⟩
theorem doneN {E : Env} {fn : Func} {v : AV} {Hf H : Heap} {T : Tm} (h : AllH Hf H) (hr : Ret E fn T H v) : DoneM E fn v Hf .normal T H := ⟨.inr rfl, hr, allH h⟩
theorem wrap_u64_nonneg (x : Int) : 0 ≤ IntKind.u64.wrap x := by
  unfold IntKind.wrap
  simp [IntKind.bits, IntKind.signed]
  omega
end Go.Ab
end

section
/- Contracts of functions that take memory over; other numbers for what is told. No program. -/
namespace Go.Ab
theorem cutR_le (ρ : Rho) (n : Nat) : Rle (cutR ρ n) ρ := fun id x hx => by
  unfold cutR at hx
  split at hx
  · exact hx
  · cases hx
theorem calls_enter' {P : Program} {f : FuncId} {fn : Func} {c : Code} (nE : Nat) {W : Nat → Prop} {w : World} {ρ0 : Rho} {H0 : Heap} {args : List AV} {vals : Array Value} (hdomE : ∀ id, nE ≤ id → cutR ρ0 nE id = none) (hf : P.funcs[f]? = some fn) (hb : fn.body = some c) (hW : ∀ b, w.heap.size ≤ b → W b)
    (hH : HRep W ρ0 H0 w) (hdom : ∀ id, H0.length ≤ id → ρ0 id = none) (hargs : ArgsRep ρ0 args vals) (hn : args.length ≤ fn.ntmps) {R : Ending → World → Prop}
    (h : Wp ⟨P, W, w, cutR ρ0 nE, fn.ntmps, nE, hW, hdomE⟩ c (argT 0 args) H0 (fun e T H => (e = .ret ∨ e = .normal) ∧ ∃ v, Ret ⟨P, W, w, cutR ρ0 nE, fn.ntmps, nE, hW, hdomE⟩ fn T H v ∧
      ∀ v' ρ' w', v.rep ρ' v' → Rle (cutR ρ0 nE) ρ' → HRep W ρ' H w' → (∀ id, H.length ≤ id → ρ' id = none) → Fr W w w' → R (.returned v') w')) : Calls P f vals w R := by
  refine (callsIn_wide (n := 0)).1 (callsIn_of_wp_marks hf hb trivial (wpIn_wide.2 (wp_mono (h _ w ⟨ρ0, cutR_le _ _, hdom, hH, fun t => ?_, ?_, DefOk.nil _ _, .refl _ _⟩) ?_)))
  · rw [look_argT, if_pos (Nat.zero_le _), Nat.sub_zero]
    cases hx : args[t]? with
    | none => trivial
    | some x =>
      have hlt : t < vals.size := by
        rw [hargs.1]
        exact (List.getElem?_eq_some_iff.1 hx).1
      have := hargs.2 t x hx
      simp only [Option.getD_some]
      simp only [Array.getD_eq_getD_getElem?] at this ⊢
      rw [Array.getElem?_append_left hlt]
      exact this
  · simp; have := hargs.1; omega
  · rintro e a' w' ⟨T, H, ⟨he, v, hret, hR⟩, ρ', k1, k2, k3, k4, k5, k6, k7⟩
    have hl : LeavesInM Fence.wide 0 P fn a'.tmps R a'.defers .returning w' := leaves_marks (W := W) (w0 := w) (ρ := ρ') (H := H) (fun w2 h1 h2 => by
      obtain ⟨v', hv, hrep⟩ := hret ρ' a' w2 h1 k4
      exact ⟨v', hv, hR v' ρ' w2 hrep k1 h1 k2 h2⟩) a'.defers w' k6 k3 k7
    rcases he with rfl | rfl
    · exact hl
    · exact hl
def forget (ids : List Nat) (H : Heap) : Heap := H.mapIdx fun i k => if i ∈ ids then none else k
theorem forget_get {ids : List Nat} {H : Heap} {id : Nat} {q : Blk} (h : (forget ids H)[id]? = some (some q)) : H[id]? = some (some q) ∧ id ∉ ids := (fun x => ⟨x.2, x.1⟩) (visH_get (hs := ids) h)
theorem amut_gen3 {P : Program} {f : FuncId} {fn : Func} {c : Code} {n : Nat} {args0 args : List AV} {H0 H Hf H' : Heap} {v0 v : AV} (σ : List (Nat × Nat)) (picks : List Nat) (nE : Nat) (hnE : nE ≤ σ.length) (hf : P.funcs[f]? = some fn) (hb : fn.body = some c) (hn : fn.ntmps = n) (hl : args0.length ≤ n)
    (hσ : σ.length = H0.length)
    (hfoot : ∀ (k id sh : Nat) (b0 : Blk), σ[k]? = some (id, sh) → H0[k]? = some (some b0) → b0.segs.all (Seg.idB fun j => Nat.blt j σ.length) = true ∧ ∃ b : Blk, H[id]? = some (some b) ∧ (b0.rw = true → b.rw = true ∧ sh = 0) ∧ ∀ i x, atS b0.segs i = some x → atS b.segs (sh + i) = some (x.ren (namesOf σ [] 0)))
    (honce : ∀ (k k' id sh sh' : Nat) (b0 : Blk), σ[k]? = some (id, sh) → σ[k']? = some (id, sh') → k ≠ k' → H0[k]? = some (some b0) → b0.rw = false)
    (hlive : ∀ (W : Nat → Prop) (ρ : Rho) (vals : Array Value) (w : World), HRep W ρ H w → ArgsRep ρ args vals → ∀ (k id sh : Nat), σ[k]? = some (id, sh) → ∃ x, ρ id = some x)
    (hargs : args0.map (AV.ren (namesOf σ [] 0)) = args) (hargsB : args0.all (AV.idB fun j => Nat.blt j σ.length) = true)
    (hend : endOk (σ.take nE) picks H0 Hf = true) (hnd : picks.Nodup) (hvB : v0.idB (knownB (σ.take nE) picks) = true) (hv : v0.ren (namesOf (σ.take nE) picks H.length) = v) (hH' : afterH (σ.take nE) picks H.length Hf (σ.take nE) 0 (forget ((σ.drop nE).map (·.1)) H) ++ newH (σ.take nE) picks H.length Hf = H')
    (h : ∀ W w ρ0 hW hdom, Wp ⟨P, W, w, ρ0, n, nE, hW, hdom⟩ c (argT 0 args0) H0 (DoneM ⟨P, W, w, ρ0, n, nE, hW, hdom⟩ fn v0 Hf)) : AMut P f H args v H' := by
  subst hn; subst hargs; subst hv; subst hH'
  have gσ : ∀ k, k < σ.length → σ[k]? = some (namesOf σ [] 0 k) := fun k hk => by simp [namesOf, hk]
  generalize hτ : σ.take nE = τ at *
  have lτ : τ.length = nE := by rw [← hτ, List.length_take]; omega
  have τσ : ∀ k, k < nE → τ[k]? = σ[k]? := fun k hk => by rw [← hτ, List.getElem?_take, if_pos hk]
  generalize hg : namesOf τ picks H.length = g at *
  have gτ : ∀ k, k < τ.length → τ[k]? = some (g k) := fun k hk => by rw [← hg]; simp [namesOf, hk]
  generalize hF : forget ((σ.drop nE).map (·.1)) H = F at *
  have lF : F.length = H.length := by rw [← hF]; simp [forget]
  have getF : ∀ (id : Nat) (q : Blk), F[id]? = some (some q) → H[id]? = some (some q) ∧ ∀ k sh, nE ≤ k → σ[k]? ≠ some (id, sh) := by
    intro id q hq
    rw [← hF] at hq
    obtain ⟨h1, h2⟩ := forget_get hq
    refine ⟨h1, fun k sh hk e => h2 (List.mem_map.2 ⟨(id, sh), ?_, rfl⟩)⟩
    exact List.mem_of_getElem? (i := k - nE) (by rw [List.getElem?_drop, show nE + (k - nE) = k by omega]; exact e)
  simp only [endOk, Bool.and_eq_true, List.all_eq_true, List.mem_range] at hend
  have hup : ∀ (k : Nat) (b0 : Blk), k < nE → H0[k]? = some (some b0) → b0.rw = true → ∃ b, Hf[k]? = some (some b) ∧ b.rw = true ∧ idKnown τ picks b = true := by
    intro k b0 hk' e1 e2
    have hk : k < τ.length := by omega
    have := (hend.1 k hk).1
    rw [e1] at this
    simp only [e2, Bool.not_true, Bool.false_or] at this
    split at this
    · rename_i b hb'
      rw [Bool.and_eq_true] at this
      exact ⟨b, hb', this.1, this.2⟩
    · cases this
  have hdown : ∀ (k : Nat) (b : Blk), k < τ.length → Hf[k]? = some (some b) → b.rw = true → ∃ b0, H0[k]? = some (some b0) ∧ b0.rw = true := by
    intro k b hk e1 e2
    have := (hend.1 k hk).2
    rw [e1] at this
    simp only [e2, Bool.not_true, Bool.false_or] at this
    split at this
    · rename_i b0 hb0; exact ⟨b0, hb0, this⟩
    · cases this
  have hpk : ∀ p ∈ picks, τ.length ≤ p ∧ ∃ b, Hf[p]? = some (some b) ∧ b.rw = true ∧ idKnown τ picks b = true := by
    intro p hp
    have := hend.2 p hp
    refine ⟨Nat.le_of_ble_eq_true this.1, ?_⟩
    have := this.2
    split at this
    · rename_i b hb'
      rw [Bool.and_eq_true] at this
      exact ⟨b, hb', this.1, this.2⟩
    · cases this
  intro W ρ vals w hH hnone hW hrep
  have live := hlive W ρ vals w hH hrep
  let W' : Nat → Prop := fun b => w.heap.size ≤ b ∨ ∃ (k id sh : Nat) (b0 : Blk) (o : Nat), σ[k]? = some (id, sh) ∧ H0[k]? = some (some b0) ∧ b0.rw = true ∧ ρ id = some (b, o)
  have hW' : ∀ b, w.heap.size ≤ b → W' b := fun b hb => .inl hb
  have hWW : ∀ b, W' b → W b := by
    rintro b (h | ⟨k, id, sh, b0, o, e1, e2, e3, e4⟩)
    · exact hW b h
    · obtain ⟨_, bb, f1, f2, _⟩ := hfoot k id sh b0 e1 e2
      exact (hH.rep id b o bb e4 f1).2 (f2 e3).1
  have hdom : ∀ id, H0.length ≤ id → foot ρ σ id = none := fun id hid => by simp [foot, List.getElem?_eq_none (show σ.length ≤ id by omega)]
  have hfr : ∀ (k b o : Nat), foot ρ σ k = some (b, o) → ∃ id sh o', σ[k]? = some (id, sh) ∧ ρ id = some (b, o') ∧ o = o' + sh := by
    intro id b o e
    unfold foot at e
    cases hs : σ[id]? with
    | none => simp [hs] at e
    | some x =>
      obtain ⟨i, sh⟩ := x
      simp [hs] at e
      obtain ⟨a, o', h1, rfl, h2⟩ := e
      exact ⟨i, sh, o', rfl, h1, h2.symm⟩
  have hH0 : HRep W' (foot ρ σ) H0 w := by
    refine ⟨fun id b o e => ?_, fun k b o b0 e hk => ?_, fun k k' b o o' b0 b0' hne e e' hk hk' => ?_⟩
    · obtain ⟨i, sh, o', h1, h2, h3⟩ := hfr id b o e
      exact hH.lt _ _ _ h2
    · obtain ⟨id, sh, o', h1, h2, h3⟩ := hfr k b o e
      obtain ⟨f1, bb, f3, f2, f4⟩ := hfoot k id sh b0 h1 hk
      obtain ⟨⟨cells, t, fr, g1, g2, g3⟩, _⟩ := hH.rep id b o' bb h2 f3
      refine ⟨⟨cells, t, fr, g1, fun hr => g2 (f2 hr).1, RowRep.unren gσ f1 fun j x hx => ?_⟩, fun hr => .inr ⟨k, id, sh, b0, o', h1, hk, hr, h2⟩⟩
      obtain ⟨v, hv, hc⟩ := g3 _ _ (f4 j x hx)
      exact ⟨v, by show cells[o + j]? = some v; rw [h3, Nat.add_assoc]; exact hv, hc⟩
    · obtain ⟨id, sh, _, h1, h2, _⟩ := hfr k b o e
      obtain ⟨id', sh', _, h1', h2', _⟩ := hfr k' b o' e'
      obtain ⟨_, bb, f3, f2, _⟩ := hfoot k id sh b0 h1 hk
      obtain ⟨_, bb', f3', f2', _⟩ := hfoot k' id' sh' b0' h1' hk'
      by_cases hid : id = id'
      · subst hid
        exact ⟨honce k k' id sh sh' b0 h1 h1' hne hk, honce k' k id sh' sh b0' h1' h1 (Ne.symm hne) hk'⟩
      · have := hH.apart id id' b _ _ bb bb' hid h2 h2' f3 f3'
        constructor
        · cases hq : b0.rw with
          | false => rfl
          | true => rw [(f2 hq).1] at this; exact absurd this.1 (by simp)
        · cases hq : b0'.rw with
          | false => rfl
          | true => rw [(f2' hq).1] at this; exact absurd this.2 (by simp)
  have hdomE : ∀ id, nE ≤ id → cutR (foot ρ σ) nE id = none := fun id hid => by simp [cutR]; omega
  refine calls_enter' (W := W') (ρ0 := foot ρ σ) (H0 := H0) (args := args0) nE hdomE hf hb hW' hH0 hdom ⟨by rw [hrep.1, List.length_map], fun i x hx => ?_⟩ hl ((h W' w (cutR (foot ρ σ) nE) hW' hdomE).mono ?_)
  · exact AV.unren gσ (List.all_eq_true.1 hargsB x (List.mem_of_getElem? hx)) (hrep.2 i _ (by rw [List.getElem?_map, hx]; rfl))
  · rintro e T H1 ⟨he, hret, hheap⟩
    refine ⟨he, _, hret, fun v' ρ' w' h1 h2 h3 h4 h5 => ?_⟩
    let ρ'' : Rho := fun id => if H.length ≤ id ∧ id < H.length + picks.length then (picks[id - H.length]?).bind ρ' else ρ id
    have hnew : ∀ i, i < picks.length → ρ'' (H.length + i) = (picks[i]?).bind ρ' := fun i hi => by
      simp only [ρ'']
      rw [if_pos ⟨by omega, by omega⟩, Nat.add_sub_cancel_left]
    have hold : ∀ id, id < H.length → ρ'' id = ρ id := fun id hid => by simp only [ρ'']; rw [if_neg (by omega)]
    have hlen : (afterH τ picks H.length Hf τ 0 F ++ newH τ picks H.length Hf).length = H.length + picks.length := by simp [afterH_len, newH, lF]
    have hcutE : ∀ k x, k < nE → foot ρ σ k = some x → ρ' k = some x := fun k x hk e => h2 k x (by unfold cutR; rw [if_pos hk]; exact e)
    have hren : RenOk (knownB τ picks) g ρ' ρ'' := by
      intro k b o hk hρ
      by_cases hks : k < τ.length
      · have e1 := gτ k hks
        rw [τσ k (by omega)] at e1
        obtain ⟨⟨b1, o1⟩, hx⟩ := live k (g k).1 (g k).2 (by rw [e1])
        have e2 : foot ρ σ k = some (b1, o1 + (g k).2) := by simp [foot, e1, hx]
        have e3 := hcutE k _ (by omega) e2
        rw [hρ] at e3
        cases e3
        have hlt : (g k).1 < H.length := by
          rcases Nat.lt_or_ge (g k).1 H.length with h | h
          · exact h
          · rw [hnone _ h] at hx; cases hx
        exact ⟨o1, by rw [hold _ hlt]; exact hx, rfl⟩
      · simp only [knownB, Bool.or_eq_true, Nat.blt_eq] at hk
        have hm : k ∈ picks := by
          rcases hk with h | h
          · exact absurd h hks
          · simpa using h
        have hi := List.idxOf_lt_length_of_mem hm
        have e1 : g k = (H.length + picks.idxOf k, 0) := by rw [← hg]; simp [namesOf, List.getElem?_eq_none (show τ.length ≤ k by omega)]
        refine ⟨o, ?_, by rw [e1]; simp⟩
        rw [e1, hnew _ hi]
        have : picks[picks.idxOf k]? = some k := by simp [hi]
        rw [this]; exact hρ
    have brep : ∀ {k : Nat} {b o : Nat} {q : Blk}, ρ' k = some (b, o) → Hf[k]? = some (some q) → idKnown τ picks q = true → BRep ρ'' (q.ren g) w' b o := by
      intro k b o q e1 e2 e3
      obtain ⟨⟨cells, t, fr, g1, g2, g3⟩, _⟩ := h3.rep k b o q e1 (hheap k q e2)
      exact ⟨cells, t, fr, g1, g2, g3.ren hren e3⟩
    -- a new block to be written lies in new memory, or is one that is told no more
    have fresh : ∀ (p b o : Nat), p ∈ picks → ρ' p = some (b, o) → w.heap.size ≤ b ∨ ∃ (k id sh : Nat) (b0 : Blk) (o1 : Nat), nE ≤ k ∧ σ[k]? = some (id, sh) ∧ H0[k]? = some (some b0) ∧ b0.rw = true ∧ ρ id = some (b, o1) := by
      intro p b o hp hρ
      obtain ⟨hps, q, e1, e2, _⟩ := hpk p hp
      rcases (h3.rep p b o q hρ (hheap p q e1)).2 e2 with h | ⟨k, id, sh, b0, o1, s1, s2, s3, s4⟩
      · exact .inl h
      · by_cases hk : nE ≤ k
        · exact .inr ⟨k, id, sh, b0, o1, hk, s1, s2, s3, s4⟩
        · obtain ⟨q', f1, f2, _⟩ := hup k b0 (by omega) s2 s3
          have e4 : foot ρ σ k = some (b, o1 + sh) := by simp [foot, s1, s4]
          have := h3.apart k p b _ o q' q (by omega) (hcutE k _ (by omega) e4) hρ (hheap k q' f1) (hheap p q e1)
          rw [f2] at this; exact absurd this.1 (by simp)
    have notold : ∀ (p b o id o' : Nat) (q : Blk), p ∈ picks → ρ' p = some (b, o) → ρ id = some (b, o') → F[id]? = some (some q) → False := by
      intro p b o id o' q hp hρ hρ2 hq
      obtain ⟨hq, hno⟩ := getF id q hq
      rcases fresh p b o hp hρ with h | ⟨k, id', sh, b0, o1, s0, s1, s2, s3, s4⟩
      · have := hH.lt id b o' hρ2
        omega
      · obtain ⟨_, bb, f1, f2, _⟩ := hfoot k id' sh b0 s1 s2
        by_cases hi : id = id'
        · subst hi; exact hno k sh s0 s1
        · have := hH.apart id id' b o' o1 q bb hi hρ2 s4 hq f1
          rw [(f2 s3).1] at this; exact absurd this.2 (by simp)
    -- an old block behind the call
    have oldB : ∀ (id b o : Nat) (q : Blk), id < H.length → ρ id = some (b, o) → (afterH τ picks H.length Hf τ 0 F)[id]? = some (some q) → BRep ρ'' q w' b o ∧ ∃ q0, H[id]? = some (some q0) ∧ (q.rw = true → q0.rw = true) := by
      intro id b o q hid hρ hq
      rcases afterH_get τ picks H.length Hf τ 0 F id q hq with ⟨j, sh, b1, s1, s2, s3, rfl⟩ | ⟨s1, s2⟩
      · rw [Nat.zero_add] at s2
        have hj : j < τ.length := (List.getElem?_eq_some_iff.1 s1).1
        rw [τσ j (by omega)] at s1
        obtain ⟨b0, t1, t2⟩ := hdown j b1 hj s2 s3
        obtain ⟨_, bb, f1, f2, _⟩ := hfoot j id sh b0 s1 t1
        obtain ⟨f3, f4⟩ := f2 t2
        subst f4
        obtain ⟨q', u1, _, u3⟩ := hup j b0 (by omega) t1 t2
        rw [s2] at u1
        cases u1
        have e4 : foot ρ σ j = some (b, o) := by simp [foot, s1, hρ]
        rw [hg]
        exact ⟨brep (hcutE j _ (by omega) e4) s2 u3, bb, f1, fun _ => f3⟩
      · obtain ⟨s1, hno⟩ := getF id q s1
        have hr := hH.rep id b o q hρ s1
        refine ⟨?_, q, s1, fun e => e⟩
        have hsame : w'.heap[b]? = w.heap[b]? := by
          refine h5.block b (hH.lt id b o hρ) ?_
          rintro (h | ⟨k, id', sh, b0, o1, t1, t2, t3, t4⟩)
          · have := hH.lt id b o hρ; omega
          · obtain ⟨_, bb, f1, f2, _⟩ := hfoot k id' sh b0 t1 t2
            by_cases hi : id = id'
            · subst hi
              by_cases hk : nE ≤ k
              · exact hno k sh hk t1
              · obtain ⟨q', u1, u2, _⟩ := hup k b0 (by omega) t2 t3
                have := s2 k sh q' (by rw [τσ k (by omega)]; exact t1) (by rw [Nat.zero_add]; exact u1)
                rw [u2] at this; cases this
            · have := hH.apart id id' b o o1 q bb hi hρ t4 s1 f1
              rw [(f2 t3).1] at this; exact absurd this.2 (by simp)
        refine (hr.1.world hsame).le fun i x hx => ?_
        have : i < H.length := by
          rcases Nat.lt_or_ge i H.length with h | h
          · exact h
          · rw [hnone i h] at hx; cases hx
        rw [hold i this]; exact hx
    have notold' : ∀ (p b o id o' : Nat) (q : Blk), p ∈ picks → ρ' p = some (b, o) → ρ id = some (b, o') → (afterH τ picks H.length Hf τ 0 F)[id]? = some (some q) → False := by
      intro p b o id o' q hp hρ hρ2 hq
      rcases afterH_get τ picks H.length Hf τ 0 F id q hq with ⟨j, sh, b1, s1, s2, s3, _⟩ | ⟨s1, _⟩
      · rw [Nat.zero_add] at s2
        have hj : j < τ.length := (List.getElem?_eq_some_iff.1 s1).1
        obtain ⟨hps, q1, e1, e2, _⟩ := hpk p hp
        have hx : foot ρ σ j = some (b, o' + sh) := by rw [τσ j (by omega)] at s1; simp [foot, s1, hρ2]
        have := h3.apart j p b _ o b1 q1 (by omega) (hcutE j _ (by omega) hx) hρ (hheap j b1 s2) (hheap p q1 e1)
        rw [s3] at this; exact absurd this.1 (by simp)
      · exact notold p b o id o' q hp hρ hρ2 s1
    have newB : ∀ (i : Nat) (q : Blk), (newH τ picks H.length Hf)[i]? = some (some q) → ∃ (p : Nat) (q0 : Blk), picks[i]? = some p ∧ Hf[p]? = some (some q0) ∧ q = q0.ren g ∧ p ∈ picks := by
      intro i q hq
      simp only [newH, List.getElem?_map, Option.map_eq_some_iff] at hq
      obtain ⟨p, hp, hq⟩ := hq
      obtain ⟨_, q0, e1, _, _⟩ := hpk p (List.mem_of_getElem? hp)
      rw [e1] at hq
      simp at hq
      exact ⟨p, q0, hp, e1, by rw [← hg]; exact hq.symm, List.mem_of_getElem? hp⟩
    have split' : ∀ (id b o : Nat) (q : Blk), ρ'' id = some (b, o) → (afterH τ picks H.length Hf τ 0 F ++ newH τ picks H.length Hf)[id]? = some (some q) →
        (id < H.length ∧ ρ id = some (b, o) ∧ (afterH τ picks H.length Hf τ 0 F)[id]? = some (some q)) ∨ (∃ (p : Nat) (q0 : Blk), id = H.length + (id - H.length) ∧ picks[id - H.length]? = some p ∧ ρ' p = some (b, o) ∧ Hf[p]? = some (some q0) ∧ q = q0.ren g ∧ p ∈ picks) := by
      intro id b o q hρ hq
      by_cases hid : id < H.length
      · rw [List.getElem?_append_left (by rw [afterH_len, lF]; exact hid)] at hq
        rw [hold id hid] at hρ
        exact .inl ⟨hid, hρ, hq⟩
      · rw [List.getElem?_append_right (by rw [afterH_len, lF]; omega), afterH_len, lF] at hq
        obtain ⟨p, q0, e1, e2, e3, e4⟩ := newB _ q hq
        have hi : id - H.length < picks.length := (List.getElem?_eq_some_iff.1 e1).1
        have hh := hnew _ hi
        rw [show H.length + (id - H.length) = id by omega, hρ, e1] at hh
        exact .inr ⟨p, q0, by omega, e1, hh.symm, e2, e3, e4⟩
    refine ⟨v', ρ'', rfl, fun id hid => ?_, fun id x hx => ?_, ⟨fun id b o hρ => ?_, fun id b o q hρ hq => ?_, fun id id' b o o' q q' hne hρ hρ' hq hq' => ?_⟩, ⟨h5.os, h5.tape, h5.output, h5.size, fun k hk hn => h5.block k hk fun h => hn (hWW k h), h5.others⟩, AV.rep_ren hren hvB h1⟩
    · rw [hlen] at hid
      simp only [ρ'']
      rw [if_neg (by omega)]
      exact hnone id (by omega)
    · have : id < H.length := by
        rcases Nat.lt_or_ge id H.length with h | h
        · exact h
        · rw [hnone id h] at hx; cases hx
      rw [hold id this]; exact hx
    · by_cases hid : H.length ≤ id ∧ id < H.length + picks.length
      · have hh := hnew (id - H.length) (by omega)
        rw [show H.length + (id - H.length) = id by omega, hρ] at hh
        cases hp : picks[id - H.length]? with
        | none => rw [hp] at hh; cases hh
        | some p => rw [hp] at hh; exact h3.lt p b o hh.symm
      · simp only [ρ''] at hρ
        rw [if_neg hid] at hρ
        exact Nat.lt_of_lt_of_le (hH.lt id b o hρ) h5.size
    · rcases split' id b o q hρ hq with ⟨s1, s2, s3⟩ | ⟨p, q0, s1, s2, s3, s4, rfl, s6⟩
      · obtain ⟨t1, q0, t2, t3⟩ := oldB id b o q s1 s2 s3
        exact ⟨t1, fun e => (hH.rep id b o q0 s2 t2).2 (t3 e)⟩
      · obtain ⟨_, q1, u1, u2, u3⟩ := hpk p s6
        rw [s4] at u1
        cases u1
        refine ⟨brep s3 s4 u3, fun _ => ?_⟩
        rcases fresh p b o s6 s3 with h | ⟨k, id', sh, b0, o1, r0, r1, r2, r3, r4⟩
        · exact hW b h
        · exact hWW b (.inr ⟨k, id', sh, b0, o1, r1, r2, r3, r4⟩)
    · rcases split' id b o q hρ hq with ⟨s1, s2, s3⟩ | ⟨p, q0, s1, s2, s3, s4, rfl, s6⟩ <;> rcases split' id' b o' q' hρ' hq' with ⟨s1', s2', s3'⟩ | ⟨p', q0', s1', s2', s3', s4', rfl, s6'⟩
      · obtain ⟨_, q0, t2, t3⟩ := oldB id b o q s1 s2 s3
        obtain ⟨_, q0', t2', t3'⟩ := oldB id' b o' q' s1' s2' s3'
        have := hH.apart id id' b o o' q0 q0' hne s2 s2' t2 t2'
        constructor
        · cases hb : q.rw with
          | false => rfl
          | true => rw [t3 hb] at this; exact absurd this.1 (by simp)
        · cases hb : q'.rw with
          | false => rfl
          | true => rw [t3' hb] at this; exact absurd this.2 (by simp)
      · exact (notold' p' b o' id o q s6' s3' s2 s3).elim
      · exact (notold' p b o id' o' q' s6 s3 s2' s3').elim
      · have hpp : p ≠ p' := by
          intro e
          subst e
          have q1 := (List.getElem?_eq_some_iff.1 s2)
          have q2 := (List.getElem?_eq_some_iff.1 s2')
          have := (List.getElem_inj (h₀ := q1.1) (h₁ := q2.1) hnd).1 (q1.2.trans q2.2.symm)
          omega
        have := h3.apart p p' b o o' q0 q0' hpp s3 s3' (hheap p q0 s4) (hheap p' q0' s4')
        exact this

/-- What is told by other numbers: number k is what was number g[k]. -/
def RenH (nE : Nat) (g : List Nat) (T : Tm) (H : Heap) (T' : Tm) (H' : Heap) : Prop :=
  (∀ k, k < nE → g[k]? = some k) ∧ g.Nodup ∧ H'.length = g.length ∧ (∀ (k : Nat) (b' : Blk), H'[k]? = some (some b') → ∃ i b, g[k]? = some i ∧ H[i]? = some (some b) ∧ b.rw = b'.rw ∧ b.segs = b'.segs.map (Seg.ren fun j => (g.getD j 0, 0)) ∧ b'.segs.all (Seg.idB fun j => Nat.blt j g.length) = true) ∧
  (∀ p ∈ T', look T p.1 = p.2.ren (fun j => (g.getD j 0, 0)) ∧ p.2.idB (fun j => Nat.blt j g.length) = true)
theorem weakR {E : Env} {T T' : Tm} {H H' : Heap} (g : List Nat) (h : RenH E.nE g T H T' H') : Weak E T H T' H' := by
  obtain ⟨hg, hnd, hlen, hH, hT⟩ := h
  intro a w ⟨ρ, h1, h2, h3, h4, h5, h6, h7⟩
  let σ : List (Nat × Nat) := g.map fun x => (x, 0)
  have hσ : σ.length = g.length := by simp [σ]
  have gσ : ∀ k, k < σ.length → σ[k]? = some ((fun j => (g.getD j 0, 0)) k) := fun k hk => by
    have hk' : k < g.length := by omega
    simp [σ, List.getD_eq_getElem?_getD, hk']
  have fr : ∀ (k b o : Nat), foot ρ σ k = some (b, o) → ∃ i, g[k]? = some i ∧ ρ i = some (b, o) := by
    intro k b o e
    unfold foot at e
    cases hs : g[k]? with
    | none => simp [σ, hs] at e
    | some i => simp [σ, hs] at e; exact ⟨i, rfl, e⟩
  have hbl : (fun j => Nat.blt j σ.length) = fun j => Nat.blt j g.length := by rw [hσ]
  refine ⟨foot ρ σ, fun id x hx => ?_, fun id hid => ?_, ⟨fun k b o e => ?_, fun k b o b' e hk => ?_, fun k k' b o o' q q' hne e e' hk hk' => ?_⟩, fun t => ?_, h5, h6, h7⟩
  · have hid : id < E.nE := by
      rcases Nat.lt_or_ge id E.nE with h | h
      · exact h
      · rw [E.hdom id h] at hx; cases hx
    have := h1 id x hx
    simp [foot, σ, hg id hid, this]
  · unfold foot
    rw [List.getElem?_eq_none (by omega)]
  · obtain ⟨i, e1, e2⟩ := fr k b o e
    exact h3.lt i b o e2
  · obtain ⟨i, e1, e2⟩ := fr k b o e
    obtain ⟨i', q, f1, f2, f3, f4, f5⟩ := hH k b' hk
    rw [e1] at f1
    cases f1
    obtain ⟨⟨cells, t, frr, g1, g2, g3⟩, hw⟩ := h3.rep i b o q e2 f2
    refine ⟨⟨cells, t, frr, g1, fun hr => g2 (f3.trans hr), RowRep.unren gσ (by rw [hbl]; exact f5) fun j x hx => ?_⟩, fun hr => hw (f3.trans hr)⟩
    exact g3 j _ (by rw [f4, atS_ren, hx]; rfl)
  · obtain ⟨i, e1, e2⟩ := fr k b o e
    obtain ⟨i', e1', e2'⟩ := fr k' b o' e'
    obtain ⟨_, q0, f1, f2, f3, _⟩ := hH k q hk
    obtain ⟨_, q0', f1', f2', f3', _⟩ := hH k' q' hk'
    rw [e1] at f1; cases f1
    rw [e1'] at f1'; cases f1'
    have hii : i ≠ i' := by
      intro e
      subst e
      have p1 := List.getElem?_eq_some_iff.1 e1
      have p2 := List.getElem?_eq_some_iff.1 e1'
      exact hne ((List.getElem_inj (h₀ := p1.1) (h₁ := p2.1) hnd).1 (p1.2.trans p2.2.symm))
    have := h3.apart i i' b o o' q0 q0' hii e2 e2' f2 f2'
    rw [f3, f3'] at this; exact this
  · rcases look_mem T' t with h | ⟨p, hp, rfl, h⟩
    · rw [h]; trivial
    · rw [h]
      obtain ⟨e1, e2⟩ := hT p hp
      have hr := h4 p.1
      rw [e1] at hr
      exact AV.unren gσ (by rw [hbl]; exact e2) hr

def RenAll (g : List Nat) (H : Heap) : Heap → Nat → Prop
  | [], _ => True
  | none :: r, k => RenAll g H r (k + 1)
  | some b' :: r, k => (∃ i b, g[k]? = some i ∧ H[i]? = some (some b) ∧ b.rw = b'.rw ∧ b.segs = b'.segs.map (Seg.ren fun j => (g.getD j 0, 0)) ∧ b'.segs.all (Seg.idB fun j => Nat.blt j g.length) = true) ∧ RenAll g H r (k + 1)
def RenT (g : List Nat) (T : Tm) : Tm → Prop
  | [] => True
  | p :: r => (look T p.1 = p.2.ren (fun j => (g.getD j 0, 0)) ∧ p.2.idB (fun j => Nat.blt j g.length) = true) ∧ RenT g T r
theorem renAll {g : List Nat} {H : Heap} : ∀ {H' : Heap} {k : Nat}, RenAll g H H' k → ∀ (j : Nat) (b' : Blk), H'[j]? = some (some b') → ∃ i b, g[k + j]? = some i ∧ H[i]? = some (some b) ∧ b.rw = b'.rw ∧ b.segs = b'.segs.map (Seg.ren fun j => (g.getD j 0, 0)) ∧ b'.segs.all (Seg.idB fun j => Nat.blt j g.length) = true
  | [], _, _, j, b', h => by simp at h
  | none :: r, k, hh, j, b', h => by
    cases j with
    | zero => simp at h
    | succ j =>
      have := renAll (H' := r) hh j b' (by simpa using h)
      rwa [show k + (j + 1) = k + 1 + j by omega]
  | some b :: r, k, hh, j, b', h => by
    cases j with
    | zero => simp at h; subst h; exact hh.1
    | succ j =>
      have := renAll (H' := r) hh.2 j b' (by simpa using h)
      rwa [show k + (j + 1) = k + 1 + j by omega]
theorem renT {g : List Nat} {T T' : Tm} (h : RenT g T T') : ∀ p ∈ T', look T p.1 = p.2.ren (fun j => (g.getD j 0, 0)) ∧ p.2.idB (fun j => Nat.blt j g.length) = true := by
  induction T' with
  | nil => intro p hp; cases hp
  | cons q r ih =>
    intro p hp
    cases hp with
    | head => exact h.1
    | tail _ hm => exact ih h.2 p hm
theorem weakR' {E : Env} {T T' : Tm} {H H' : Heap} (g : List Nat) (hg : g.take E.nE = List.range E.nE) (hnd : g.Nodup) (hlen : H'.length = g.length) (hH : RenAll g H H' 0) (hT : RenT g T T') : Weak E T H T' H' :=
  weakR g ⟨fun k hk => by
    have h1 : (g.take E.nE)[k]? = some k := by rw [hg]; simp [hk]
    rw [List.getElem?_take, if_pos hk] at h1; exact h1, hnd, hlen, fun k b' h => by have := renAll hH k b' h; rwa [Nat.zero_add] at this, renT hT⟩
theorem wu_n {m : Int} {c : Nat} (h : m = (c : Int)) (hc : c < 4611686018427387904) : IntKind.u64.wrap m = (c : Int) := by
  subst h
  unfold IntKind.wrap
  simp [IntKind.bits, IntKind.signed]
  omega
end Go.Ab
end

section
/- A struct whose first part is an address; more rules. No program. -/
namespace Go.Ab
section rules
variable {P : Program} {d : Option Tmp} {ty : TypeId} {pos : String} {af : Array Edge} {g : Option (Tmp × Bool)} {T : Tm} {H : Heap}
theorem h_build_ptr {t : TypeId} {x : Operand} {id base idx : Nat} {segs : List Seg} {cs : Array Value} (hx : ev T x = .s (.ptr id base idx)) (hb : ∀ p w, (Instr.build t #[(0, .pointer p)]).run P w = .ok (.agg (#[.pointer p] ++ cs)) w) (hk : rowOk segs cs = true) :
    HOk P ⟨d, .build t #[(0, x)], ty, pos, af, g⟩ T H (.agg (.one (.ptr id base idx) :: segs)) [] :=
  .pure fun W ρ a w _ ho => by
    have h1 : (ev T x).rep ρ (a.eval x) := ho x (by simp [Op.operands])
    rw [hx] at h1
    obtain ⟨b, o, h2, h3⟩ := h1
    obtain ⟨r1, r2⟩ := rowOk_rep hk
    refine ⟨.agg (#[.pointer (some ⟨b, o + base + idx, none⟩)] ++ cs), by simp [execOp, h3, Sem.run_bind, hb], _, rfl, by simp [sizeS, Seg.size, r1], fun i y hy => ?_⟩
    cases i with
    | zero =>
      simp [atS, Seg.size, Seg.at] at hy
      subst hy
      exact ⟨.pointer (some ⟨b, o + base + idx, none⟩), by show (#[Value.pointer (some ⟨b, o + base + idx, none⟩)] ++ cs)[0]? = _; rw [Array.getElem?_append_left (by simp)]; rfl, ⟨b, o, h2, rfl⟩, rfl⟩
    | succ i =>
      have hy : atS segs i = some y := by simpa [atS, Seg.size] using hy
      obtain ⟨u, hu, hc⟩ := r2 ρ i y hy
      refine ⟨u, ?_, hc⟩
      show (#[Value.pointer _] ++ cs)[i + 1]? = some u
      rw [Array.getElem?_append_right (by simp)]
      simpa using hu
end rules
end Go.Ab
end

section
/- Loops over functions: rounds. No program. -/
namespace Go.Ab
/-- The wide fence, in a frame of such a make. -/
def FW (r : Option Nat) : Fence := { Fence.wide with round := r }
def noDefer (ops : Array Oper) : Bool := ops.toList.all fun o => match o.op with | .defer .. => false | _ => true
theorem noDefer_op {ops : Array Oper} (h : noDefer ops = true) {i : Nat} {o : Oper} (ho : ops[i]? = some o) : ∀ c, o.op ≠ .defer c := by
  intro c e
  have := List.all_eq_true.1 h o (List.mem_of_getElem? (i := i) (by simpa using ho))
  rw [e] at this; cases this
theorem upon_in {P : Program} {o : Oper} {a : Act} {next : Act → World → Prop} {Q : Exit → Act → World → Prop} {r : Result Next} {ro : Option Nat} (h : o.upon P a next Q r) : o.uponIn (FW ro) 0 P a next Q r := by
  cases r with
  | ok x w' =>
    cases x with
    | value v => exact h
    | skip => exact h
    | defer d => exact h
    | enter f args =>
      refine ⟨fun e => (by cases e), ?_⟩
      have h : Calls P f args w' _ := h
      exact CallsIn.mono (show CallsIn (FW ro) (0 - 1) P f args w' _ from (callsIn_wide (n := 0 - 1)).2 h) (fun e w hr => by cases e <;> exact hr)
    | row row args =>
      refine ⟨fun e => (by cases e), fun c cs _ => ?_⟩
      have h : Rows P row args w' _ := h
      obtain ⟨v, w2, r, s⟩ := h c cs
      exact ⟨v, w2, r, stepsIn_wide.2 s⟩
    | _ => exact h.elim
  | halt x w' => cases x <;> first | exact h | exact h.elim
theorem gives_in {P : Program} {o : Oper} {a : Act} {w : World} {R : Value → World → Prop} {next : Act → World → Prop} {Q : Exit → Act → World → Prop} {ro : Option Nat} (hd : ∀ c, o.op ≠ .defer c) (h : Gives P o a w R) (hk : ∀ v w', R v w' → next (a.put o.dst v) w') : o.wpIn (FW ro) 0 P a w next Q :=
  ⟨fun _ _ => trivial, by rw [show (FW ro).round = ro from rfl, Oper.semAt_eq _ _ _ hd]; exact upon_in (h next Q hk)⟩
theorem steps_opsIn {E : Env} {ops : Array Oper} {Q : Exit → Act → World → Prop} {ro : Option Nat} (hok : regionOk E.n ops = true) (hnd : noDefer ops = true) {l : List Oper} {T T' : Tm} {H H' : Heap} (hs : Steps E.P ops l T H T' H') :
    ∀ (k : Nat) (rest : List Nat), (∀ j, j < l.length → l[j]? = ops[k + j]?) → (∀ a w, Rep E T' H' a w → wpOpsIn (FW ro) 0 E.P ops Q rest a w) → ∀ a w, Rep E T H a w → wpOpsIn (FW ro) 0 E.P ops Q (List.range' k l.length ++ rest) a w := by
  have mstep : ∀ {o : Oper} {k : Nat} {T : Tm} {H H1 : Heap} {v : AV} {rest : List Nat}, ops[k]? = some o → Guard ops T o true → MOk E.P o T H v H1 → (∀ a w, Rep E (put T o.dst v) H1 a w → wpOpsIn (FW ro) 0 E.P ops Q rest a w) → ∀ a w, Rep E T H a w → wpOpsIn (FW ro) 0 E.P ops Q (k :: rest) a w := by
    intro o k T H H1 v rest h0 hg h hk a w ⟨ρ, h1, h2, h3, h4, h5, h6, h7⟩
    have hw := hg.wanted (ρ := ρ) (a := a) (fun j b t e1 e2 => ⟨h4 t, by rw [h5]; exact regionOk_guard hok j t e2⟩)
    have hopk := regionOk_op hok h0
    simp only [wpOpsIn, h0, hw, if_true]
    refine gives_in (noDefer_op hnd h0) (h E.W ρ a w h3 h2 (fun b hb => E.hW b (Nat.le_trans h7.size hb)) (opOk_ops hopk h4)) ?_
    rintro v' w' ⟨ρ', k1, k2, k3, k4, k5⟩
    exact hk _ _ ⟨ρ', h1.trans k2, k1, k3, (h4.le k2).put (fun i hi => by rw [h5]; exact opOk_dst hopk i hi) k5, (put_size _ _ _).trans h5, (by rw [put_defers]; exact h6.fr k4), h7.trans k4⟩
  induction hs with
  | nil => exact fun k rest _ hk a w hr => hk a w hr
  | @cons o r T H v nb T' H' hg h _ ih =>
    intro k rest hl hk a w hr
    have h0 : ops[k]? = some o := by have := hl 0 (by simp); simpa using this.symm
    rw [List.length_cons, List.range'_succ, List.cons_append]
    exact mstep h0 hg h.mok (fun a w hr => ih (k + 1) rest (fun j hj => by have := hl (j + 1) (by simpa using hj); simpa [Nat.add_assoc, Nat.add_comm 1 j] using this) hk a w hr) a w hr
  | @wr o r T H v H1 T' H' hg h _ ih =>
    intro k rest hl hk a w hr
    have h0 : ops[k]? = some o := by have := hl 0 (by simp); simpa using this.symm
    rw [List.length_cons, List.range'_succ, List.cons_append]
    exact mstep h0 hg h (fun a w hr => ih (k + 1) rest (fun j hj => by have := hl (j + 1) (by simpa using hj); simpa [Nat.add_assoc, Nat.add_comm 1 j] using this) hk a w hr) a w hr
  | @skip o r T H T' H' hg _ ih =>
    intro k rest hl hk a w hr
    have h0 : ops[k]? = some o := by have := hl 0 (by simp); simpa using this.symm
    rw [List.length_cons, List.range'_succ, List.cons_append]
    obtain ⟨ρ, h1, h2, h3, h4, h5, h6, h7⟩ := hr
    have hw := hg.wanted (ρ := ρ) (a := a) (fun j b t e1 e2 => ⟨h4 t, by rw [h5]; exact regionOk_guard hok j t e2⟩)
    have hopk := regionOk_op hok h0
    simp only [wpOpsIn, h0, hw, Bool.false_eq_true, if_false]
    refine ⟨fun _ _ => trivial, ih (k + 1) rest (fun j hj => by have := hl (j + 1) (by simpa using hj); simpa [Nat.add_assoc, Nat.add_comm 1 j] using this) hk _ _ ⟨ρ, h1, h2, h3, h4.put (fun i hi => by rw [h5]; exact opOk_dst hopk i hi) trivial, (put_size _ _ _).trans h5, (by rw [put_defers]; exact h6), h7⟩⟩

def WpI (ro : Option Nat) (E : Env) (c : Code) (T : Tm) (H : Heap) (Q : Exit → Tm → Heap → Prop) : Prop :=
  ∀ a w, Rep E T H a w → c.wpIn (FW ro) 0 E.P (fun e a' w' => ∃ T' H', Q e T' H' ∧ Rep E T' H' a' w') a w
section code
variable {ro : Option Nat} {E : Env} {T : Tm} {H : Heap} {Q : Exit → Tm → Heap → Prop}
theorem i_of {c : Code} (h : WpI none E c T H Q) : Wp E c T H Q := fun a w hr => (wpIn_wide (n := 0)).1 (h a w hr)
theorem i_wp {c : Code} (h : Wp E c T H Q) : WpI none E c T H Q := fun a w hr => (wpIn_wide (n := 0)).2 (h a w hr)
theorem i_skip (h : Q .normal T H) : WpI ro E .skip T H Q := fun _ _ hr => wpIn_skip ⟨T, H, h, hr⟩
theorem i_exit {i : Nat} (h : Q (.exit i) T H) : WpI ro E (.exit i) T H Q := fun _ _ hr => wpIn_exit ⟨T, H, h, hr⟩
theorem i_ret (h : Q .ret T H) : WpI ro E .ret T H Q := fun _ _ hr => wpIn_ret ⟨T, H, h, hr⟩
theorem i_seq {x y : Code} (h : WpI ro E x T H (Thn (fun T H => WpI ro E y T H Q) Q)) : WpI ro E (.seq x y) T H Q := by
  intro a w hr
  refine wpIn_seq (wpIn_mono (h a w hr) ?_)
  rintro e a' w' ⟨T', H', h1, h2⟩
  cases e with
  | normal => exact h1 a' w' h2
  | exit i => exact ⟨T', H', h1, h2⟩
  | goto l => exact ⟨T', H', h1, h2⟩
  | ret => exact ⟨T', H', h1, h2⟩
  | panic ch => exact ⟨T', H', h1, h2⟩
  | outgrown => exact ⟨T', H', h1, h2⟩
theorem i_block {i : Nat} {c : Code} (h : WpI ro E c T H (Blo i Q)) : WpI ro E (.block i c) T H Q := by
  intro a w hr
  refine wpIn_block (wpIn_mono (h a w hr) ?_)
  rintro e a' w' ⟨T', H', h1, h2⟩
  cases e with
  | normal => exact ⟨T', H', h1, h2⟩
  | exit j =>
    simp only [Exit.inBlock]
    simp only [Blo] at h1
    split <;> rename_i hj
    · rw [if_pos hj] at h1; exact ⟨T', H', h1, h2⟩
    · rw [if_neg hj] at h1; exact ⟨T', H', h1, h2⟩
  | goto l => exact ⟨T', H', h1, h2⟩
  | ret => exact ⟨T', H', h1, h2⟩
  | panic ch => exact ⟨T', H', h1, h2⟩
  | outgrown => exact ⟨T', H', h1, h2⟩
theorem i_cond {t : Nat} {x y : Code} {b : Bool} (hc : look T t = .s (.bool b)) (h1 : b = true → WpI ro E x T H Q) (h2 : b = false → WpI ro E y T H Q) : WpI ro E (.cond (.tmp t) x y) T H Q := by
  intro a w hr
  obtain ⟨ρ, k1, k2, k3, k4, k5, k6, k7⟩ := hr
  exact wpIn_cond_split (eval_tmp k4 hc) (fun e => h1 e a w ⟨ρ, k1, k2, k3, k4, k5, k6, k7⟩) (fun e => h2 e a w ⟨ρ, k1, k2, k3, k4, k5, k6, k7⟩)
theorem i_reg {id : Nat} {ops : Array Oper} {l : List Oper} (hok : regionOk E.n ops = true) (hnd : noDefer ops = true) (hl : ops.toList = l) (h : SK E.P ops l T H (Q .normal)) : WpI ro E (.region id ops false) T H Q := by
  obtain ⟨T', H', hs, hq⟩ := h
  subst hl
  intro a w hr
  refine wpIn_region ?_
  have := steps_opsIn (ro := ro) (Q := fun e a' w' => ∃ T' H', Q e T' H' ∧ Rep E T' H' a' w') hok hnd hs 0 [] (fun j _ => by simp) (fun a w hr => ⟨T', H', hq, hr⟩) a w hr
  simpa [List.range_eq_range'] using this
/-- A region, one of whose operations asks for a round. -/
theorem i_regY {id : Nat} {ops : Array Oper} {l1 l2 : List Oper} {y : Oper} (k : Nat) (hok : regionOk E.n ops = true) (hnd : noDefer ops = true) (hk : ops[k]? = some y) (hl1 : ops.toList.take k = l1) (hl2 : ops.toList.drop (k + 1) = l2) (hg : y.guard = none)
    (h1 : SK E.P ops l1 T H fun T1 H1 => ∃ T2 H2, (∀ a w, Rep E T1 H1 a w → ∀ (K : Act → World → Prop) (Q' : Exit → Act → World → Prop), (∀ a' w', Rep E T2 H2 a' w' → K a' w') → y.wpIn (FW ro) 0 E.P a w K Q') ∧ SK E.P ops l2 T2 H2 (Q .normal)) : WpI ro E (.region id ops false) T H Q := by
  obtain ⟨T1, H1, hs, T2, H2, hy, T3, H3, hs2, hq⟩ := h1
  intro a w hr
  refine wpIn_region ?_
  have hks : k < ops.size := (Array.getElem?_eq_some_iff.1 hk).1
  have e1 : l1.length = k := by rw [← hl1, List.length_take, Array.length_toList]; omega
  have e2 : l2.length = ops.size - (k + 1) := by rw [← hl2, List.length_drop, Array.length_toList]
  have hr0 : List.range ops.size = List.range' 0 l1.length ++ k :: (List.range' (k + 1) l2.length ++ []) := by
    rw [List.range_eq_range', e1, e2, List.append_nil]
    have : ops.size = k + (1 + (ops.size - (k + 1))) := by omega
    rw [this, ← List.range'_append_1, Nat.zero_add, Nat.add_comm 1, List.range'_succ]
    congr 3
    omega
  rw [hr0]
  refine steps_opsIn hok hnd hs 0 _ (fun j hj => ?_) (fun a w hr => ?_) a w hr
  · rw [← hl1, List.getElem?_take_of_lt (by omega), Nat.zero_add]; simp
  · have hw : Region.wanted y (yielded ops a.tmps) = true := by simp [Region.wanted, hg]
    simp only [wpOpsIn, hk, hw, if_true]
    refine hy a w hr _ _ fun a' w' hr' => ?_
    refine steps_opsIn (Q := fun e a' w' => ∃ T' H', Q e T' H' ∧ Rep E T' H' a' w') hok hnd hs2 (k + 1) [] (fun j hj => ?_) (fun a w hr => ⟨T3, H3, hq, hr⟩) a' w' hr'
    rw [← hl2, List.getElem?_drop]; simp
theorem i_loop {c : Code} (I : Nat → Tm → Heap → Prop) (n0 : Nat) {T' : Tm} {H' : Heap} (h0 : I n0 T' H') (hw : Weak E T H T' H')
    (round : ∀ n T H, I n T H → WpI ro E c T H (Thn (fun T1 H1 => ∃ n', n' < n ∧ ∃ T2 H2, Weak E T1 H1 T2 H2 ∧ I n' T2 H2) Q)) : WpI ro E (.loop c) T H Q := by
  intro a w hr
  let J : Nat → Act → World → Prop := fun n a w => ∃ T H, I n T H ∧ Rep E T H a w
  refine wpIn_loop (fun a w => ∃ n, J n a w) (fun a w => leastOf (fun n => J n a w)) ⟨n0, T', H', h0, hw a w hr⟩ ?_
  intro a w hI
  obtain ⟨T, H, hI', hr⟩ := (leastOf_spec hI).1
  refine wpIn_mono (round _ T H hI' a w hr) ?_
  rintro e a' w' ⟨T1, H1, h1, h2⟩
  cases e with
  | normal =>
    obtain ⟨n', hlt, T2, H2, hw2, hI2⟩ := h1
    have hJ : J n' a' w' := ⟨T2, H2, hI2, hw2 _ _ h2⟩
    exact ⟨⟨n', hJ⟩, Nat.lt_of_le_of_lt ((leastOf_spec ⟨n', hJ⟩).2 n' hJ) hlt⟩
  | exit i => exact ⟨T1, H1, h1, h2⟩
  | goto l => exact ⟨T1, H1, h1, h2⟩
  | ret => exact ⟨T1, H1, h1, h2⟩
  | panic ch => exact ⟨T1, H1, h1, h2⟩
  | outgrown => exact ⟨T1, H1, h1, h2⟩
theorem ni_wp {y : Code} (h : WpI ro E y T H Q) : Thn (fun T H => WpI ro E y T H Q) Q .normal T H := h
end code
/-! ### Rounds -/
/-- The temporaries of a round. -/
def roundT (ps : List Tmp) (vs : List AV) (T : Tm) : Tm := (ps.zip vs).foldl (fun t p => (p.1, p.2) :: t) T
/-- One round: the loop's variables, then the body, from heap to heap. -/
def YRound (P : Program) (n : Nat) (assign body : Code) (T : Tm) (H H' : Heap) : Prop :=
  ∃ Ta, ∀ (l : Nat) (W : Nat → Prop) (w : World) (ρ0 : Rho) (hW : ∀ b, w.heap.size ≤ b → W b) (hdom : ∀ id, H.length ≤ id → ρ0 id = none),
    WpI (some l) ⟨P, W, w, ρ0, n, H.length, hW, hdom⟩ assign T H (fun e T1 H1 => e = .normal ∧ Weak ⟨P, W, w, ρ0, n, H.length, hW, hdom⟩ T1 H1 Ta H) ∧
    WpI (some l) ⟨P, W, w, ρ0, n, H.length, hW, hdom⟩ body Ta H (fun e T1 H1 => e = .normal ∧ Weak ⟨P, W, w, ρ0, n, H.length, hW, hdom⟩ T1 H1 [] H')
theorem HRep.put {W : Nat → Prop} {ρ : Rho} {H : Heap} {w : World} (h : HRep W ρ H w) {l : Nat} {o : Obj} (o' : Obj) (hl : w.heap[l]? = some o) (ho : o.isCells = false) : HRep W ρ H (w.putObj l o') :=
  ⟨fun id b off e => by simpa using h.lt id b off e, fun id b off k e hk => by
    have hr := h.rep id b off k e hk
    refine ⟨hr.1.world (World.putObj_heap_other ?_), hr.2⟩
    intro e'
    subst e'
    obtain ⟨cells, t, fr, g1, _⟩ := hr.1
    rw [hl] at g1
    cases g1
    exact absurd ho (by simp [Obj.isCells]), h.apart⟩
/-- Putting an object of the loop's own, and putting it back. -/
theorem Fr.put {W : Nat → Prop} {w w' : World} {l : Nat} {o : Obj} (h : Fr W (w.putObj l o) w') (hw : W l) {o0 : Obj} (h0 : w.heap[l]? = some o0) (hb : w'.heap[l]? = some o0) : Fr W w w' :=
  ⟨h.os, h.tape, h.output, by simpa using h.size, fun k hk hn => by
    have hkl : k ≠ l := fun e => hn (e ▸ hw)
    rw [h.block k (by simpa using hk) hn, World.putObj_heap_other hkl], fun k x hk hc => by
    by_cases hkl : k = l
    · subst hkl; rw [hb, ← h0]; exact hk
    · exact h.others k x (by rw [World.putObj_heap_other hkl]; exact hk) hc⟩
theorem Fr.put' {W : Nat → Prop} {w w' : World} {l : Nat} {o : Obj} (h : Fr W w w') (hw : W l) (hn : w.heap[l]? = none ∨ ∃ o0, w.heap[l]? = some o0 ∧ o = o0) : Fr W w (w'.putObj l o) :=
  ⟨h.os, h.tape, h.output, by simpa using h.size, fun k hk hnn => by
    have hkl : k ≠ l := fun e => hnn (e ▸ hw)
    rw [World.putObj_heap_other hkl]; exact h.block k hk hnn, fun k x hk hc => by
    by_cases hkl : k = l
    · subst hkl
      rcases hn with e | ⟨o0, e, rfl⟩
      · rw [e] at hk; cases hk
      · rw [e] at hk
        cases hk
        have := h.others k o e hc
        exact World.putObj_heap_same (Array.getElem?_eq_some_iff.1 this).1
    · rw [World.putObj_heap_other hkl]; exact h.others k x hk hc⟩
theorem TRep.foldl {ρ : Rho} : ∀ (ps : List Tmp) (avs : List AV) (vs : List Value) (T : Tm) (t : Array Value), (∀ p ∈ ps, p < t.size) → ps.length = avs.length → avs.length = vs.length → TRep ρ T { tmps := t, defers := [] } → (∀ (i : Nat) (x : AV) (v : Value), avs[i]? = some x → vs[i]? = some v → x.rep ρ v) →
    TRep ρ (roundT ps avs T) { tmps := (ps.zip vs).foldl (fun t p => t.setIfInBounds p.1 p.2) t, defers := [] }
  | [], _, _, T, t, _, _, _, h, _ => h
  | p :: ps, [], _, _, _, _, h1, _, _, _ => by simp at h1
  | p :: ps, x :: avs, [], _, _, _, _, h2, _, _ => by simp at h2
  | p :: ps, x :: avs, v :: vs, T, t, hp, h1, h2, h, hv => by
    simp only [roundT, List.zip_cons_cons, List.foldl_cons]
    refine TRep.foldl ps avs vs ((p, x) :: T) (t.setIfInBounds p v) (fun q hq => by simpa using hp q (by simp [hq])) (by simpa using h1) (by simpa using h2) ?_ (fun i y u h3 h4 => hv (i + 1) y u (by simpa using h3) (by simpa using h4))
    have := TRep.put (d := some p) (a := { tmps := t, defers := [] }) h (fun i hi => by cases hi; exact hp p (by simp)) (hv 0 x v rfl rfl)
    exact this
theorem foldl_size (ps : List (Tmp × Value)) (t : Array Value) : (ps.foldl (fun t p => t.setIfInBounds p.1 p.2) t).size = t.size := by
  induction ps generalizing t with
  | nil => rfl
  | cons p r ih => rw [List.foldl_cons, ih]; simp
theorem round_in {P : Program} {n l : Nat} {fn : FuncId} {assign body : Code} {T : Tm} {H H' : Heap} {ps : Array Tmp} {avs : List AV} {vs : Array Value} {W : Nat → Prop} {ρ : Rho} {w : World} {tm : Array Value} {D : Nat}
    (hY : YRound P n assign body (roundT ps.toList avs T) H H') (hH : HRep W ρ H w) (hdom : ∀ id, H.length ≤ id → ρ id = none) (hW : ∀ b, w.heap.size ≤ b → W b) (hT : TRep ρ T { tmps := tm, defers := [] }) (hn : tm.size = n) (hWl : W l)
    (hl : w.heap[l]? = some (.loop { state := .ready, pending := none, fn, tmps := tm, params := ps, assign, body, defers := D })) (hps : ∀ p ∈ ps.toList, p < n) (hlen : ps.toList.length = avs.length) (hvs : avs.length = vs.toList.length) (hv : ∀ (i : Nat) (x : AV) (v : Value), avs[i]? = some x → vs.toList[i]? = some v → x.rep ρ v) :
    RoundIn (FW none) 0 P l fn ((ps.zip vs).foldl (fun tmps (t, a) => tmps.setIfInBounds t a) tm) assign body w fun e w' => e = .returned (.bool true) ∧ ∃ ρ', Rle ρ ρ' ∧ (∀ id, H'.length ≤ id → ρ' id = none) ∧ HRep W ρ' H' w' ∧ Fr W w w' := by
  obtain ⟨Ta, hY⟩ := hY
  obtain ⟨hA, _⟩ := hY l W w ρ hW hdom
  refine roundIn_of_wpIn (F := FW none) trivial ?_
  have htm : (ps.zip vs).foldl (fun tmps (t, a) => tmps.setIfInBounds t a) tm = (ps.toList.zip vs.toList).foldl (fun t p => t.setIfInBounds p.1 p.2) tm := by
    rw [← Array.foldl_toList, Array.toList_zip]
  rw [htm]
  have hrep : Rep ⟨P, W, w, ρ, n, H.length, hW, hdom⟩ (roundT ps.toList avs T) H { tmps := (ps.toList.zip vs.toList).foldl (fun t p => t.setIfInBounds p.1 p.2) tm, defers := [] } w :=
    ⟨ρ, .refl _, hdom, hH, TRep.foldl _ _ _ T tm (fun p hp => by rw [hn]; exact hps p hp) hlen hvs hT hv, by rw [foldl_size]; exact hn, DefOk.nil _ _, .refl _ _⟩
  refine wpIn_mono (hA _ w hrep) ?_
  rintro e a1 w1 ⟨T1, H1, ⟨rfl, hwk⟩, hr1⟩
  obtain ⟨ρ1, k1, k2, k3, k4, k5, k6, k7⟩ := hwk a1 w1 hr1
  have hl1 := k7.others l _ hl rfl
  have hlt1 : l < w1.heap.size := (Array.getElem?_eq_some_iff.1 hl1).1
  refine ⟨_, run_beginRound hl1 rfl, ?_⟩
  -- the body begins in a world of its own
  have hltw : l < w.heap.size := (Array.getElem?_eq_some_iff.1 hl).1
  obtain ⟨busy, hbusy⟩ : ∃ busy : Obj, busy = .loop { state := .busy, pending := none, fn, tmps := tm, params := ps, assign, body, defers := D } := ⟨_, rfl⟩
  let wz : World := w.putObj l busy
  let w2 : World := w1.putObj l busy
  have hWz : ∀ b, wz.heap.size ≤ b → W b := fun b hb => hW b (by simpa [wz] using hb)
  obtain ⟨_, hB⟩ := hY l W wz ρ hWz hdom
  have hl2 : wz.heap[l]? = some busy := World.putObj_heap_same hltw
  have hF2 : Fr W wz w2 := ⟨k7.os, k7.tape, k7.output, by have := k7.size; simpa [wz, w2] using this, fun k hk hnn => by
      have hkl : k ≠ l := fun e => hnn (e ▸ hWl)
      show (w1.putObj l busy).heap[k]? = (w.putObj l busy).heap[k]?
      rw [World.putObj_heap_other hkl, World.putObj_heap_other hkl]; exact k7.block k (by simpa [wz] using hk) hnn, fun k x hk hc => by
      by_cases hkl : k = l
      · subst hkl
        rw [hl2] at hk
        cases hk
        exact World.putObj_heap_same hlt1
      · have hk : (w.putObj l busy).heap[k]? = some x := hk
        rw [World.putObj_heap_other hkl] at hk
        show (w1.putObj l busy).heap[k]? = some x
        rw [World.putObj_heap_other hkl]; exact k7.others k x hk hc⟩
  have hd1 : DefOk wz a1.defers w2 := ⟨k6.nodup, fun d hd => by
    obtain ⟨D', e1, e2, e3⟩ := k6.mark d hd
    refine ⟨D', e1, by simpa [wz] using e2, ?_⟩
    show (w1.putObj l busy).heap[D']? = _
    rw [World.putObj_heap_other (by have : w.heap.size ≤ D' := e2; omega)]; exact e3⟩
  rw [← hbusy]
  refine wpIn_mono (hB a1 w2 ⟨ρ1, k1, k2, k3.put _ hl1 rfl, k4, k5, hd1, hF2⟩) ?_
  rintro e a3 w3 ⟨T3, H3, ⟨rfl, hwk3⟩, hr3⟩
  obtain ⟨ρ3, m1, m2, m3, m4, m5, m6, m7⟩ := hwk3 a3 w3 hr3
  have hl3 := m7.others l _ hl2 (by rw [hbusy]; rfl)
  have hlt3 : l < w3.heap.size := (Array.getElem?_eq_some_iff.1 hl3).1
  rw [hbusy] at hl3
  refine ⟨_, _, run_endRound none hl3, rfl, ρ3, m1, m2, m3.put _ hl3 rfl, ?_⟩
  -- what was ready is ready again
  refine ⟨m7.os, m7.tape, m7.output, by have := m7.size; simpa [wz] using this, fun k hk hnn => ?_, fun k x hk hc => ?_⟩
  · have hkl : k ≠ l := fun e => hnn (e ▸ hWl)
    rw [World.putObj_heap_other hkl, m7.block k (by simpa [wz] using hk) hnn]
    exact World.putObj_heap_other hkl
  · by_cases hkl : k = l
    · subst hkl
      rw [hl] at hk
      cases hk
      exact World.putObj_heap_same hlt3
    · rw [World.putObj_heap_other hkl]
      refine m7.others k x ?_ hc
      show (w.putObj l busy).heap[k]? = some x
      rw [World.putObj_heap_other hkl]; exact hk
end Go.Ab
end

section
/- The call that asks for a round; the loop over a function. No program. -/
namespace Go.Ab
theorem yield_op {E : Env} {T1 Trow : Tm} {H H' : Heap} {d t n l D : Nat} {xs : Array Operand} {at_ : Array TypeId} {ty : TypeId} {pos : String} {af : Array Edge} {avs : List AV} {fn : FuncId} {assign body : Code} {ps : Array Tmp} {tm : Array Value}
    (ht : look T1 t = .s (.val (.func (.yield l) #[] #[]))) (hxs : xs.toList.map (ev T1) = avs) (hok : opOk E.n ⟨some d, .call ⟨.value (.tmp t), xs, at_⟩, ty, pos, af, none⟩ = true)
    (hrec : E.w0.heap[l]? = some (.loop { state := .ready, pending := none, fn, tmps := tm, params := ps, assign, body, defers := D })) (hWl : E.W l) (hTr : TRep E.ρ0 Trow { tmps := tm, defers := [] }) (htm : tm.size = n)
    (hps : ∀ p ∈ ps.toList, p < n) (hlen : ps.toList.length = avs.length) (hY : YRound E.P n assign body (roundT ps.toList avs Trow) H H') :
    ∀ a w, Rep E T1 H a w → ∀ (K : Act → World → Prop) (Q' : Exit → Act → World → Prop), (∀ a' w', Rep E ((d, .s (.bool true)) :: T1) H' a' w' → K a' w') → Oper.wpIn (FW none) 0 E.P ⟨some d, .call ⟨.value (.tmp t), xs, at_⟩, ty, pos, af, none⟩ a w K Q' := by
  intro a w ⟨ρ, h1, h2, h3, h4, h5, h6, h7⟩ K Q' hK
  refine ⟨fun _ _ => trivial, ?_⟩
  have hev : a.eval (.tmp t) = .func (.yield l) #[] #[] := by
    have := h4 t
    rw [ht] at this
    exact this.1
  have hops := opOk_ops hok h4
  have hl := h7.others l _ hrec rfl
  have hsz : (xs.map a.eval).size = ps.size := by
    have := congrArg List.length hxs
    simp at this
    simp; rw [this, ← hlen]; simp
  have hrun : ((Oper.semAt (FW none).round a.eval ⟨some d, .call ⟨.value (.tmp t), xs, at_⟩, ty, pos, af, none⟩).run E.P w) = .ok (.round l fn ((ps.zip (xs.map a.eval)).foldl (fun tmps (t, a) => tmps.setIfInBounds t a) tm) assign body) w := by
    rw [show (FW none).round = none from rfl, Oper.semAt_none]
    have hy := run_yield (P := E.P) (args := xs.map a.eval) hl hsz
    simp only [execOp, resolve]
    rw [hev]
    simp only [Deferred.ofValue, Array.empty_append, Sem.run_bind, Sem.run_pure, Result.andThen_ok, invoke]
    exact hy
  rw [hrun]
  refine ⟨fun e => (by cases e), ?_⟩
  refine (round_in hY h3 h2 (fun b hb => E.hW b (Nat.le_trans h7.size hb)) (hTr.le h1) htm hWl hl hps hlen (by have := congrArg List.length hxs; simpa using this.symm) (fun i x v hx hv => ?_)).mono ?_
  · subst hxs
    simp only [List.getElem?_map, Option.map_eq_some_iff] at hx
    obtain ⟨y, hy, rfl⟩ := hx
    have hy' : xs[i]? = some y := by simpa using hy
    have hv' : v = a.eval y := by
      have : (xs.map a.eval).toList[i]? = some (a.eval y) := by simp [hy']
      rw [this] at hv
      exact (Option.some.inj hv).symm
    subst hv'
    refine hops y ?_
    simp only [Op.operands, Call.operands]
    exact Array.mem_append.2 (.inr (Array.mem_of_getElem? hy'))
  · rintro e w' ⟨rfl, ρ', m1, m2, m3, m4⟩
    exact hK _ _ ⟨ρ', h1.trans m1, m2, m3, TRep.put (d := some d) (h4.le m1) (fun i hi => by rw [h5]; exact opOk_dst hok i hi) (show (AV.s (SV.bool true)).rep ρ' (.bool true) from rfl), (put_size _ _ _).trans h5, (by rw [put_defers]; exact h6.fr m4), h7.trans m4⟩
/-- What an iterator does with rounds, from heap to heap. -/
def Iter (E : Env) (gf : FuncId) (caps : List (Nat × Nat × Nat)) (ps : Array Tmp) (assign body : Code) (T : Tm) (H Hend : Heap) : Prop :=
  ∀ (l D : Nat) (ρ : Rho) (tm : Array Value) (w1 : World) (fn : FuncId) (vs : Array Value), HRep E.W ρ H w1 → (∀ id, H.length ≤ id → ρ id = none) → TRep ρ T { tmps := tm, defers := [] } → tm.size = E.n → (∀ b, w1.heap.size ≤ b → E.W b) → E.W l →
    w1.heap[l]? = some (.loop { state := .ready, pending := none, fn, tmps := tm, params := ps, assign, body, defers := D }) →
    (vs.size = caps.length ∧ ∀ (i : Nat) (c : Nat × Nat × Nat), caps[i]? = some c → ∃ b o, ρ c.1 = some (b, o) ∧ vs[i]? = some (.pointer (some ⟨b, o + c.2.1 + c.2.2, none⟩))) →
    Calls E.P gf (#[.func (.yield l) #[] #[]] ++ vs) w1 fun e w' => (∃ v, e = .returned v) ∧ ∃ ρ', Rle ρ ρ' ∧ (∀ id, Hend.length ≤ id → ρ' id = none) ∧ HRep E.W ρ' Hend w' ∧ Fr E.W w1 w'
theorem w_rangeFunc {E : Env} {T : Tm} {H Hend : Heap} {Q : Exit → Tm → Heap → Prop} {t gf : Nat} {caps : List (Nat × Nat × Nat)} {ps : Array Tmp} {assign body : Code} (ht : look T t = .s (.clo gf caps)) (hgf : Callable E.P gf) (hit : Iter E gf caps ps assign body T H Hend) (hq : Q .normal T Hend) : Wp E (.rangeFunc (.tmp t) ps assign body) T H Q := by
  intro a w ⟨ρ, h1, h2, h3, h4, h5, h6, h7⟩
  refine (wpIn_wide (n := 0)).1 (wpIn_rangeFunc ?_)
  intro fn _
  have hx := h4 t
  rw [ht] at hx
  obtain ⟨vs, e1, e2, e3⟩ := hx
  have hev : a.eval (.tmp t) = .func (.func gf) #[] vs := e1
  obtain ⟨rec, hrec⟩ : ∃ rec : Loop, rec = { state := .ready, pending := none, fn, tmps := a.tmps, params := ps, assign, body, defers := w.heap.size } := ⟨_, rfl⟩
  obtain ⟨W1, hW1⟩ : ∃ W1, (w.alloc (.deferred (some []))).alloc (.loop rec) = W1 := ⟨_, rfl⟩
  have hx1 : Ext w W1 := by rw [← hW1]; exact (Ext.alloc w _).trans (Ext.alloc _ _)
  have hs1 : W1.heap.size = w.heap.size + 2 := by rw [← hW1]; simp
  have hL1 : W1.heap[w.heap.size + 1]? = some (.loop rec) := by
    rw [← hW1]; have := World.alloc_heap_new (w.alloc (.deferred (some []))) (.loop rec); rwa [World.size_alloc] at this
  have hK1 : W1.heap[w.heap.size]? = some (.deferred (some [])) := by
    rw [← hW1]; exact (Go.RowKit.Below.heap_alloc _ _ _ (by simp)).trans (World.alloc_heap_new w _)
  have hWf : ∀ b, w.heap.size ≤ b → E.W b := fun b hb => E.hW b (Nat.le_trans h7.size hb)
  refine ⟨w.heap.size + 1, [{ target := .collected w.heap.size, args := #[] }], W1, { target := .fn (.func gf) vs, args := #[.func (.yield (w.heap.size + 1)) #[] #[]] }, W1, gf, #[.func (.yield (w.heap.size + 1)) #[] #[]] ++ vs, W1, ?_, ?_, ?_, ?_, fun e => (by cases e), ?_⟩
  · rw [← hW1, hrec]; exact run_enterLoop_outer _ _ _ _ _
  · simp only [resolve, hev]
    simp [Deferred.ofValue]
    rfl
  · intro f' _; trivial
  · simp [invoke, Sem.run_bind, run_callFunc hgf]
  · have hc := hit (w.heap.size + 1) w.heap.size ρ a.tmps W1 fn vs (h3.ext hx1) h2 (fun i => h4 i) h5 (fun b hb => hWf b (by omega)) (hWf _ (by omega)) (by rw [hL1, hrec]) ⟨e2, e3⟩
    refine ((callsIn_wide (n := 0 - 1)).2 hc).mono ?_
    rintro e w2 ⟨⟨v, rfl⟩, ρ', m1, m2, m3, m4⟩
    have hl2 := m4.others _ _ hL1 rfl
    have hk2 := m4.others _ _ hK1 rfl
    have hlt2 : w.heap.size + 1 < w2.heap.size := (Array.getElem?_eq_some_iff.1 hl2).1
    refine ⟨none, _, by have := run_endLoop (P := E.P) hl2 (by rw [hrec]; simp); rw [show rec.pending = none by rw [hrec]] at this; exact this, ?_⟩
    refine ⟨T, Hend, hq, ρ', h1.trans m1, m2, m3.put _ hl2 rfl, fun i => AV.rep_le m1 (h4 i), h5, ⟨?_, fun d hd => ?_⟩, ?_⟩
    · refine List.nodup_cons.2 ⟨fun hm => ?_, h6.nodup⟩
      obtain ⟨D', f1, f2, f3⟩ := h6.mark _ hm
      cases f1
      have := (Array.getElem?_eq_some_iff.1 f3).1
      omega
    · rcases List.mem_cons.1 hd with rfl | hd
      · exact ⟨w.heap.size, rfl, h7.size, by rw [World.putObj_heap_other (by omega)]; exact hk2⟩
      · obtain ⟨D', f1, f2, f3⟩ := h6.mark d hd
        have := (Array.getElem?_eq_some_iff.1 f3).1
        exact ⟨D', f1, f2, by rw [World.putObj_heap_other (by omega)]; exact m4.others _ _ (hx1.obj f3) rfl⟩
    · have hf : Fr E.W E.w0 w2 := (h7.ext hx1).trans m4
      refine ⟨hf.os, hf.tape, hf.output, by simpa using hf.size, fun k hk hn => ?_, fun k o hk hc => ?_⟩
      · have := h7.size
        rw [World.putObj_heap_other (by omega)]; exact hf.block k hk hn
      · have := h7.size
        have := (Array.getElem?_eq_some_iff.1 hk).1
        rw [World.putObj_heap_other (by omega)]; exact hf.others k o hk hc
end Go.Ab
end

section
/- The heap, told plainly. No program. -/
namespace Go.Ab
theorem s_heap {P : Program} {ops : Array Oper} {r : List Oper} {T : Tm} {H H' : Heap} {K : Tm → Heap → Prop} (e : H = H') (k : SK P ops r T H' K) : SK P ops r T H K := e ▸ k
theorem w_heap {E : Env} {c : Code} {T : Tm} {H H' : Heap} {Q : Exit → Tm → Heap → Prop} (e : H = H') (k : Wp E c T H' Q) : Wp E c T H Q := e ▸ k
end Go.Ab
end
