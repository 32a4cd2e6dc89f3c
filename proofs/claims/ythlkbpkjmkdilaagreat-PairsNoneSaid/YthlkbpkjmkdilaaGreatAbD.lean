/- A part of the proofs of this claim: AbD (Ab24, Ab25, Ab26, Ab27, Ab28, Ab29). No conditions. -/
import Derived.Test.YthlkbpkjmkdilaaGreatAbC
import Derived.Test.YthlkbpkjmkdilaaGreatAbB
import Derived.ChangeSame
import Derived.Laws.BytesArg
import Derived.Laws.Strings
set_option linter.unusedVariables false
set_option linter.unusedSimpArgs false
section
/- Bytes of a constant, append where there is room, slices cut with a bound. No program. -/
namespace Go.Ab
theorem freeze_at {w : World} {b n : Nat} {cells : Array Value} {t : TypeId} (h : w.heap[b]? = some (.cells cells t (0, 0))) : (w.freeze ⟨b, n, none⟩ 1).heap[b]? = some (.cells cells t (n, n + 1)) := by
  unfold World.freeze
  rw [if_neg (by decide)]
  obtain ⟨hl, hk⟩ := Array.getElem?_eq_some_iff.1 h
  show (w.heap.modify b _)[b]? = _
  rw [Array.getElem?_eq_getElem (by simpa using hl), Array.getElem_modify_self, hk]
  rfl
theorem freeze_other {w : World} {b n k : Nat} (h : k ≠ b) : (w.freeze ⟨b, n, none⟩ 1).heap[k]? = w.heap[k]? := by
  unfold World.freeze
  rw [if_neg (by decide)]
  show (w.heap.modify b _)[k]? = _
  rw [Array.getElem?_modify, if_neg (fun e => h e.symm)]
theorem freeze_size {w : World} {b n : Nat} : (w.freeze ⟨b, n, none⟩ 1).heap.size = w.heap.size := by
  unfold World.freeze
  rw [if_neg (by decide)]
  show (w.heap.modify b _).size = _
  simp
theorem freeze_rest {w : World} {b n : Nat} : (w.freeze ⟨b, n, none⟩ 1).os = w.os ∧ (w.freeze ⟨b, n, none⟩ 1).tape = w.tape ∧ (w.freeze ⟨b, n, none⟩ 1).output = w.output := by
  unfold World.freeze
  rw [if_neg (by decide)]
  exact ⟨rfl, rfl, rfl⟩
section rules
variable {P : Program} {T : Tm} {H : Heap} {d : Option Tmp} {ty : TypeId} {pos : String} {af : Array Edge} {g : Option (Nat × Bool)}
theorem conv_gives {t e : TypeId} {x : Operand} {id base idx len cap : Nat} {segs : List Seg} (hx : ev T x = .s (.slice id base idx len cap)) (hb : H[id]? = some (some ⟨true, segs⟩)) (hu : P.underlying t = some (.slice e)) (he : P.underlying e = some (.int .u8))
    {W : Nat → Prop} {ρ : Rho} {a : Act} {w : World} (hH : HRep W ρ H w) (ho : Ops ⟨d, .convert t t x, ty, pos, af, g⟩ T ρ a) :
    Gives P ⟨d, .convert t t x, ty, pos, af, g⟩ a w fun v' w' => HRep W ρ (H.set id (some ⟨false, segs⟩)) w' ∧ Fr W w w' ∧ (AV.s (.slice id base idx len cap)).rep ρ v' := by
  intro next Q hq
  have h1 : (ev T x).rep ρ (a.eval x) := ho x (by simp [Op.operands])
  rw [hx] at h1
  have h0 := h1
  obtain ⟨b, o, hρ, h1⟩ := h1
  obtain ⟨⟨cells, tt, fr, g1, g2, g3⟩, hWb⟩ := hH.rep id b o _ hρ hb
  have hfr := g2 rfl
  subst hfr
  have hsh : w.shape? b = some (tt, cells.size) := by unfold World.shape?; rw [g1]
  have hrun : (execOp a.eval ⟨d, .convert t t x, ty, pos, af, g⟩).run P w = .ok (.value (a.eval x)) (w.freeze ⟨b, cells.size, none⟩ 1) := by
    simp [execOp, h1, convert, Sem.run_bind, run_underlying hu, run_underlying he, markStringish, hsh]
  rw [hrun]
  have hid : id < H.length := (List.getElem?_eq_some_iff.1 hb).1
  have hWb' := hWb rfl
  refine hq _ _ ⟨⟨fun j b' o' h => ?_, fun j b' o' q e1 e2 => ?_, fun j j' b' o1 o2 q q' hne e1 e2 e3 e4 => ?_⟩, ⟨freeze_rest.1, freeze_rest.2.1, freeze_rest.2.2, Nat.le_of_eq freeze_size.symm, fun k _ hk => freeze_other (fun e => hk (e ▸ hWb')), fun k ob hk hc => ?_⟩, h0⟩
  · rw [freeze_size]; exact hH.lt j b' o' h
  · by_cases hj : id = j
    · subst hj
      rw [hρ] at e1
      simp at e1
      obtain ⟨rfl, rfl⟩ := e1
      simp [hid] at e2
      subst e2
      exact ⟨⟨cells, tt, _, freeze_at g1, fun e => by simp at e, g3⟩, fun e => by simp at e⟩
    · rw [List.getElem?_set_ne hj] at e2
      have hr := hH.rep j b' o' q e1 e2
      by_cases hbb : b' = b
      · subst hbb
        exact absurd (hH.apart id j b' o o' _ q hj hρ e1 hb e2).1 (by simp)
      · obtain ⟨⟨c2, t2, f2, k1, k2, k3⟩, k4⟩ := hr
        exact ⟨⟨c2, t2, f2, by rw [freeze_other hbb]; exact k1, k2, k3⟩, k4⟩
  · by_cases hj : id = j
    · subst hj
      rw [List.getElem?_set_ne hne] at e4
      have := hH.apart id j' b' o1 o2 _ q' hne e1 e2 hb e4
      exact absurd this.1 (by simp)
    · rw [List.getElem?_set_ne hj] at e3
      by_cases hj' : id = j'
      · subst hj'
        have := hH.apart j id b' o1 o2 q _ hne e1 e2 e3 hb
        exact absurd this.2 (by simp)
      · rw [List.getElem?_set_ne hj'] at e4
        exact hH.apart j j' b' o1 o2 q q' hne e1 e2 e3 e4
  · by_cases e : k = b
    · subst e
      rw [g1] at hk
      cases hk
      simp [Obj.isCells] at hc
    · rw [freeze_other e]; exact hk
theorem m_conv {t e : TypeId} {x : Operand} {id base idx len cap : Nat} {segs : List Seg} (hx : ev T x = .s (.slice id base idx len cap)) (hb : H[id]? = some (some ⟨true, segs⟩)) (hu : P.underlying t = some (.slice e)) (he : P.underlying e = some (.int .u8)) :
    MOk P ⟨d, .convert t t x, ty, pos, af, g⟩ T H (.s (.slice id base idx len cap)) (H.set id (some ⟨false, segs⟩)) := by
  intro W ρ a w hH hnn hW ho next Q hq
  refine conv_gives hx hb hu he hH ho next Q ?_
  rintro v' w' ⟨h1, h2, h3⟩
  exact hq v' w' ⟨ρ, fun i hi => hnn i (by simpa using hi), .refl _, h1, h2, h3⟩
theorem m_append {x y : Operand} {t t' e e' rt : TypeId} {id base idx dl dc id2 base2 idx2 sl sc m2 : Nat} {k : IntKind} {segs segs' : List Seg} {bk2 : Blk} {ys : List Int} (hx : ev T x = .s (.slice id base idx dl dc)) (hy : ev T y = .s (.slice id2 base2 idx2 sl sc)) (hb : H[id]? = some (some ⟨true, segs⟩))
    (hb2 : H[id2]? = some (some bk2)) (hs2 : segAt bk2.segs base2 = some (.ints k m2 ys)) (hl2 : ys.length = m2) (hfit2 : idx2 + sl ≤ m2) (h0 : 0 < sl) (hroom : dl + sl ≤ dc) (hu : P.underlying t = some (.slice e)) (hu' : P.underlying t' = some (.slice e')) (hs : ∀ w, (sizeOf e).run P w = .ok 1 w)
    (hp : PutS segs (base + idx + dl) sl [.ints k sl ((ys.drop idx2).take sl)] segs') : MOk P ⟨d, .call ⟨.builtin .append, #[x, y], #[t, t']⟩, rt, pos, af, g⟩ T H (.s (.slice id base idx (dl + sl) dc)) (H.set id (some ⟨true, segs'⟩)) := by
  intro W ρ a w hH hnn hW ho next Q hq
  have h1 : (ev T x).rep ρ (a.eval x) := ho x (by simp [Op.operands, Call.operands])
  have h2 : (ev T y).rep ρ (a.eval y) := ho y (by simp [Op.operands, Call.operands])
  rw [hx] at h1
  rw [hy] at h2
  obtain ⟨b, o, hρ, h1⟩ := h1
  obtain ⟨b2, o2, hρ2, h2⟩ := h2
  obtain ⟨⟨cells, tt, fr, g1, g2, g3⟩, hWb⟩ := hH.rep id b o _ hρ hb
  obtain ⟨⟨cells2, tt2, fr2, q1, q2, q3⟩, _⟩ := hH.rep id2 b2 o2 _ hρ2 hb2
  have hfr := g2 rfl
  subst hfr
  have hsrc : ∀ i, i < sl → cells2[o2 + base2 + idx2 + i]? = some (.int k (((ys.drop idx2).take sl).getD i 0)) := by
    intro i hi
    obtain ⟨v, hv, hc⟩ := q3 (base2 + (idx2 + i)) _ (segAt_at hs2 (idx2 + i) (by show idx2 + i < m2; omega))
    have hc : v = .int k (ys.getD (idx2 + i) 0) := hc.1
    subst hc
    have hv : cells2[o2 + (base2 + (idx2 + i))]? = some (.int k (ys.getD (idx2 + i) 0)) := hv
    rw [show o2 + base2 + idx2 + i = o2 + (base2 + (idx2 + i)) by omega, hv]
    simp [List.getD_eq_getElem?_getD, List.getElem?_take, List.getElem?_drop, hi]
  have hzl : ((ys.drop idx2).take sl).length = sl := by simp; omega
  have hfc := loadCells_ints (P := P) q1 hzl hsrc sl sc
  generalize (ys.drop idx2).take sl = zs at *
  have hfit : o + (base + idx + dl) + sl ≤ cells.size := by
    have hle := hp.1
    obtain ⟨y, hy⟩ := atS_some (l := segs) (i := base + idx + dl + sl - 1) (by omega)
    obtain ⟨v, hv, _⟩ := g3 _ y hy
    have : o + (base + idx + dl + sl - 1) < cells.size := by
      rcases Nat.lt_or_ge (o + (base + idx + dl + sl - 1)) cells.size with h | h
      · exact h
      · simp [Array.getElem?_eq_none h] at hv
    omega
  have hst := run_storeCells_at P b (o + (base + idx + dl)) tt (zs.map (Value.int k)) 0 cells w g1 (by simp; omega) (by intro v hv; obtain ⟨z, _, rfl⟩ := List.mem_map.1 hv; rfl)
  rw [Nat.add_zero] at hst
  have hrun : (execOp a.eval ⟨d, .call ⟨.builtin .append, #[x, y], #[t, t']⟩, rt, pos, af, g⟩).run P w = .ok (.value (.slice (some ⟨b, o + base + idx, none⟩) (dl + sl) dc)) (w.setRow b (cells.toList.take (o + (base + idx + dl)) ++ zs.map (Value.int k) ++ cells.toList.drop (o + (base + idx + dl) + (zs.map (Value.int k)).length)).toArray) := by
    simp only [execOp, resolve, invoke, builtin, List.map_toArray, List.map_cons, List.map_nil, h1, h2]
    simp [Builtin.append_, Sem.run_bind, run_underlying hu, run_underlying hu', Builtin.lenOf, hs, hfc, hroom]
    rw [addr_add, show o + base + idx + dl = o + (base + idx + dl) by omega, hst]; simp
  rw [hrun]
  refine hq _ _ ⟨ρ, fun i hi => hnn i (by simpa using hi), .refl _, ?_, Fr.setRow _ (hWb rfl), ⟨b, o, hρ, rfl⟩⟩
  refine hH.write hρ hb g1 g3 hp (by simp; omega) (fun i z hz => ?_) hfit
  obtain ⟨hi, rfl⟩ := atS_ints1 hz
  refine ⟨.int k (zs.getD i 0), ?_, rfl, rfl⟩
  have : i < zs.length := by omega
  simp [List.getD_eq_getElem?_getD, this]
theorem h_bsli5 {t e : TypeId} {x0 x1 x2 x3 x4 : Operand} {k : IntKind} {a0 a1 a2 a3 a4 : Int} {z : Value} {n : Nat} (h0 : ev T x0 = .s (.int k a0)) (h1 : ev T x1 = .s (.int k a1)) (h2 : ev T x2 = .s (.int k a2)) (h3 : ev T x3 = .s (.int k a3)) (h4 : ev T x4 = .s (.int k a4)) (hu : P.underlying t = some (.slice e)) (hs : ∀ w, (sizeOf e).run P w = .ok 1 w) (hz : ∀ w, (zeroValue e).run P w = .ok z w) (hz1 : z.cells = #[z]) (hn : H.length = n) :
    HOk P ⟨d, .buildSlice t 5 #[(0, x0), (1, x1), (2, x2), (3, x3), (4, x4)], ty, pos, af, g⟩ T H (.s (.slice n 0 0 5 5)) [⟨true, [.ints k 5 [a0, a1, a2, a3, a4]]⟩] := by
  subst hn
  intro W ρ a w hH hf ho next Q hq
  have r0 : (SV.int k a0).rep ρ (a.eval x0) := by have := ho x0 (by simp [Op.operands]); rwa [h0] at this
  have c0 := SV.oneCell r0 (by simp)
  have k0 := cells_one c0
  have r1 : (SV.int k a1).rep ρ (a.eval x1) := by have := ho x1 (by simp [Op.operands]); rwa [h1] at this
  have c1 := SV.oneCell r1 (by simp)
  have k1 := cells_one c1
  have r2 : (SV.int k a2).rep ρ (a.eval x2) := by have := ho x2 (by simp [Op.operands]); rwa [h2] at this
  have c2 := SV.oneCell r2 (by simp)
  have k2 := cells_one c2
  have r3 : (SV.int k a3).rep ρ (a.eval x3) := by have := ho x3 (by simp [Op.operands]); rwa [h3] at this
  have c3 := SV.oneCell r3 (by simp)
  have k3 := cells_one c3
  have r4 : (SV.int k a4).rep ρ (a.eval x4) := by have := ho x4 (by simp [Op.operands]); rwa [h4] at this
  have c4 := SV.oneCell r4 (by simp)
  have k4 := cells_one c4
  have hrun : (execOp a.eval ⟨d, .buildSlice t 5 #[(0, x0), (1, x1), (2, x2), (3, x3), (4, x4)], ty, pos, af, g⟩).run P w = .ok (.value (.slice (some ⟨w.heap.size, 0, none⟩) 5 5)) (w.alloc (.cells #[a.eval x0, a.eval x1, a.eval x2, a.eval x3, a.eval x4] e)) := by
    simp only [execOp, List.map_toArray, List.map_cons, List.map_nil]
    generalize a.eval x0 = X0 at *
    generalize a.eval x1 = X1 at *
    generalize a.eval x2 = X2 at *
    generalize a.eval x3 = X3 at *
    generalize a.eval x4 = X4 at *
    simp [Instr.buildSlice, Instr.fill, Sem.run_bind, run_underlying hu, hs, hz, newRow, k0, k1, k2, k3, k4, hz1]
    have hr : Array.range 5 = #[0, 1, 2, 3, 4] := by decide
    simp [hr]
  rw [hrun]
  have h0 : ρ H.length = none := by have := hf 0 (by simp); simpa using this
  refine hq _ _ ⟨_, .one h0 (fun ρ' hl i y hy => ?_), w.heap.size, 0, by simp [upd], rfl⟩
  obtain ⟨hi, rfl⟩ := atS_ints1 hy
  match i, hi with
  | 0, _ => exact ⟨_, rfl, SV.rep_le hl r0, c0⟩
  | 1, _ => exact ⟨_, rfl, SV.rep_le hl r1, c1⟩
  | 2, _ => exact ⟨_, rfl, SV.rep_le hl r2, c2⟩
  | 3, _ => exact ⟨_, rfl, SV.rep_le hl r3, c3⟩
  | 4, _ => exact ⟨_, rfl, SV.rep_le hl r4, c4⟩
  | i + 5, hi => exact absurd hi (by omega)
theorem h_slice_hm {t e : TypeId} {x i j : Operand} {id base idx len cap h m : Nat} {k k' : IntKind} {n n' : Int} (hx : ev T x = .s (.slice id base idx len cap)) (hi : ev T i = .s (.int k n)) (hj : ev T j = .s (.int k' n')) (hn : n = (h : Int)) (hn' : n' = (m : Int)) (hu : P.underlying t = some (.slice e)) (hs : ∀ w, (sizeOf e).run P w = .ok 1 w) (h1 : h ≤ m) (h2 : m ≤ cap) :
    HOk P ⟨d, .slice t x none (some i) (some j), ty, pos, af, g⟩ T H (.s (.slice id base idx h m)) [] :=
  .pure fun W ρ a w _ ho => by
    subst hn; subst hn'
    have k1 := ho x (by simp [Op.operands])
    have k2 := ho i (by simp [Op.operands])
    have k3 := ho j (by simp [Op.operands])
    rw [hx] at k1
    rw [hi] at k2
    rw [hj] at k3
    simp only [AV.rep, SV.rep] at k2 k3
    obtain ⟨ad, e1, e2⟩ := sliced_rep (l := 0) (h := h) (m := m) k1
    have hr := sl_run (P := P) (w := w) (a := ad) hu hs (sb_hm (len := len) (k := k) (k' := k') h1 h2)
    refine ⟨sliced ad 0 h m 1, by simp [execOp, e1, k2, k3, Sem.run_bind, hr], ?_⟩
    have : (if m = 0 then idx else idx + 0) = idx := by split <;> rfl
    rw [this] at e2
    exact e2
theorem h_slice_lhm {t e : TypeId} {x i0 i j : Operand} {id base idx len cap l h m hl ml : Nat} {k0 k k' : IntKind} {n0 n n' : Int} (hx : ev T x = .s (.slice id base idx len cap)) (hi0 : ev T i0 = .s (.int k0 n0)) (hi : ev T i = .s (.int k n)) (hj : ev T j = .s (.int k' n')) (hn0 : n0 = (l : Int)) (hn : n = (h : Int)) (hn' : n' = (m : Int)) (hu : P.underlying t = some (.slice e)) (hs : ∀ w, (sizeOf e).run P w = .ok 1 w) (h0 : l ≤ h) (h1 : h ≤ m) (h2 : m ≤ cap) (h3 : l < m) (e1 : h - l = hl) (e2 : m - l = ml) :
    HOk P ⟨d, .slice t x (some i0) (some i) (some j), ty, pos, af, g⟩ T H (.s (.slice id base (idx + l) hl ml)) [] :=
  .pure fun W ρ a w _ ho => by
    subst hn0; subst hn; subst hn'; subst e1; subst e2
    have k1 := ho x (by simp [Op.operands])
    have k20 := ho i0 (by simp [Op.operands])
    have k2 := ho i (by simp [Op.operands])
    have k3 := ho j (by simp [Op.operands])
    rw [hx] at k1
    rw [hi0] at k20
    rw [hi] at k2
    rw [hj] at k3
    simp only [AV.rep, SV.rep] at k20 k2 k3
    obtain ⟨ad, e1, e2⟩ := sliced_rep (l := l) (h := h) (m := m) k1
    have hr := sl_run (P := P) (w := w) (a := ad) hu hs (sb_lhm (len := len) (k := k0) (k' := k) (k'' := k') h0 h1 h2)
    refine ⟨sliced ad l h m 1, by simp [execOp, e1, k20, k2, k3, Sem.run_bind, hr], ?_⟩
    rw [if_neg (by omega)] at e2
    exact e2
end rules
theorem ret_cell_tmp {E : Env} {fn : Func} {T : Tm} {H : Heap} {p id n j : Nat} {ty : TypeId} {k : Blk} {segs : List Seg} {v : SV} (hr : fn.results = #[.cell p ty, .tmp j]) (hp : look T p = .s (.ptr id 0 0)) (hb : H[id]? = some (some k)) (hs : SubS k.segs 0 n segs)
    (ha : ∀ w, (isAgg ty).run E.P w = .ok true w) (hz : ∀ w, (sizeOf ty).run E.P w = .ok n w) (h2 : look T j = .s v) : Ret E fn T H (.tup [.agg segs, .s v]) := by
  intro ρ a w hH hT
  have hx := hT p
  rw [hp] at hx
  obtain ⟨b, o, hρ, hx⟩ := hx
  obtain ⟨v1, h3, h4⟩ := run_load_sub (P := E.P) (hH.rep id b o k hρ hb).1 hs ha hz
  have e1 : a.tmps[p]?.getD undef = .pointer (some ⟨b, o, none⟩) := by simpa using hx
  have e2 := hT j
  rw [h2] at e2
  simp only [Nat.add_zero] at h3
  refine ⟨.tuple #[v1, a.tmps.getD j undef], by simp [results, hr, Sem.run_bind, e1, asAddr, h3], _, rfl, fun i x hx => ?_⟩
  match i, hx with
  | 0, hx => simp at hx; subst hx; exact ⟨v1, rfl, h4⟩
  | 1, hx => simp at hx; subst hx; exact ⟨_, rfl, e2⟩
  | i + 2, hx => simp at hx
end Go.Ab
end

section
/- A region that draws its order, one of whose operations marks bytes that another one of it made. No program. -/
namespace Go.Ab
theorem HRep.soft {W : Nat → Prop} {ρ : Rho} {H H' : Heap} {w : World} (h : HRep W ρ H w) (hs : ∀ (id : Nat) (k : Blk), H'[id]? = some (some k) → ∃ k', H[id]? = some (some k') ∧ k'.segs = k.segs ∧ (k.rw = true → k'.rw = true)) : HRep W ρ H' w := by
  refine ⟨h.lt, fun id b o k e1 e2 => ?_, fun id id' b o o' k k' hne e1 e2 e3 e4 => ?_⟩
  · obtain ⟨k', g1, g2, g3⟩ := hs id k e2
    obtain ⟨⟨cells, t, fr, q1, q2, q3⟩, q4⟩ := h.rep id b o k' e1 g1
    exact ⟨⟨cells, t, fr, q1, fun e => q2 (g3 e), by rw [← g2]; exact q3⟩, fun e => q4 (g3 e)⟩
  · obtain ⟨q, g1, _, g3⟩ := hs id k e3
    obtain ⟨q', g1', _, g3'⟩ := hs id' k' e4
    have := h.apart id id' b o o' q q' hne e1 e2 g1 g1'
    constructor
    · cases hb : k.rw with
      | false => rfl
      | true => rw [g3 hb] at this; exact absurd this.1 (by simp)
    · cases hb : k'.rw with
      | false => rfl
      | true => rw [g3' hb] at this; exact absurd this.2 (by simp)
def StepC (P : Program) (ops : Array Oper) (V : Nat → AV) (N Nf : Nat → List Blk) (T0 : Tm) (H0 : Heap) (k : Nat) : Prop :=
  ∃ o, ops[k]? = some o ∧ ((Guard ops (Tk ops V T0 k) o true ∧ HOk P o (Tk ops V T0 k) (Hk Nf H0 k) (V k) (N k)) ∨ (Guard ops (Tk ops V T0 k) o false ∧ V k = .s .junk ∧ N k = []))
structure InvC (E : Env) (ops : Array Oper) (m k0 : Nat) (V : Nat → AV) (N Nf : Nat → List Blk) (T0 : Tm) (H0 : Heap) (listed : Array Bool) (a : Act) (w : World) : Prop where
  size : listed.size = ops.size
  closed : Closed ops listed
  late : ∀ i, m ≤ i → i < ops.size → listed.getD i false = false
  ex : ∃ ρ, Rle E.ρ0 ρ ∧ HRep E.W ρ (Hk (bif listed.getD k0 false then Nf else N) H0 m) w ∧
    (∀ t, (∀ j, j < m → listed.getD j false = true → (ops[j]?).bind (·.dst) = some t → (V j).rep ρ (a.tmps.getD t undef)) ∧ ((∀ j, j < m → (ops[j]?).bind (·.dst) ≠ some t) → (look T0 t).rep ρ (a.tmps.getD t undef))) ∧
    (∀ id x, ρ id = some x → id < H0.length ∨ ∃ j, j < m ∧ listed.getD j false = true ∧ (Hk N H0 j).length ≤ id ∧ id < (Hk N H0 j).length + (N j).length) ∧
    a.tmps.size = E.n ∧ DefOk E.w0 a.defers w ∧ Fr E.W E.w0 w

theorem head_anyC {E : Env} {ops : Array Oper} {Q : Exit → Act → World → Prop} {m k0 j0 : Nat} (hok : regionOk E.n ops = true) (hany : anyOk ops m = true) (hm : m ≤ ops.size) {V : Nat → AV} {N Nf : Nat → List Blk} {T0 : Tm} {H0 : Heap} (hk0 : k0 < m) (hN : ∀ j, j ≠ j0 → Nf j = N j) (hlenN : ∀ j, (Nf j).length = (N j).length) (hsoft : ∀ (id : Nat) (k : Blk), (Hk Nf H0 m)[id]? = some (some k) → ∃ k', (Hk N H0 m)[id]? = some (some k') ∧ k'.segs = k.segs ∧ (k.rw = true → k'.rw = true)) (hedge : ∀ listed, Closed ops listed → listed.getD k0 false = true → listed.getD j0 false = true)
    (hstep : ∀ k, k < m → k ≠ k0 → StepC E.P ops V N Nf T0 H0 k) (hmut : ∃ o, ops[k0]? = some o ∧ N k0 = [] ∧ Guard ops (Tk ops V T0 k0) o true ∧ ∀ ρ a w, HRep E.W ρ (Hk N H0 m) w → (∀ b, w.heap.size ≤ b → E.W b) → Ops o (Tk ops V T0 k0) ρ a → Gives E.P o a w fun v' w' => HRep E.W ρ (Hk Nf H0 m) w' ∧ Fr E.W w w' ∧ (V k0).rep ρ v') {l : List Oper} (hl : ∀ j, l[j]? = ops[m + j]?) (hlen : m + l.length = ops.size) {T' : Tm} {H' : Heap} (htail : Steps E.P ops l (Tk ops V T0 m) (Hk Nf H0 m) T' H') (hQ : ∀ a' w', Rep E T' H' a' w' → Q .normal a' w') :
    ∀ (fuel : Nat) (us : List Nat) (listed : Array Bool) (a : Act) (w : World), (∀ j, j < m → listed.getD j false = false → j ∈ us) → us.length + l.length ≤ fuel → InvC E ops m k0 V N Nf T0 H0 listed a w → wpAny E.P .any ops Q fuel listed a w := by
  have hlm : ∀ n, (Hk Nf H0 n).length = (Hk N H0 n).length := by
    intro n
    induction n with
    | zero => rfl
    | succ n ih => simp only [Hk, List.length_append, List.length_map, ih, hlenN]
  have finish : ∀ (fuel : Nat) (listed : Array Bool) (a : Act) (w : World), (∀ j, j < m → listed.getD j false = true) → l.length ≤ fuel → InvC E ops m k0 V N Nf T0 H0 listed a w → wpAny E.P .any ops Q fuel listed a w := by
    intro fuel listed a w hall hf hi
    refine tail_any hok hany htail m (Nat.le_refl _) hlen hl fuel listed hf hi.size (fun i his => ?_) a w ?_ hQ
    · rcases Nat.lt_or_ge i m with h | h
      · rw [hall i h]; simp [h]
      · rw [hi.late i h his]; simp; omega
    · obtain ⟨ρ, k1, k2, k3, k4, k5, k6, k7⟩ := hi.ex
      rw [hall k0 hk0] at k2
      refine ⟨ρ, k1, fun id hid => ?_, k2, fun t => ?_, k5, k6, k7⟩
      · cases hr : ρ id with
        | none => rfl
        | some x =>
          rcases k4 id x hr with h | ⟨j, h1, _, _, h2⟩
          · obtain ⟨r, hr⟩ := Hk_le (N := Nf) (H0 := H0) (Nat.zero_le m)
            simp only [Hk] at hr
            rw [hr] at hid
            simp at hid; omega
          · have := Hk_len (N := N) (H0 := H0) h1
            have := hlm m
            omega
      · rcases look_Tk (ops := ops) (V := V) (T0 := T0) t m with ⟨j, h1, h2, h3⟩ | ⟨h1, h2⟩
        · rw [h3]; exact (k3 t).1 j h1 (hall j h1) h2
        · rw [h2]; exact (k3 t).2 h1
  intro fuel
  induction fuel with
  | zero =>
    intro us listed a w hus hf hi
    refine finish 0 listed a w (fun j hj => ?_) (by omega) hi
    cases hb : listed.getD j false with
    | true => rfl
    | false => have := hus j hj hb; have := List.length_pos_of_mem this; omega
  | succ fuel ih =>
    intro us listed a w hus hf hi
    by_cases hall : ∀ j, j < m → listed.getD j false = true
    · exact finish _ listed a w hall (by omega) hi
    have hex : ∃ j, j < m ∧ listed.getD j false = false := by
      apply Classical.byContradiction
      intro hn
      refine hall fun j hj => ?_
      cases hb : listed.getD j false with
      | true => rfl
      | false => exact absurd ⟨j, hj, hb⟩ hn
    -- the least unlisted one is ready
    have hready : ∃ j, j ∈ Region.ready .any ops listed := by
      have hleast : ∀ n, (∃ j, j ≤ n ∧ j < m ∧ listed.getD j false = false) → ∃ j, j < m ∧ listed.getD j false = false ∧ ∀ i, i < j → listed.getD i false = true := by
        intro n
        induction n with
        | zero =>
          rintro ⟨j, h1, h2, h3⟩
          have : j = 0 := by omega
          subst this
          exact ⟨0, h2, h3, fun i hi => absurd hi (by omega)⟩
        | succ n ihn =>
          rintro ⟨j, h1, h2, h3⟩
          by_cases hh : ∃ j, j ≤ n ∧ j < m ∧ listed.getD j false = false
          · exact ihn hh
          · refine ⟨j, h2, h3, fun i hi => ?_⟩
            cases hb : listed.getD i false with
            | true => rfl
            | false => exact absurd ⟨i, by omega, by omega, hb⟩ hh
      obtain ⟨j0, h1, h2⟩ := hex
      obtain ⟨j, hj, hjf, hji⟩ := hleast j0 ⟨j0, Nat.le_refl _, h1, h2⟩
      have hjs : j < ops.size := by omega
      have ho : ops[j]? = some ops[j] := by simp [hjs]
      exact ⟨j, mem_ready.2 ⟨by simp [hi.size, hjs] at hjf ⊢; exact hjf, _, ho, fun e he hb => hji _ (anyOk_edge hany ho e he hb)⟩⟩
    refine ⟨fun hn => (by obtain ⟨j, hj⟩ := hready; rw [hn] at hj; cases hj), fun i hir => ?_⟩
    obtain ⟨hun, o, ho, hedges⟩ := mem_ready.1 hir
    have his : i < ops.size := (Array.getElem?_eq_some_iff.1 ho).1
    have hif : listed.getD i false = false := by simp [hi.size, his] at hun ⊢; exact hun
    have him : i < m := by
      rcases Nat.lt_or_ge i m with h | h
      · exact h
      · obtain ⟨j, h1, h2⟩ := hex
        have := reach_listed hany hi.closed i o j ho (anyOk_tail hany ho h j (by omega)) hedges
        rw [h2] at this; cases this
    obtain ⟨ρ, k1, k2, k3, k4, k5, k6, k7⟩ := hi.ex
    -- what it looks at is told
    have hlook : ∀ t, t ∈ o.looksAt ops → (look (Tk ops V T0 i) t).rep ρ (a.tmps.getD t undef) := by
      intro t ht
      rcases look_Tk (ops := ops) (V := V) (T0 := T0) t i with ⟨j, h1, h2, h3⟩ | ⟨h1, h2⟩
      · rw [h3]
        have hjs : j < ops.size := by omega
        have hp : ops[j]? = some ops[j] := by simp [hjs]
        have hd : ops[j].dst = some t := by rw [hp] at h2; simpa using h2
        have := (anyOk_head hany ho him (show j < m by omega) hp hd).2 ht
        exact (k3 t).1 j (by omega) (reach_listed hany hi.closed i o j ho this.2 hedges) h2
      · rw [h2]
        refine (k3 t).2 fun j hj hd => ?_
        by_cases hji : j < i
        · exact h1 j hji hd
        · have hjs : j < ops.size := by omega
          have hp : ops[j]? = some ops[j] := by simp [hjs]
          have hd' : ops[j].dst = some t := by rw [hp] at hd; simpa using hd
          have := (anyOk_head hany ho him hj hp hd').2 ht
          omega
    have hopk := regionOk_op hok ho
    have hopsrep : Ops o (Tk ops V T0 i) ρ a := by
      intro x hx
      simp only [opOk, Bool.and_eq_true, Array.all_eq_true_iff_forall_mem] at hopk
      cases x with
      | tmp t => exact hlook t (looksAt_op hx)
      | global g => trivial
      | func f => exact ⟨rfl, rfl⟩
      | const c =>
        have h := hopk.1.1 _ hx
        simp only [operandOk] at h
        unfold constOk at h
        split at h <;> first
          | (cases h; done)
          | exact rfl
          | exact ⟨rfl, rfl⟩
    have hdst : ∀ d, o.dst = some d → d < a.tmps.size := fun d hd => by rw [k5]; exact opOk_dst hopk d hd
    have hwant : ∀ c, Guard ops (Tk ops V T0 i) o c → Region.wanted o (yielded ops a.tmps) = c := fun c hg =>
      hg.wanted (ρ := ρ) fun j b t e1 e2 => ⟨hlook t (looksAt_guard e1 e2), by rw [k5]; exact regionOk_guard hok j t e2⟩
    have hW : ∀ b, w.heap.size ≤ b → E.W b := fun b hb => E.hW b (Nat.le_trans k7.size hb)
    have hnone : ∀ i', i' < (N i).length → ρ ((Hk N H0 i).length + i') = none := by
      intro i' hi'
      cases hr : ρ ((Hk N H0 i).length + i') with
      | none => rfl
      | some x =>
        rcases k4 _ x hr with h | ⟨j, h1, h2, h3, h4⟩
        · obtain ⟨r, hr⟩ := Hk_le (N := N) (H0 := H0) (Nat.zero_le i)
          simp only [Hk] at hr
          rw [hr] at h; simp at h; omega
        · rcases Nat.lt_trichotomy i j with h5 | h5 | h5
          · have := Hk_len (N := N) (H0 := H0) h5; omega
          · subst h5; rw [hif] at h2; cases h2
          · have := Hk_len (N := N) (H0 := H0) h5; omega
    -- the step
    have hinv : ∀ (v' : Value) (w' : World) (ρ' : Rho), Rle ρ ρ' → HRep E.W ρ' (Hk (bif (listed.setIfInBounds i true).getD k0 false then Nf else N) H0 m) w' → (∀ id x, ρ' id = some x → ρ id = some x ∨ ((Hk N H0 i).length ≤ id ∧ id < (Hk N H0 i).length + (N i).length)) → Fr E.W w w' → (V i).rep ρ' v' → InvC E ops m k0 V N Nf T0 H0 (listed.setIfInBounds i true) (a.put o.dst v') w' := by
      intro v' w' ρ' hrle hheap hold hfr hv
      have hset : ∀ j, j ≠ i → (listed.setIfInBounds i true).getD j false = listed.getD j false := fun j hj => getD_set_ne false (Ne.symm hj)
      have hseti : (listed.setIfInBounds i true).getD i false = true := by simp [hi.size, his]
      refine ⟨by simpa using hi.size, fun j p hp hjl e he hb => ?_, fun j h1 h2 => by rw [hset j (by omega)]; exact hi.late j h1 h2, ρ', k1.trans hrle, hheap, fun t => ?_, fun id x hx => ?_, (put_size _ _ _).trans k5, (by rw [put_defers]; exact k6.fr hfr), k7.trans hfr⟩
      · have keep : ∀ x, listed.getD x false = true → (listed.setIfInBounds i true).getD x false = true := fun x hx => getD_set_true hx
        by_cases hji : j = i
        · subst hji
          rw [ho] at hp
          cases hp
          exact keep _ (hedges e he hb)
        · rw [hset j hji] at hjl
          exact keep _ (hi.closed j p hp hjl e he hb)
      · have hslot : (a.put o.dst v').tmps.getD t undef = if o.dst = some t then v' else a.tmps.getD t undef := by
          cases hd : o.dst with
          | none => simp [Act.put]
          | some d =>
            simp only [Act.put]
            rw [getD_set _ _ _ _ (hdst d hd)]
            simp
        rw [hslot]
        refine ⟨fun j hj hlj hdj => ?_, fun hno => ?_⟩
        · by_cases hji : j = i
          · subst hji
            rw [ho] at hdj
            have hdj : o.dst = some t := by simpa using hdj
            rw [if_pos hdj]; exact hv
          · have hjs : j < ops.size := by omega
            have hp : ops[j]? = some ops[j] := by simp [hjs]
            have hd' : ops[j].dst = some t := by rw [hp] at hdj; simpa using hdj
            have h1 := (anyOk_head hany ho him hj hp hd').1
            rw [if_neg (h1.resolve_left hji)]
            rw [hset j hji] at hlj
            exact AV.rep_le hrle ((k3 t).1 j hj hlj hdj)
        · have : o.dst ≠ some t := by have := hno i him; rw [ho] at this; simpa using this
          rw [if_neg this]
          exact AV.rep_le hrle ((k3 t).2 hno)
      · rcases hold id x hx with h | ⟨h1, h2⟩
        · rcases k4 id _ h with h | ⟨j, h1, h2, h3⟩
          · exact .inl h
          · refine .inr ⟨j, h1, ?_, h3⟩
            by_cases hji : j = i
            · subst hji; exact hseti
            · rw [hset j hji]; exact h2
        · exact .inr ⟨i, him, hseti, h1, h2⟩
    have hus' : ∀ j, j < m → (listed.setIfInBounds i true).getD j false = false → j ∈ us.erase i := by
      intro j hj hjf
      by_cases hji : j = i
      · subst hji; simp [hi.size, his] at hjf
      · rw [getD_set_ne false (Ne.symm hji)] at hjf
        exact (List.mem_erase_of_ne hji).2 (hus j hj hjf)
    have hlen' : (us.erase i).length + l.length ≤ fuel := by
      have hmem := hus i him hif
      rw [List.length_erase_of_mem hmem]
      have := List.length_pos_of_mem hmem
      omega
    have hlistk : i = j0 → listed.getD k0 false = false := fun e => by
      cases hb : listed.getD k0 false with
      | false => rfl
      | true => have := hedge listed hi.closed hb; subst e; rw [hif] at this; cases this
    have hsubv : HRep E.W ρ (Hk Nf H0 i) w := by
      obtain ⟨r, hr⟩ := Hk_le (N := Nf) (H0 := H0) (Nat.le_of_lt him)
      refine HRep.sub_pre (r := r) ?_
      rw [← hr]
      cases hb : listed.getD k0 false with
      | true => rw [hb] at k2; exact k2
      | false => rw [hb] at k2; exact k2.soft hsoft
    unfold wpOp
    simp only [ho]
    by_cases hik : i = k0
    · subst hik
      obtain ⟨o', ho', hNi, hg, hmut⟩ := hmut
      rw [ho] at ho'
      cases ho'
      rw [hwant _ hg]
      simp only [if_true]
      rw [hif] at k2
      simp only [cond_false] at k2
      refine .inl (hmut ρ a w k2 hW hopsrep _ Q ?_)
      rintro v' w' ⟨hheap, hfr, hv⟩
      refine ih (us.erase i) _ _ _ hus' hlen' (hinv v' w' ρ (.refl _) ?_ (fun id x hx => .inl hx) hfr hv)
      simp only [show (listed.setIfInBounds i true).getD i false = true by simp [hi.size, his], cond_true]
      exact hheap
    · obtain ⟨o', ho', hso⟩ := hstep i him hik
      rw [ho] at ho'
      cases ho'
      have hsk : (listed.setIfInBounds i true).getD k0 false = listed.getD k0 false := getD_set_ne false hik
      have hlv := hlm i
      rcases hso with ⟨hg, hh⟩ | ⟨hg, hv, hn⟩
      · rw [hwant _ hg]
        simp only [if_true]
        refine .inl (hh E.W ρ a w hsubv (fun i' hi' => by rw [hlv]; exact hnone i' hi') hopsrep _ Q ?_)
        rintro v' w' ⟨ρ', hnew, hv⟩
        rw [hlv] at hnew
        refine ih (us.erase i) _ _ _ hus' hlen' (hinv v' w' ρ' hnew.le ?_ (fun id x hx => ?_) (hnew.ext.fr _) hv)
        · rw [hsk]
          refine k2.new' hW hnone (fun i' hi' => ?_) hnew
          have hcase : ∀ M : Nat → List Blk, (∀ n, (Hk M H0 n).length = (Hk N H0 n).length) → M i = N i → (Hk M H0 m)[(Hk N H0 i).length + i']? = some (N i)[i']? := by
            intro M hM hMi
            obtain ⟨r, hr⟩ := Hk_le (N := M) (H0 := H0) (show i + 1 ≤ m by omega)
            rw [hr]
            simp only [Hk, hMi]
            rw [List.append_assoc, List.getElem?_append_right (by rw [hM]; omega), hM, Nat.add_sub_cancel_left, List.getElem?_append_left (by simpa using hi')]
            simp [hi']
          by_cases hij : i = j0
          · rw [hlistk hij]
            exact hcase N (fun _ => rfl) rfl
          · cases listed.getD k0 false
            · exact hcase N (fun _ => rfl) rfl
            · exact hcase Nf hlm (hN i hij)
        · obtain ⟨b, off⟩ := x
          rcases hnew.old id b off hx with h | ⟨h1, h2, _, _⟩
          · exact .inl h
          · exact .inr ⟨h1, h2⟩
      · rw [hwant _ hg]
        simp only [Bool.false_eq_true, if_false]
        refine ih (us.erase i) _ _ _ hus' hlen' (hinv undef w ρ (.refl _) (by rw [hsk]; exact k2) (fun id x hx => .inl hx) (.refl _ _) ?_)
        rw [hv]; trivial
theorem Hk_two {N Nf : Nat → List Blk} {H0 : Heap} {p : Nat} (h : ∀ j, p ≤ j → Nf j = N j) : ∀ m, p ≤ m → ∃ r, Hk Nf H0 m = Hk Nf H0 p ++ r ∧ Hk N H0 m = Hk N H0 p ++ r := by
  intro m
  induction m with
  | zero => intro hp; have : p = 0 := by omega
            subst this; exact ⟨[], by simp, by simp⟩
  | succ m ih =>
    intro hp
    by_cases e : p = m + 1
    · subst e; exact ⟨[], by simp, by simp⟩
    · obtain ⟨r, r1, r2⟩ := ih (by omega)
      exact ⟨r ++ (N m).map some, by simp only [Hk, r1, h m (by omega), List.append_assoc], by simp only [Hk, r2, List.append_assoc]⟩
theorem Rep.invC {E : Env} {ops : Array Oper} {m k0 : Nat} {V : Nat → AV} {N Nf : Nat → List Blk} {T0 : Tm} {H0 : Heap} {a : Act} {w : World} (h : Rep E T0 H0 a w) : InvC E ops m k0 V N Nf T0 H0 (Array.replicate ops.size false) a w := by
  obtain ⟨s1, s2, s3, ρ, k1, k2, k3⟩ := (h.inv : Inv E ops m V N T0 H0 (Array.replicate ops.size false) a w)
  exact ⟨s1, s2, s3, ρ, k1, by rw [getD_rep_false]; exact k2, k3⟩
theorem region_anyC {E : Env} {id : Nat} {ops : Array Oper} {Q : Exit → Act → World → Prop} {m j0 : Nat} (hmix : E.P.follows .mixedOrders = true) (hok : regionOk E.n ops = true) (hany : anyOk ops m = true) {la lb l2 : List Oper} {o8 o : Oper} (hl : ops.toList = la ++ o8 :: o :: (lb ++ l2)) (hj : la.length = j0) (hm : j0 + 2 + lb.length = m)
    {T Ta T1 T' : Tm} {H Ha Hb H' : Heap} {v8 v : AV} {segs : List Seg} (hA : HSteps E.P ops la T H Ta Ha) (hg8 : Guard ops Ta o8 true) (h8 : HOk E.P o8 Ta Ha v8 [⟨true, segs⟩]) (hg : Guard ops (put Ta o8.dst v8) o true)
    (hconv : ∀ ρ a w (Hx : Heap), HRep E.W ρ Hx w → Hx[Ha.length]? = some (some ⟨true, segs⟩) → Ops o (put Ta o8.dst v8) ρ a → Gives E.P o a w fun v' w' => HRep E.W ρ (Hx.set Ha.length (some ⟨false, segs⟩)) w' ∧ Fr E.W w w' ∧ v.rep ρ v')
    (hedge : ∃ e ∈ o.after, Region.binds .any e = true ∧ e.on = j0)
    (hB : HSteps E.P ops lb (put (put Ta o8.dst v8) o.dst v) (Ha ++ [some ⟨false, segs⟩]) T1 Hb) (h2 : Steps E.P ops l2 T1 Hb T' H') {a : Act} {w : World} (hr : Rep E T H a w) (hQ : ∀ a' w', Rep E T' H' a' w' → Q .normal a' w') : (Code.region id ops true).wp E.P Q a w := by
  have hsz : ops.size = m + l2.length := by rw [← Array.length_toList, hl]; simp; omega
  have hget : ∀ j, ops[j]? = (la ++ o8 :: o :: (lb ++ l2))[j]? := fun j => by rw [← Array.getElem?_toList, hl]
  have ho8 : ops[j0]? = some o8 := by rw [hget, ← hj]; simp
  have ho : ops[j0 + 1]? = some o := by rw [hget, List.getElem?_append_right (by omega), show j0 + 1 - la.length = 1 by omega]; rfl
  have gA : ∀ j, j < la.length → la[j]? = ops[0 + j]? := fun j hj => by rw [Nat.zero_add, hget, List.getElem?_append_left hj]
  have gB : ∀ j, j < lb.length → lb[j]? = ops[j0 + 2 + j]? := fun j hjl => by
    rw [hget, List.getElem?_append_right (by omega), show j0 + 2 + j - la.length = j + 1 + 1 by omega, List.getElem?_cons_succ, List.getElem?_cons_succ, List.getElem?_append_left hjl]
  obtain ⟨V1, N1, _, a2, a3, a4⟩ := trace' hA T H 0 (fun _ => .s .junk) (fun _ => []) gA rfl rfl
  rw [Nat.zero_add, hj] at a3 a4
  let V2 : Nat → AV := fun j => if j = j0 then v8 else if j = j0 + 1 then v else V1 j
  let N2 : Nat → List Blk := fun j => if j = j0 then [⟨false, segs⟩] else if j = j0 + 1 then [] else N1 j
  have eT : Tk ops V2 T j0 = Ta := by rw [← a3]; exact Tk_congr fun j hj' => by simp [V2, show j ≠ j0 by omega, show j ≠ j0 + 1 by omega]
  have eH : Hk N2 H j0 = Ha := by rw [← a4]; exact Hk_congr fun j hj' => by simp [N2, show j ≠ j0 by omega, show j ≠ j0 + 1 by omega]
  have eT1 : Tk ops V2 T (j0 + 1) = put Ta o8.dst v8 := by simp only [Tk, eT, ho8, Option.bind_some]; simp [V2]
  have eH1 : Hk N2 H (j0 + 1) = Ha ++ [some ⟨false, segs⟩] := by simp only [Hk, eH]; simp [N2]
  have eH2 : Hk N2 H (j0 + 2) = Ha ++ [some ⟨false, segs⟩] := by
    show Hk N2 H (j0 + 1) ++ (N2 (j0 + 1)).map some = _
    rw [eH1]; simp [N2]
  have eT2 : Tk ops V2 T (j0 + 2) = put (put Ta o8.dst v8) o.dst v := by
    show put (Tk ops V2 T (j0 + 1)) ((ops[j0 + 1]?).bind (·.dst)) (V2 (j0 + 1)) = _
    rw [eT1, ho]; simp [V2]
  obtain ⟨V, Nf, b1, b2, b3, b4⟩ := trace' hB T H (j0 + 2) V2 N2 gB eT2.symm eH2.symm
  rw [hm] at b3 b4
  let N : Nat → List Blk := fun j => if j = j0 then [⟨true, segs⟩] else Nf j
  have hNf0 : Nf j0 = [⟨false, segs⟩] := by rw [(b1 j0 (by omega)).2]; simp [N2]
  have hNf1 : Nf (j0 + 1) = [] := by rw [(b1 (j0 + 1) (by omega)).2]; simp [N2]
  have hN : ∀ j, j ≠ j0 → Nf j = N j := fun j hj' => by simp [N, hj']
  have hN0 : N j0 = [⟨true, segs⟩] := by simp [N]
  have cT : ∀ k, k ≤ j0 → Tk ops V T k = Tk ops V1 T k := fun k hk => Tk_congr fun j hj' => by rw [(b1 j (by omega)).1]; simp [V2, show j ≠ j0 by omega, show j ≠ j0 + 1 by omega]
  have cH : ∀ k, k ≤ j0 → Hk Nf H k = Hk N1 H k := fun k hk => Hk_congr fun j hj' => by rw [(b1 j (by omega)).2]; simp [N2, show j ≠ j0 by omega, show j ≠ j0 + 1 by omega]
  have cT1 : Tk ops V T (j0 + 1) = put Ta o8.dst v8 := by rw [← eT1]; exact Tk_congr fun j hj' => (b1 j (by omega)).1
  have cHf1 : Hk Nf H (j0 + 1) = Ha ++ [some ⟨false, segs⟩] := by rw [← eH1]; exact Hk_congr fun j hj' => (b1 j (by omega)).2
  have cHn1 : Hk N H (j0 + 1) = Ha ++ [some ⟨true, segs⟩] := by
    show Hk N H j0 ++ (N j0).map some = _
    rw [hN0, show Hk N H j0 = Ha by rw [← a4, ← cH j0 (Nat.le_refl _)]; exact Hk_congr fun j hj' => (hN j (by omega)).symm]
    rfl
  obtain ⟨R, R1, R2⟩ := Hk_two (N := N) (Nf := Nf) (H0 := H) (p := j0 + 1) (fun j hj' => hN j (by omega)) m (by omega)
  rw [cHf1, List.append_assoc] at R1
  rw [cHn1, List.append_assoc] at R2
  have hset : (Hk N H m).set Ha.length (some ⟨false, segs⟩) = Hk Nf H m := by
    rw [R1, R2, List.set_append_right _ _ (Nat.le_refl _), Nat.sub_self]; rfl
  have hat : (Hk N H m)[Ha.length]? = some (some ⟨true, segs⟩) := by rw [R2]; simp
  have v0 : V j0 = v8 := by rw [(b1 j0 (by omega)).1]; simp [V2]
  have v1 : V (j0 + 1) = v := by rw [(b1 (j0 + 1) (by omega)).1]; simp [V2]
  refine wp_region_any hmix ?_
  refine head_anyC (k0 := j0 + 1) (j0 := j0) (V := V) (N := N) (Nf := Nf) (T0 := T) (H0 := H) hok hany (by omega) (by omega) hN (fun j => ?_) (fun i k hk => ?_) (fun listed hc hl' => ?_) (fun k hk hne => ?_) ⟨o, ho, (by rw [← hN _ (by omega)]; exact hNf1), by rw [cT1]; exact hg, fun ρ a w g1 g2 g3 => ?_⟩ (l := l2) (fun j => ?_) (by omega) (by rw [b3, b4]; exact h2) hQ ops.size (List.range m) _ a _ (fun j hj' _ => List.mem_range.2 hj') (by simp; omega) hr.drew.invC
  · by_cases e : j = j0
    · subst e; rw [hNf0, hN0]; rfl
    · rw [hN j e]
  · by_cases e : i = Ha.length
    · subst e
      rw [← hset, List.getElem?_set_self (by rw [R2]; simp)] at hk
      cases hk
      exact ⟨_, hat, rfl, fun h => by cases h⟩
    · rw [← hset, List.getElem?_set_ne (Ne.symm e)] at hk
      exact ⟨k, hk, rfl, fun h => h⟩
  · obtain ⟨e, he, hb, rfl⟩ := hedge
    exact hc _ o ho hl' e he hb
  · rcases Nat.lt_trichotomy k j0 with h | h | h
    · obtain ⟨p, hp, hh⟩ := a2 k (Nat.zero_le _) (by omega)
      refine ⟨p, hp, ?_⟩
      have eV : V k = V1 k := by rw [(b1 k (by omega)).1]; simp [V2, show k ≠ j0 by omega, show k ≠ j0 + 1 by omega]
      have eN : N k = N1 k := by rw [← hN k (by omega), (b1 k (by omega)).2]; simp [N2, show k ≠ j0 by omega, show k ≠ j0 + 1 by omega]
      rw [cT k (by omega), cH k (by omega), eV, eN]; exact hh
    · subst h
      exact ⟨o8, ho8, .inl ⟨by rw [cT k (Nat.le_refl _), a3]; exact hg8, by rw [cT k (Nat.le_refl _), a3, cH k (Nat.le_refl _), a4, v0, hN0]; exact h8⟩⟩
    · obtain ⟨p, hp, hh⟩ := b2 k (by omega) (by omega)
      refine ⟨p, hp, ?_⟩
      rw [← hN k (by omega)]; exact hh
  · rw [cT1] at g3
    have := hconv ρ a w _ g1 hat g3
    rw [hset, ← v1] at this
    exact this
  · rw [hget, List.getElem?_append_right (by omega), show m + j - la.length = (lb.length + j) + 1 + 1 by omega, List.getElem?_cons_succ, List.getElem?_cons_succ, List.getElem?_append_right (by omega), Nat.add_sub_cancel_left]
theorem c_anyC {E : Env} {T : Tm} {H : Heap} {Q : Exit → Tm → Heap → Prop} {id : Nat} {ops : Array Oper} (m j0 : Nat) {la lb l2 : List Oper} {o8 : Oper} {d : Nat} {t e ty : TypeId} {x : Operand} {pos : String} {af : Array Edge} (hmix : E.P.follows .mixedOrders = true) (hok : regionOk E.n ops = true) (hany : anyOk ops m = true)
    (hla : ops.toList.take j0 = la) (ho8 : ops[j0]? = some o8) (ho : ops[j0 + 1]? = some ⟨some d, .convert t t x, ty, pos, af, none⟩) (hlb : (ops.toList.drop (j0 + 2)).take (m - j0 - 2) = lb) (hl2 : ops.toList.drop m = l2) (hjm : Nat.ble (j0 + 2) m = true) (hms : Nat.ble m ops.size = true) (hg8 : o8.guard = none)
    (hedge : (af.any fun e => Nat.beq e.on j0 && Region.binds .any e) = true) (hu : E.P.underlying t = some (.slice e)) (he : E.P.underlying e = some (.int .u8))
    (h : TG E.P ops la T H fun Ta Ha => ∃ (v8 : AV) (segs : List Seg) (len cap : Nat), HOk E.P o8 Ta Ha v8 [⟨true, segs⟩] ∧ ev (put Ta o8.dst v8) x = .s (.slice Ha.length 0 0 len cap) ∧
      TG E.P ops lb ((d, .s (.slice Ha.length 0 0 len cap)) :: put Ta o8.dst v8) (Ha ++ [some ⟨false, segs⟩]) fun Tb Hb => SK E.P ops l2 Tb Hb (Q .normal)) : Wp E (.region id ops true) T H Q := by
  intro a w hr
  obtain ⟨Ta, Ha, hA, v8, segs, len, cap, h8, hx, Tb, Hb, hB, T', H', hS, hK⟩ := h
  have h1 : j0 + 2 ≤ m := Nat.le_of_ble_eq_true hjm
  have h2 : m ≤ ops.toList.length := by rw [Array.length_toList]; exact Nat.le_of_ble_eq_true hms
  have hsp : ops.toList.drop (j0 + 2) = lb ++ l2 := by
    rw [← hlb, ← hl2]
    have := (List.take_append_drop (m - j0 - 2) (ops.toList.drop (j0 + 2))).symm
    rw [List.drop_drop, show j0 + 2 + (m - j0 - 2) = m by omega] at this
    exact this
  have hd : ops.toList.drop j0 = o8 :: ⟨some d, .convert t t x, ty, pos, af, none⟩ :: ops.toList.drop (j0 + 2) := by
    rw [List.drop_eq_getElem_cons (by omega), List.drop_eq_getElem_cons (i := j0 + 1) (by omega)]
    have e1 : ops.toList[j0]? = some o8 := by rw [Array.getElem?_toList]; exact ho8
    have e2 : ops.toList[j0 + 1]? = some ⟨some d, .convert t t x, ty, pos, af, none⟩ := by rw [Array.getElem?_toList]; exact ho
    rw [(List.getElem?_eq_some_iff.1 e1).2, (List.getElem?_eq_some_iff.1 e2).2]
  refine region_anyC (j0 := j0) hmix hok hany (la := la) (lb := lb) (l2 := l2) (by rw [← hsp, ← hd, ← hla, List.take_append_drop]) (by rw [← hla, List.length_take]; omega) (by rw [← hlb, List.length_take, List.length_drop]; omega) hA (.free hg8) h8 (.free rfl) (fun ρ a w Hx g1 g2 g3 => conv_gives hx g2 hu he g1 g3) ?_ (by simpa [put] using hB) hS hr fun _ _ hr' => ⟨T', H', hK, hr'⟩
  obtain ⟨i, hi, hp⟩ := Array.any_eq_true.1 hedge
  rw [Bool.and_eq_true] at hp
  exact ⟨af[i], Array.getElem_mem hi, hp.2, Nat.eq_of_beq_eq_true hp.1⟩
end Go.Ab
end

section
/- Slices cut, bools and structs compared. No program. -/
namespace Go.Ab
section rules
variable {P : Program} {T : Tm} {H : Heap} {d : Option Tmp} {ty : TypeId} {pos : String} {af : Array Edge} {g : Option (Nat × Bool)}
theorem h_bneq {t tyy : TypeId} {x y : Operand} {p q r : Bool} (hx : ev T x = .s (.bool p)) (hy : ev T y = .s (.bool q)) (hu : P.underlying t = some .bool) (hr : (!(p == q)) = r) : HOk P ⟨d, .binOp .neq t x y tyy, ty, pos, af, g⟩ T H (.s (.bool r)) [] :=
  .pure fun W ρ a w _ ho => by
    obtain ⟨h1, h2⟩ := two (op := .binOp .neq t x y tyy) rfl ho hx hy
    simp only [AV.rep, SV.rep] at h1 h2
    exact ⟨.bool r, by simp [execOp, h1, h2, Sem.run_bind, eqGuard, binOp, Op.equal, Op.maxDepth, run_equalIn_bool w 9999 _ _ hu, hr], rfl⟩
theorem h_slice_lh {t e : TypeId} {x i j : Operand} {id base idx len cap l h n c : Nat} {k k' : IntKind} {z z' : Int} (hx : ev T x = .s (.slice id base idx len cap)) (hi : ev T i = .s (.int k z)) (hj : ev T j = .s (.int k' z')) (hz : z = (l : Int)) (hz' : z' = (h : Int)) (hu : P.underlying t = some (.slice e)) (hs : ∀ w, (sizeOf e).run P w = .ok 1 w) (h1 : l ≤ h) (h2 : h ≤ cap) (h3 : l < cap) (e1 : h - l = n) (e2 : cap - l = c) :
    HOk P ⟨d, .slice t x (some i) (some j) none, ty, pos, af, g⟩ T H (.s (.slice id base (idx + l) n c)) [] :=
  .pure fun W ρ a w _ ho => by
    subst hz; subst hz'; subst e1; subst e2
    have k1 := ho x (by simp [Op.operands])
    have k2 := ho i (by simp [Op.operands])
    have k3 := ho j (by simp [Op.operands])
    rw [hx] at k1
    rw [hi] at k2
    rw [hj] at k3
    simp only [AV.rep, SV.rep] at k2 k3
    obtain ⟨ad, e1, e2⟩ := sliced_rep (l := l) (h := h) (m := cap) k1
    have hr := sl_run (P := P) (w := w) (a := ad) hu hs (sb_lh (len := len) (k := k) (k' := k') h1 h2)
    refine ⟨sliced ad l h cap 1, by simp [execOp, e1, k2, k3, Sem.run_bind, hr], ?_⟩
    rw [if_neg (by omega)] at e2
    exact e2
theorem slice_base {o : Oper} {id base idx len cap L : Nat} (h : HOk P o T H (.s (.slice id base idx len cap)) []) (e : base + idx = L) : HOk P o T H (.s (.slice id (0 + L) 0 len cap)) [] := by
  subst e
  intro W ρ a w hH hn ho next Q hq
  refine h W ρ a w hH hn ho next Q ?_
  rintro v' w' ⟨ρ', h1, b, o, h2, h3⟩
  refine hq v' w' ⟨ρ', h1, b, o, h2, ?_⟩
  rw [h3]
  simp only [Nat.add_zero, Nat.zero_add, Nat.add_assoc]
theorem h_slice_l3 {t e : TypeId} {x i : Operand} {id base idx len cap l n c : Nat} {k : IntKind} {z : Int} (hx : ev T x = .s (.slice id base idx len cap)) (hi : ev T i = .s (.int k z)) (hz : z = (l : Int)) (hu : P.underlying t = some (.slice e)) (hs : ∀ w, (sizeOf e).run P w = .ok 1 w) (h1 : l ≤ len) (h2 : l < cap) (e1 : len - l = n) (e2 : cap - l = c) :
    HOk P ⟨d, .slice t x (some i) none none, ty, pos, af, g⟩ T H (.s (.slice id base (idx + l) n c)) [] := by
  subst e1; subst e2
  exact h_slice_l2 hx hi hz hu hs h1 h2
theorem two_cells {ρ : Rho} {k : IntKind} {n0 n1 : Nat} {l0 l1 : List Int} {v : Value} (h : (AV.agg [.ints k n0 l0, .ints k n1 l1]).rep ρ v) : ∃ cs : Array Value, v = .agg cs ∧ cs.size = n0 + n1 ∧ (∀ i, i < n0 → cs[i]? = some (.int k (l0.getD i 0))) ∧ ∀ i, i < n1 → cs[n0 + i]? = some (.int k (l1.getD i 0)) := by
  obtain ⟨cs, h1, h2, h3⟩ := h
  have z0 : (Seg.ints k n0 l0).size = n0 := rfl
  have z1 : (Seg.ints k n1 l1).size = n1 := rfl
  refine ⟨cs, h1, by rw [h2]; simp [sizeS, z0, z1], fun i hi => ?_, fun i hi => ?_⟩
  · obtain ⟨u, hu, hr, _⟩ := h3 i (.int k (l0.getD i 0)) (by simp only [atS]; rw [if_pos (by rw [z0]; exact hi)]; rfl)
    exact hu.trans (congrArg some hr)
  · obtain ⟨u, hu, hr, _⟩ := h3 (n0 + i) (.int k (l1.getD i 0)) (by simp only [atS]; rw [if_neg (by rw [z0]; omega), z0, Nat.add_sub_cancel_left, if_pos (by rw [z1]; exact hi)]; rfl)
    exact hu.trans (congrArg some hr)
theorem h_eql_two {t e : TypeId} {f0 f1 : Field} {x y : Operand} {tyy : TypeId} {n0 n1 : Nat} {k : IntKind} {l0 l1 m0 m1 : List Int} {r : Bool} (hx : ev T x = .agg [.ints k n0 l0, .ints k n1 l1]) (hy : ev T y = .agg [.ints k n0 m0, .ints k n1 m1]) (ht : P.underlying t = some (.struct (P.fieldsOf t))) (hp : P.stoodInHeld t = false) (hf : (P.fieldsOf t).toList = [f0, f1])
    (q0 : f0.name ≠ "_") (q1 : f1.name ≠ "_") (o0 : f0.offset = 0) (o1 : f1.offset = n0) (hu0 : P.underlying f0.type = some (.array n0 e)) (hu1 : P.underlying f1.type = some (.array n1 e)) (he : P.underlying e = some (.int k)) (hs : ∀ w, (sizeOf e).run P w = .ok 1 w) (ha : ∀ w, (isAgg e).run P w = .ok false w)
    (a0 : ∀ w, (isAgg f0.type).run P w = .ok true w) (a1 : ∀ w, (isAgg f1.type).run P w = .ok true w) (z0 : ∀ w, (sizeOf f0.type).run P w = .ok n0 w) (z1 : ∀ w, (sizeOf f1.type).run P w = .ok n1 w)
    (hg : P.eqGuardType P.depth t = false) (hr : (decide (∀ i, i < n0 → l0.getD i 0 = m0.getD i 0) && decide (∀ i, i < n1 → l1.getD i 0 = m1.getD i 0)) = r) : HOk P ⟨d, .binOp .eql t x y tyy, ty, pos, af, g⟩ T H (.s (.bool r)) [] :=
  .pure fun W ρ a w _ ho => by
    obtain ⟨h1, h2⟩ := two (op := .binOp .eql t x y tyy) rfl ho hx hy
    obtain ⟨xs, e1, sx, c1, c1'⟩ := two_cells h1
    obtain ⟨ys, e2, sy, c2, c2'⟩ := two_cells h2
    refine ⟨.bool r, ?_, rfl⟩
    have px0 : (part f0.type xs 0).run P w = .ok (.agg (xs.extract 0 n0)) w := by simp [part, Sem.run_bind, a0, z0]
    have py0 : (part f0.type ys 0).run P w = .ok (.agg (ys.extract 0 n0)) w := by simp [part, Sem.run_bind, a0, z0]
    have px1 : (part f1.type xs n0).run P w = .ok (.agg (xs.extract n0 (n0 + n1))) w := by simp [part, Sem.run_bind, a1, z1]
    have py1 : (part f1.type ys n0).run P w = .ok (.agg (ys.extract n0 (n0 + n1))) w := by simp [part, Sem.run_bind, a1, z1]
    have E0 := run_equalIn_ints (P := P) (w := w) 9997 (xs := xs.extract 0 n0) (ys := ys.extract 0 n0) (l := fun i => l0.getD i 0) (m := fun i => m0.getD i 0) hu0 he hs ha (fun i hi => by rw [Array.getElem?_extract, if_pos (by omega), Nat.zero_add]; exact c1 i hi) (fun i hi => by rw [Array.getElem?_extract, if_pos (by omega), Nat.zero_add]; exact c2 i hi)
    have E1 := run_equalIn_ints (P := P) (w := w) 9997 (xs := xs.extract n0 (n0 + n1)) (ys := ys.extract n0 (n0 + n1)) (l := fun i => l1.getD i 0) (m := fun i => m1.getD i 0) hu1 he hs ha (fun i hi => by rw [Array.getElem?_extract, if_pos (by omega)]; exact c1' i hi) (fun i hi => by rw [Array.getElem?_extract, if_pos (by omega)]; exact c2' i hi)
    have := run_equalIn_struct (P := P) w 9999 t xs ys ht hp
    simp only [execOp, e1, e2, Sem.run_bind, run_eqGuard_agg w .eql t x y xs ys hg, Result.andThen_ok, run_eql_struct w t xs ys]
    rw [show (Op.equalIn 10000 t (.agg xs) (.agg ys)).run P w = _ from this, hf]
    have h2 : (Op.eqFields 9999 xs ys [f1]).run P w = .ok (decide (∀ i, i < n1 → l1.getD i 0 = m1.getD i 0)) w := by
      simp only [Op.eqFields, if_pos q1, Sem.run_bind, o1, px1, py1, Result.andThen_ok, E1]
      cases decide (∀ i, i < n1 → l1.getD i 0 = m1.getD i 0) <;> simp
    rw [Op.eqFields, if_pos q0]
    simp only [Sem.run_bind, o0, px0, py0, Result.andThen_ok, E0]
    rw [← hr]
    cases decide (∀ i, i < n0 → l0.getD i 0 = m0.getD i 0)
    · simp
    · simp only [Bool.not_true, Bool.false_eq_true, if_false, Bool.true_and, h2, Result.andThen_ok, Sem.run_pure]
end rules
end Go.Ab
end

section
/- Arguments opened: a number, structs of arrays, numbers and slices. No program. -/
namespace Go.Ab
section
open Go.ChangeShapes
variable {Hh : Type} {enc : TypeId × Value → Hh} {P : Program} {w : World} {base : Nat} {spare : Nat → Bool} {held : Bool}
theorem open_int {r : Reach} {b0 : Nat} {t : TypeId} {k : IntKind} {v : Value} {d : DataW Hh} {ps : List MemPlace} (ht : P.underlying t = some (.int k))
    (hval : Value.okWide P w r b0 t v) (hd : DataW.Trod enc P w base spare held t v d ps) : ∃ n, v = .int k n ∧ (Lit.int k n).wf = true := by
  obtain ⟨fuel, hf⟩ := hd
  have hv : v.cells = #[v] := by
    simp only [Value.okWide, ht] at hval
    cases v <;> first | rfl | (simp [Cell.okWide, Cell.ok, ht] at hval)
  rw [hv] at hf
  obtain ⟨z, hz, _, hw⟩ := DataW.trod_int ht hf
  simp at hz
  exact ⟨z, hz, hw⟩
theorem trod_three {t : TypeId} {f0 f1 f2 : Field} {fuel : Nat} {cs : List Value} {x : DataW Hh × List MemPlace} (ht : P.underlying t = some (.struct #[f0, f1, f2])) (h : DataW.trod enc P w base spare held fuel t cs = some x) :
    ∃ y0 y1 y2 n, cs.length = P.cellsOf t ∧ DataW.trod enc P w base spare held n f0.type ((cs.drop f0.offset).take (P.cellsOf f0.type)) = some y0 ∧
      DataW.trod enc P w base spare held n f1.type ((cs.drop f1.offset).take (P.cellsOf f1.type)) = some y1 ∧ DataW.trod enc P w base spare held n f2.type ((cs.drop f2.offset).take (P.cellsOf f2.type)) = some y2 := by
  obtain ⟨xs, n, _, rfl, hl, hlen, hf⟩ := DataW.trod_struct ht h
  match xs, hlen with
  | [y0, y1, y2], _ => exact ⟨y0, y1, y2, n, hl, by simpa using hf 0 f0 rfl, by simpa using hf 1 f1 rfl, by simpa using hf 2 f2 rfl⟩
theorem trod_four {t : TypeId} {f0 f1 f2 f3 : Field} {fuel : Nat} {cs : List Value} {x : DataW Hh × List MemPlace} (ht : P.underlying t = some (.struct #[f0, f1, f2, f3])) (h : DataW.trod enc P w base spare held fuel t cs = some x) :
    ∃ y0 y1 y2 y3 n, cs.length = P.cellsOf t ∧ DataW.trod enc P w base spare held n f0.type ((cs.drop f0.offset).take (P.cellsOf f0.type)) = some y0 ∧
      DataW.trod enc P w base spare held n f1.type ((cs.drop f1.offset).take (P.cellsOf f1.type)) = some y1 ∧ DataW.trod enc P w base spare held n f2.type ((cs.drop f2.offset).take (P.cellsOf f2.type)) = some y2 ∧
      DataW.trod enc P w base spare held n f3.type ((cs.drop f3.offset).take (P.cellsOf f3.type)) = some y3 := by
  obtain ⟨xs, n, _, rfl, hl, hlen, hf⟩ := DataW.trod_struct ht h
  match xs, hlen with
  | [y0, y1, y2, y3], _ => exact ⟨y0, y1, y2, y3, n, hl, by simpa using hf 0 f0 rfl, by simpa using hf 1 f1 rfl, by simpa using hf 2 f2 rfl, by simpa using hf 3 f3 rfl⟩
/-- A struct of a slice and three numbers. -/
theorem open_cuts {r : Reach} {b0 : Nat} {t s e i1 i2 i3 : TypeId} {f0 f1 f2 f3 : Field} {k k1 k2 k3 : IntKind} {v : Value} {d : DataW Hh} {ps : List MemPlace} (ht : P.underlying t = some (.struct #[f0, f1, f2, f3])) (hf0 : f0.type = s) (hf1 : f1.type = i1) (hf2 : f2.type = i2) (hf3 : f3.type = i3)
    (o0 : f0.offset = 0) (o1 : f1.offset = 1) (o2 : f2.offset = 2) (o3 : f3.offset = 3) (hs : P.underlying s = some (.slice e)) (he : P.underlying e = some (.int k)) (h1 : P.underlying i1 = some (.int k1)) (h2 : P.underlying i2 = some (.int k2)) (h3 : P.underlying i3 = some (.int k3))
    (hc : P.cellsOf e = 1) (hcs : P.cellsOf s = 1) (c1 : P.cellsOf i1 = 1) (c2 : P.cellsOf i2 = 1) (c3 : P.cellsOf i3 = 1) (hct : P.cellsOf t = 4)
    (hval : Value.okWide P w r b0 t v) (hd : DataW.Trod enc P w base spare held t v d ps) : ∃ c n1 n2 n3, v = .agg #[c, .int k1 n1, .int k2 n2, .int k3 n3] ∧ Sl k w c ∧ (Lit.int k1 n1).wf = true ∧ (Lit.int k2 n2).wf = true ∧ (Lit.int k3 n3).wf = true := by
  subst hf0; subst hf1; subst hf2; subst hf3
  simp only [Value.okWide, ht] at hval
  obtain ⟨cs, rfl, hsz, _⟩ := hval
  obtain ⟨fuel, hf⟩ := hd
  obtain ⟨y0, y1, y2, y3, m, hl, q0, q1, q2, q3⟩ := trod_four ht hf
  obtain ⟨l⟩ := cs
  have hl : l.length = 4 := by rw [hct] at hsz; simpa using hsz
  obtain ⟨a0, a1, a2, a3, rfl⟩ : ∃ a0 a1 a2 a3, l = [a0, a1, a2, a3] := by
    match l, hl with
    | [a0, a1, a2, a3], _ => exact ⟨a0, a1, a2, a3, rfl⟩
  simp only [o0, o1, o2, o3, hcs, c1, c2, c3, Value.cells] at q0 q1 q2 q3
  obtain ⟨z1, hz1, _, w1⟩ := DataW.trod_int h1 q1
  obtain ⟨z2, hz2, _, w2⟩ := DataW.trod_int h2 q2
  obtain ⟨z3, hz3, _, w3⟩ := DataW.trod_int h3 q3
  simp at hz1 hz2 hz3
  subst hz1; subst hz2; subst hz3
  refine ⟨a0, z1, z2, z3, rfl, ?_, w1, w2, w3⟩
  rcases open_sl hs he hc q0 with ⟨a, c, hh⟩ | ⟨v, b, o, len, cap, zs, hh, hi⟩
  · simp at hh; exact .inl ⟨a, c, hh⟩
  · simp at hh; subst hh; exact .inr ⟨b, o, len, cap, zs, hi⟩
theorem rep_nil_agg {ρ : Rho} : (AV.agg []).rep ρ (.agg ([] : List Value).toArray) := ⟨_, rfl, rfl, fun i x hx => by simp [atS] at hx⟩
theorem rep_cons_one {ρ : Rho} {v : SV} {u : Value} {segs : List Seg} {cs : List Value} (hv : v.cell ρ u) (h : (AV.agg segs).rep ρ (.agg cs.toArray)) : (AV.agg (.one v :: segs)).rep ρ (.agg (u :: cs).toArray) := by
  obtain ⟨cs', e, hs, hr⟩ := h
  cases e
  refine ⟨_, rfl, by simp [sizeS, Seg.size] at hs ⊢; omega, fun i x hx => ?_⟩
  cases i with
  | zero => simp [atS, Seg.size, Seg.at] at hx; subst hx; exact ⟨u, by simp, hv⟩
  | succ i =>
    simp [atS, Seg.size] at hx
    obtain ⟨y, h1, h2⟩ := hr i x hx
    exact ⟨y, by simpa using h1, h2⟩
theorem rep_cons_ints {ρ : Rho} {k : IntKind} {n : Nat} {l : List Int} {segs : List Seg} {cs : List Value} (hl : l.length = n) (h : (AV.agg segs).rep ρ (.agg cs.toArray)) : (AV.agg (.ints k n l :: segs)).rep ρ (.agg (l.map (Value.int k) ++ cs).toArray) := by
  obtain ⟨cs', e, hs, hr⟩ := h
  cases e
  refine ⟨_, rfl, by simp [sizeS, Seg.size] at hs ⊢; omega, fun i x hx => ?_⟩
  simp only [atS] at hx
  by_cases hi : i < (Seg.ints k n l).size
  · rw [if_pos hi] at hx
    have hi : i < n := hi
    simp only [Seg.at, Option.some.injEq] at hx
    subst hx
    refine ⟨.int k (l.getD i 0), ?_, rfl, rfl⟩
    have hi' : i < l.length := by omega
    simp [List.getElem?_append_left, hi']
  · rw [if_neg hi] at hx
    have hi : ¬ i < n := hi
    have hx : atS segs (i - n) = some x := hx
    obtain ⟨y, h1, h2⟩ := hr (i - n) x hx
    refine ⟨y, ?_, h2⟩
    simp at h1 ⊢
    rw [List.getElem?_append_right (by simp; omega)]
    simpa [hl] using h1
/-- Two arrays of integers, as cells. -/
theorem open_keys_cells {t e : TypeId} {f0 f1 : Field} {n m : Nat} {k : IntKind} {fuel : Nat} {cs : List Value} {x : DataW Hh × List MemPlace} (ht : P.underlying t = some (.struct #[f0, f1])) (h0 : P.underlying f0.type = some (.array n e)) (h1 : P.underlying f1.type = some (.array m e)) (he : P.underlying e = some (.int k)) (hc : P.cellsOf e = 1) (c0 : P.cellsOf f0.type = n) (c1 : P.cellsOf f1.type = m) (o0 : f0.offset = 0) (o1 : f1.offset = n) (hct : P.cellsOf t = n + m)
    (h : DataW.trod enc P w base spare held fuel t cs = some x) : ∃ l0 l1 : List Int, l0.length = n ∧ l1.length = m ∧ (∀ y ∈ l0, (Lit.int k y).wf = true) ∧ (∀ y ∈ l1, (Lit.int k y).wf = true) ∧ cs = l0.map (Value.int k) ++ l1.map (Value.int k) := by
  obtain ⟨y0, y1, q, _, hl, q0, q1⟩ := trod_struct2 ht h
  rw [c0, o0] at q0
  rw [c1, o1] at q1
  obtain ⟨_, l0, a1, a2, a3⟩ := open_arr_cells h0 he hc c0 q0
  obtain ⟨_, l1, b1, b2, b3⟩ := open_arr_cells h1 he hc c1 q1
  refine ⟨l0, l1, a1, b1, a2, b2, ?_⟩
  rw [← a3, ← b3, List.drop_zero]
  rw [hct] at hl
  have : (cs.drop n).take m = cs.drop n := List.take_of_length_le (by simp; omega)
  rw [this, List.take_append_drop]
theorem open_keys {r : Reach} {b0 : Nat} {t e : TypeId} {f0 f1 : Field} {n m : Nat} {k : IntKind} {v : Value} {d : DataW Hh} {ps : List MemPlace} (ht : P.underlying t = some (.struct #[f0, f1])) (h0 : P.underlying f0.type = some (.array n e)) (h1 : P.underlying f1.type = some (.array m e)) (he : P.underlying e = some (.int k)) (hc : P.cellsOf e = 1) (c0 : P.cellsOf f0.type = n) (c1 : P.cellsOf f1.type = m) (o0 : f0.offset = 0) (o1 : f1.offset = n) (hct : P.cellsOf t = n + m)
    (hval : Value.okWide P w r b0 t v) (hd : DataW.Trod enc P w base spare held t v d ps) : ∃ l0 l1 : List Int, l0.length = n ∧ l1.length = m ∧ (∀ y ∈ l0, (Lit.int k y).wf = true) ∧ (∀ y ∈ l1, (Lit.int k y).wf = true) ∧ ∀ ρ, (AV.agg [.ints k n l0, .ints k m l1]).rep ρ v := by
  simp only [Value.okWide, ht] at hval
  obtain ⟨cs, rfl, _, _⟩ := hval
  obtain ⟨fuel, hf⟩ := hd
  obtain ⟨l0, l1, a0, a1, w0, w1, e⟩ := open_keys_cells ht h0 h1 he hc c0 c1 o0 o1 hct hf
  refine ⟨l0, l1, a0, a1, w0, w1, fun ρ => ?_⟩
  have e' : cs = (l0.map (Value.int k) ++ (l1.map (Value.int k) ++ [])).toArray := by
    rw [List.append_nil, ← e]; rfl
  rw [e']
  exact rep_cons_ints a0 (rep_cons_ints a1 rep_nil_agg)
/-- Keys, and two numbers. -/
theorem open_given {r : Reach} {b0 : Nat} {t tk e i1 i2 : TypeId} {g0 g1 g2 f0 f1 : Field} {n m : Nat} {k k1 k2 : IntKind} {v : Value} {d : DataW Hh} {ps : List MemPlace} (ht : P.underlying t = some (.struct #[g0, g1, g2])) (hg0 : g0.type = tk) (hg1 : g1.type = i1) (hg2 : g2.type = i2) (p0 : g0.offset = 0) (p1 : g1.offset = n + m) (p2 : g2.offset = n + m + 1) (hi1 : P.underlying i1 = some (.int k1)) (hi2 : P.underlying i2 = some (.int k2)) (ci1 : P.cellsOf i1 = 1) (ci2 : P.cellsOf i2 = 1) (ct : P.cellsOf t = n + m + 2)
    (htk : P.underlying tk = some (.struct #[f0, f1])) (h0 : P.underlying f0.type = some (.array n e)) (h1 : P.underlying f1.type = some (.array m e)) (he : P.underlying e = some (.int k)) (hc : P.cellsOf e = 1) (c0 : P.cellsOf f0.type = n) (c1 : P.cellsOf f1.type = m) (o0 : f0.offset = 0) (o1 : f1.offset = n) (hct : P.cellsOf tk = n + m)
    (hval : Value.okWide P w r b0 t v) (hd : DataW.Trod enc P w base spare held t v d ps) : ∃ (l0 l1 : List Int) (a b : Int), l0.length = n ∧ l1.length = m ∧ (∀ y ∈ l0, (Lit.int k y).wf = true) ∧ (∀ y ∈ l1, (Lit.int k y).wf = true) ∧ (Lit.int k1 a).wf = true ∧ (Lit.int k2 b).wf = true ∧ ∀ ρ, (AV.agg [.ints k n l0, .ints k m l1, .one (.int k1 a), .one (.int k2 b)]).rep ρ v := by
  subst hg0; subst hg1; subst hg2
  simp only [Value.okWide, ht] at hval
  obtain ⟨cs, rfl, hsz, _⟩ := hval
  obtain ⟨fuel, hf⟩ := hd
  obtain ⟨y0, y1, y2, q, hl, q0, q1, q2⟩ := trod_three ht hf
  rw [hct, p0] at q0
  rw [ci1, p1] at q1
  rw [ci2, p2] at q2
  obtain ⟨l0, l1, a0, a1, w0, w1, e0⟩ := open_keys_cells htk h0 h1 he hc c0 c1 o0 o1 hct q0
  obtain ⟨z1, hz1, _, u1⟩ := DataW.trod_int hi1 q1
  obtain ⟨z2, hz2, _, u2⟩ := DataW.trod_int hi2 q2
  refine ⟨l0, l1, z1, z2, a0, a1, w0, w1, u1, u2, fun ρ => ?_⟩
  obtain ⟨l⟩ := cs
  simp only [Value.cells, List.drop_zero] at e0 hz1 hz2 hl
  rw [ct] at hl
  have e' : l = l0.map (Value.int k) ++ (l1.map (Value.int k) ++ (.int k1 z1 :: .int k2 z2 :: [])) := by
    have s1 : l = l.take (n + m) ++ l.drop (n + m) := (List.take_append_drop _ _).symm
    have s2 : l.drop (n + m) = (l.drop (n + m)).take 1 ++ (l.drop (n + m)).drop 1 := (List.take_append_drop _ _).symm
    have s3 : (l.drop (n + m)).drop 1 = [.int k2 z2] := by
      rw [List.drop_drop, ← hz2]
      exact (List.take_of_length_le (by simp; omega)).symm
    rw [hz1, s3] at s2
    rw [s1, s2, e0, List.append_assoc]
    rfl
  rw [e']
  exact rep_cons_ints a0 (rep_cons_ints a1 (rep_cons_one ⟨rfl, rfl⟩ (rep_cons_one ⟨rfl, rfl⟩ rep_nil_agg)))
end
end Go.Ab
end

section
/- Bytes as a string; strings compared. No program. -/
namespace Go.Ab
section rules
variable {P : Program} {T : Tm} {H : Heap} {d : Option Tmp} {ty : TypeId} {pos : String} {af : Array Edge} {g : Option (Nat × Bool)}
theorem h_str {t ts e : TypeId} {x : Operand} {id base idx len cap n : Nat} {k : Blk} {l A : List Int} (hx : ev T x = .s (.slice id base idx len cap)) (hb : H[id]? = some (some k)) (hs : segAt k.segs base = some (.ints .u8 n l)) (hn : idx + len ≤ n) (hA : A = (l.drop idx).take len) (hl : A.length = len)
    (hu : P.underlying t = some (.slice e)) (he : P.underlying e = some (.int .u8)) (hd : P.underlying ts = some .string) : HOk P ⟨d, .convert t ts x, ty, pos, af, g⟩ T H (.s (.val (.string (strOfNums A)))) [] :=
  .pure fun W ρ a w hH ho => by
    have h1 := one (op := .convert t ts x) rfl ho hx
    simp only [AV.rep, SV.rep] at h1
    obtain ⟨b, o, hρ, h1⟩ := h1
    obtain ⟨cells, tt, fr, g1, g2, g3⟩ := (hH.rep id b o k hρ hb).1
    refine ⟨.string (strOfNums A), ?_, rfl, rfl⟩
    have hcell : ∀ i, i < len → w.cell? ⟨b, o + base + idx + i, none⟩ = some (.int .u8 (A.getD i 0)) := fun i hi => by
      obtain ⟨v, hv, hc⟩ := g3 (base + (idx + i)) _ (segAt_at hs (idx + i) (by show idx + i < n; omega))
      have hc : v = .int .u8 (l.getD (idx + i) 0) := hc.1
      subst hc
      have hv : cells[o + (base + (idx + i))]? = some (.int .u8 (l.getD (idx + i) 0)) := hv
      have e : A.getD i 0 = l.getD (idx + i) 0 := by
        rw [hA, List.getD_eq_getElem?_getD, List.getD_eq_getElem?_getD, List.getElem?_take_of_lt hi, List.getElem?_drop]
      rw [e, show o + base + idx + i = o + (base + (idx + i)) by omega]
      simp only [World.cell?, g1, hv]
      simp
    have hr := run_convert_bytes_arg (P := P) w t e hu he b (o + base + idx) len cap A hl hcell ts hd
    simp [execOp, h1, Sem.run_bind, hr]
theorem h_seql {t tyy : TypeId} {x y : Operand} {p q : ByteArray} {r : Bool} (hx : ev T x = .s (.val (.string p))) (hy : ev T y = .s (.val (.string q))) (hr : (p.toList == q.toList) = r) : HOk P ⟨d, .binOp .eql t x y tyy, ty, pos, af, g⟩ T H (.s (.bool r)) [] :=
  .pure fun W ρ a w _ ho => by
    obtain ⟨h1, h2⟩ := two (op := .binOp .eql t x y tyy) rfl ho hx hy
    simp only [AV.rep, SV.rep] at h1 h2
    refine ⟨.bool r, ?_, rfl⟩
    subst hr
    simp [execOp, h1.1, h2.1, Sem.run_bind, eqGuard, binOp_string_eql]
theorem h_slice_lhm0 {t e : TypeId} {x i0 i j : Operand} {id base idx len cap l : Nat} {k0 k k' : IntKind} {n0 n n' : Int} (hx : ev T x = .s (.slice id base idx len cap)) (hi0 : ev T i0 = .s (.int k0 n0)) (hi : ev T i = .s (.int k n)) (hj : ev T j = .s (.int k' n')) (hn0 : n0 = (l : Int)) (hn : n = (l : Int)) (hn' : n' = (l : Int)) (hu : P.underlying t = some (.slice e)) (hs : ∀ w, (sizeOf e).run P w = .ok 1 w) (h2 : l ≤ cap) :
    HOk P ⟨d, .slice t x (some i0) (some i) (some j), ty, pos, af, g⟩ T H (.s (.slice id base idx 0 0)) [] :=
  .pure fun W ρ a w _ ho => by
    subst hn0; subst hn; subst hn'
    have k1 := ho x (by simp [Op.operands])
    have k20 := ho i0 (by simp [Op.operands])
    have k2 := ho i (by simp [Op.operands])
    have k3 := ho j (by simp [Op.operands])
    rw [hx] at k1
    rw [hi0] at k20
    rw [hi] at k2
    rw [hj] at k3
    simp only [AV.rep, SV.rep] at k20 k2 k3
    obtain ⟨ad, e1, e2⟩ := sliced_rep (l := l) (h := l) (m := l) k1
    have hr := sl_run (P := P) (w := w) (a := ad) hu hs (sb_lhm (len := len) (k := k0) (k' := k) (k'' := k') (Nat.le_refl l) (Nat.le_refl l) h2)
    refine ⟨sliced ad l l l 1, by simp [execOp, e1, k20, k2, k3, Sem.run_bind, hr], ?_⟩
    rw [if_pos rfl, Nat.sub_self] at e2
    exact e2
theorem h_min3 {x y z : Operand} {ts : Array TypeId} {rt : TypeId} {k : IntKind} {m n q r : Int} (hx : ev T x = .s (.int k m)) (hy : ev T y = .s (.int k n)) (hz : ev T z = .s (.int k q)) (hr : (if q < (if n < m then n else m) then q else (if n < m then n else m)) = r) :
    HOk P ⟨d, .call ⟨.builtin .min, #[x, y, z], ts⟩, rt, pos, af, g⟩ T H (.s (.int k r)) [] :=
  .pure fun W ρ a w _ ho => by
    have h1 : (ev T x).rep ρ (a.eval x) := ho x (by simp [Op.operands, Call.operands])
    have h2 : (ev T y).rep ρ (a.eval y) := ho y (by simp [Op.operands, Call.operands])
    have h3 : (ev T z).rep ρ (a.eval z) := ho z (by simp [Op.operands, Call.operands])
    rw [hx] at h1; rw [hy] at h2; rw [hz] at h3
    simp only [AV.rep, SV.rep] at h1 h2 h3
    exact ⟨.int k r, by simp [execOp, resolve, invoke, builtin, Builtin.min_, h1, h2, h3, List.foldlM, Builtin.min2, hr], rfl⟩
theorem h_seqs {t tyy : TypeId} {x y : Operand} {p q : ByteArray} (hx : ev T x = .s (.val (.string p))) (hy : ev T y = .s (.val (.string q))) (hr : p = q) : HOk P ⟨d, .binOp .eql t x y tyy, ty, pos, af, g⟩ T H (.s (.bool true)) [] :=
  h_seql hx hy (by rw [hr]; exact beq_self_eq_true _)
theorem rep_arr_eq {ρ : Rho} {k : IntKind} {n : Nat} {l : List Int} {v : Value} (hl : l.length = n) (h : (AV.agg [.ints k n l]).rep ρ v) : v = .agg (l.map (Value.int k)).toArray := by
  obtain ⟨cs, rfl, hs, hr⟩ := h
  have hs : cs.size = n := by simpa [sizeS, Seg.size] using hs
  congr 1
  apply Array.ext_getElem?
  intro i
  rcases Nat.lt_or_ge i n with hi | hi
  · obtain ⟨v, hv, hc⟩ := hr i (.int k (l.getD i 0)) (by simp [atS, Seg.size, Seg.at, hi])
    have hc : v = .int k (l.getD i 0) := hc.1
    have hv : cs[i]? = some v := hv
    rw [hv, hc]
    have : i < l.length := by omega
    simp [this]
  · rw [Array.getElem?_eq_none (by omega), Array.getElem?_eq_none (by simp; omega)]
/-- A struct of two arrays of integers. -/
theorem h_build_two {t : TypeId} {x y : Operand} {k : IntKind} {n m : Nat} {l0 l1 : List Int} (hx : ev T x = .agg [.ints k n l0]) (hy : ev T y = .agg [.ints k m l1]) (h0 : l0.length = n) (h1 : l1.length = m)
    (hb : ∀ w, (Instr.build t #[(0, .agg (l0.map (Value.int k)).toArray), (1, .agg (l1.map (Value.int k)).toArray)]).run P w = .ok (.agg (l0.map (Value.int k) ++ l1.map (Value.int k)).toArray) w) : HOk P ⟨d, .build t #[(0, x), (1, y)], ty, pos, af, g⟩ T H (.agg [.ints k n l0, .ints k m l1]) [] :=
  .pure fun W ρ a w _ ho => by
    have k0 := ho x (by simp [Op.operands])
    have k1 := ho y (by simp [Op.operands])
    rw [hx] at k0
    rw [hy] at k1
    have e0 := rep_arr_eq h0 k0
    have e1 := rep_arr_eq h1 k1
    refine ⟨_, by simp only [execOp, List.map_toArray, List.map_cons, List.map_nil, e0, e1, Sem.run_bind, hb w]; rfl, ?_⟩
    have := rep_cons_ints (ρ := ρ) (k := k) h0 (rep_cons_ints (k := k) h1 (rep_nil_agg (ρ := ρ)))
    rwa [List.append_nil] at this
end rules
theorem win_fst {s : Seg} {r : List Seg} (i : Nat) (y : SV) (h : atS [s] i = some y) : atS (s :: r) (0 + i) = some y := by
  rw [Nat.zero_add]
  simp only [atS] at h ⊢
  by_cases hi : i < s.size
  · rw [if_pos hi] at h ⊢; exact h
  · rw [if_neg hi] at h; cases h
theorem wrap32 {x : Int} (h0 : 0 ≤ x) (h1 : x < 4294967296) : IntKind.u32.wrap x = x := by
  unfold IntKind.wrap
  simp [IntKind.bits, IntKind.signed]
  omega
theorem ret_tmps4 {E : Env} {fn : Func} {T : Tm} {H : Heap} {u v x y : SV} {i j k l : Nat} (hr : fn.results = #[.tmp i, .tmp j, .tmp k, .tmp l]) (h1 : look T i = .s u) (h2 : look T j = .s v) (h3 : look T k = .s x) (h4 : look T l = .s y) : Ret E fn T H (.tup [.s u, .s v, .s x, .s y]) := by
  intro ρ a w _ hT
  have e1 := hT i
  have e2 := hT j
  have e3 := hT k
  have e4 := hT l
  rw [h1] at e1
  rw [h2] at e2
  rw [h3] at e3
  rw [h4] at e4
  refine ⟨.tuple #[a.tmps.getD i undef, a.tmps.getD j undef, a.tmps.getD k undef, a.tmps.getD l undef], by simp [results, hr, Sem.run_bind], _, rfl, fun m x hx => ?_⟩
  match m, hx with
  | 0, hx => simp at hx; subst hx; exact ⟨_, rfl, e1⟩
  | 1, hx => simp at hx; subst hx; exact ⟨_, rfl, e2⟩
  | 2, hx => simp at hx; subst hx; exact ⟨_, rfl, e3⟩
  | 3, hx => simp at hx; subst hx; exact ⟨_, rfl, e4⟩
  | m + 4, hx => simp at hx
end Go.Ab
end

section
/- Drawn regions in which an operation writes a slot that others, ahead of it, read. No program. -/
namespace Go.Ab.Any2
open Go.Ab
/-- From 'm' on all is done one behind the other; ahead of it in any order that the edges let. -/
def anyOkR (R : List Nat) (ops : Array Oper) (m : Nat) : Bool :=
  (List.range ops.size).all fun i => match ops[i]? with
    | none => false
    | some o =>
      Nat.beq (R.getD i 0) (maskOf (fun i => R.getD i 0) o.after.toList) &&
      ((o.after.all fun e => !Region.binds .any e || Nat.blt e.on i) &&
      if i < m then
        (List.range m).all fun j => match ops[j]? with
          | none => false
          | some p => match p.dst with
            | none => true
            | some d => (j == i || o.dst != some d) && (!(o.looksAt ops).contains d || ((Nat.blt j i && (R.getD i 0).testBit j) || (Nat.blt i j && (R.getD j 0).testBit i)))
      else (List.range i).all fun j => (R.getD i 0).testBit j)
def anyOk (ops : Array Oper) (m : Nat) : Bool := anyOkR (reach ops) ops m

theorem anyOk_edge {ops : Array Oper} {m i : Nat} {o : Oper} (h : anyOk ops m = true) (ho : ops[i]? = some o) : ∀ e ∈ o.after, Region.binds .any e = true → e.on < i := by
  have hi : i < ops.size := (Array.getElem?_eq_some_iff.1 ho).1
  simp only [anyOk, anyOkR, List.all_eq_true, List.mem_range] at h
  have h1 := h i hi
  simp only [ho, Bool.and_eq_true, Array.all_eq_true_iff_forall_mem] at h1
  intro e he hb
  have := h1.2.1 e he
  simp only [hb, Bool.not_true, Bool.false_or] at this
  exact Nat.blt_eq.mp this

theorem reach_listed {ops : Array Oper} {m : Nat} (h : anyOk ops m = true) {listed : Array Bool} (hc : Closed ops listed) : ∀ (i : Nat) (o : Oper) (j : Nat), ops[i]? = some o → ((reach ops).getD i 0).testBit j = true →
    (∀ e ∈ o.after, Region.binds .any e = true → listed.getD e.on false = true) → listed.getD j false = true := by
  intro i
  induction i using Nat.strongRecOn with
  | _ i ih =>
    intro o j ho hj ha
    have hi : i < ops.size := (Array.getElem?_eq_some_iff.1 ho).1
    have hedge := anyOk_edge h ho
    have h' := h
    simp only [anyOk, anyOkR, List.all_eq_true, List.mem_range] at h'
    have h1 := h' i hi
    simp only [ho, Bool.and_eq_true] at h1
    have h2 := Nat.eq_of_beq_eq_true h1.1
    rw [h2] at hj
    obtain ⟨e, he, hb, hon⟩ := maskOf_bit hj
    have he : e ∈ o.after := by simpa using he
    have hl := ha e he hb
    rcases hon with rfl | hon
    · exact hl
    · have hlt := hedge e he hb
      have hs : e.on < ops.size := by omega
      have hoe : ops[e.on]? = some ops[e.on] := by simp [hs]
      exact ih e.on hlt _ j hoe hon (hc e.on _ hoe hl)

theorem anyOk_tail {ops : Array Oper} {m i : Nat} {o : Oper} (h : anyOk ops m = true) (ho : ops[i]? = some o) (hm : m ≤ i) : ∀ j, j < i → ((reach ops).getD i 0).testBit j = true := by
  have hi : i < ops.size := (Array.getElem?_eq_some_iff.1 ho).1
  simp only [anyOk, anyOkR, List.all_eq_true, List.mem_range] at h
  have h1 := h i hi
  simp only [ho, Bool.and_eq_true] at h1
  have h2 := h1.2.2
  rw [if_neg (by omega)] at h2
  simpa [List.all_eq_true] using h2

theorem anyOk_head {ops : Array Oper} {m i j : Nat} {o p : Oper} {d : Nat} (h : anyOk ops m = true) (ho : ops[i]? = some o) (hm : i < m) (hj : j < m) (hp : ops[j]? = some p) (hd : p.dst = some d) :
    (j = i ∨ o.dst ≠ some d) ∧ (d ∈ o.looksAt ops → (j < i ∧ ((reach ops).getD i 0).testBit j = true) ∨ (i < j ∧ ((reach ops).getD j 0).testBit i = true)) := by
  have hi : i < ops.size := (Array.getElem?_eq_some_iff.1 ho).1
  simp only [anyOk, anyOkR, List.all_eq_true, List.mem_range] at h
  have h1 := h i hi
  simp only [ho, Bool.and_eq_true] at h1
  have h2 := h1.2.2
  rw [if_pos hm] at h2
  simp only [List.all_eq_true, List.mem_range] at h2
  have h3 := h2 j hj
  simp only [hp, hd, Bool.and_eq_true, Bool.or_eq_true, beq_iff_eq, bne_iff_ne, Bool.not_eq_true', List.contains_eq_mem, decide_eq_false_iff_not] at h3
  refine ⟨h3.1, fun hmem => ?_⟩
  rcases h3.2 with h4 | h4
  · exact absurd hmem h4
  · rcases h4 with h4 | h4
    · exact .inl ⟨Nat.blt_eq.mp h4.1, h4.2⟩
    · exact .inr ⟨Nat.blt_eq.mp h4.1, h4.2⟩

theorem closed_prefix {ops : Array Oper} {m : Nat} (hany : anyOk ops m = true) {k : Nat} {listed : Array Bool} (hk : k ≤ ops.size) (hl : ∀ i, i < ops.size → listed.getD i false = decide (i < k)) : Closed ops listed := by
  intro i o ho hi e he hb
  have his : i < ops.size := (Array.getElem?_eq_some_iff.1 ho).1
  rw [hl i his] at hi
  have := anyOk_edge hany ho e he hb
  rw [hl _ (by omega)]
  simp at hi ⊢; omega

theorem tail_any {E : Env} {ops : Array Oper} {Q : Exit → Act → World → Prop} {m : Nat} (hok : regionOk E.n ops = true) (hany : anyOk ops m = true) {l : List Oper} {T T' : Tm} {H H' : Heap} (hs : Steps E.P ops l T H T' H') :
    ∀ (k : Nat), m ≤ k → k + l.length = ops.size → (∀ j, l[j]? = ops[k + j]?) → ∀ (fuel : Nat) (listed : Array Bool), l.length ≤ fuel → listed.size = ops.size → (∀ i, i < ops.size → listed.getD i false = decide (i < k)) → ∀ (a : Act) (w : World), Rep E T H a w → (∀ a' w', Rep E T' H' a' w' → Q .normal a' w') →
      wpAny E.P .any ops Q fuel listed a w := by
  have nothing : ∀ (k : Nat) (listed : Array Bool), k ≤ ops.size → listed.size = ops.size → (∀ i, i < ops.size → listed.getD i false = decide (i < k)) → ∀ i ∈ Region.ready .any ops listed, m ≤ k → i = k := by
    intro k listed hks hsz hl i hi hmk
    obtain ⟨hu, o, ho, hall⟩ := mem_ready.1 hi
    have hi : i < ops.size := (Array.getElem?_eq_some_iff.1 ho).1
    have hik : ¬ i < k := by
      intro hlt
      have := hl i hi
      simp [hsz, hi, hlt] at this hu
      rw [this] at hu; cases hu
    rcases Nat.lt_or_ge k i with h | h
    · have := reach_listed hany (closed_prefix hany hks hl) i o k ho (anyOk_tail hany ho (by omega) k h) hall
      rw [hl k (by omega)] at this
      simp at this
    · omega
  induction hs with
  | nil =>
    intro k hmk hk _ fuel listed _ hsz hl a w hr hq
    have hnil : Region.ready .any ops listed = [] := by
      cases hc : Region.ready .any ops listed with
      | nil => rfl
      | cons x xs =>
        have hx : x ∈ Region.ready .any ops listed := by simp [hc]
        have := nothing k listed (by simp at hk; omega) hsz hl x hx hmk
        obtain ⟨_, o, ho, _⟩ := mem_ready.1 hx
        have hi : x < ops.size := (Array.getElem?_eq_some_iff.1 ho).1
        simp at hk
        omega
    exact wpAny_done hnil (hq a w hr) fuel
  | @cons o r T H v nb T' H' hg h _ ih =>
    intro k hmk hk hl0 fuel listed hf hsz hl a w hr hq
    obtain ⟨fuel, rfl⟩ : ∃ f, fuel = f + 1 := ⟨fuel - 1, by simp at hf; omega⟩
    have h0 : ops[k]? = some o := by have := hl0 0; simpa using this.symm
    have hks : k < ops.size := (Array.getElem?_eq_some_iff.1 h0).1
    have hrk : k ∈ Region.ready .any ops listed := mem_ready.2 ⟨by have := hl k hks; simp [hsz, hks] at this ⊢; exact this, o, h0, fun e he hb => by have := anyOk_edge hany h0 e he hb; rw [hl _ (by omega)]; simpa using this⟩
    refine ⟨fun hn => (by rw [hn] at hrk; cases hrk), fun i hi => ?_⟩
    have := nothing k listed (by omega) hsz hl i hi hmk
    subst this
    refine step_mok h0 (regionOk_op hok h0) (fun j b t _ e => regionOk_guard hok j t e) hg h.mok hr (fun a' w' hr' => ?_)
    refine ih (i + 1) (by omega) (by simp at hk; omega) (fun j => by have := hl0 (j + 1); simpa [Nat.add_assoc, Nat.add_comm 1 j] using this) fuel _ (by simpa using hf) (by simpa using hsz) (fun j hj => ?_) a' w' hr' hq
    by_cases hij : i = j
    · subst hij; simp [hsz, hj]
    · rw [getD_set_ne false hij, hl j hj]; simp; omega
  | @wr o r T H v H1 T' H' hg h _ ih =>
    intro k hmk hk hl0 fuel listed hf hsz hl a w hr hq
    obtain ⟨fuel, rfl⟩ : ∃ f, fuel = f + 1 := ⟨fuel - 1, by simp at hf; omega⟩
    have h0 : ops[k]? = some o := by have := hl0 0; simpa using this.symm
    have hks : k < ops.size := (Array.getElem?_eq_some_iff.1 h0).1
    have hrk : k ∈ Region.ready .any ops listed := mem_ready.2 ⟨by have := hl k hks; simp [hsz, hks] at this ⊢; exact this, o, h0, fun e he hb => by have := anyOk_edge hany h0 e he hb; rw [hl _ (by omega)]; simpa using this⟩
    refine ⟨fun hn => (by rw [hn] at hrk; cases hrk), fun i hi => ?_⟩
    have := nothing k listed (by omega) hsz hl i hi hmk
    subst this
    refine step_mok h0 (regionOk_op hok h0) (fun j b t _ e => regionOk_guard hok j t e) hg h hr (fun a' w' hr' => ?_)
    refine ih (i + 1) (by omega) (by simp at hk; omega) (fun j => by have := hl0 (j + 1); simpa [Nat.add_assoc, Nat.add_comm 1 j] using this) fuel _ (by simpa using hf) (by simpa using hsz) (fun j hj => ?_) a' w' hr' hq
    by_cases hij : i = j
    · subst hij; simp [hsz, hj]
    · rw [getD_set_ne false hij, hl j hj]; simp; omega
  | @skip o r T H T' H' hg _ ih =>
    intro k hmk hk hl0 fuel listed hf hsz hl a w hr hq
    obtain ⟨fuel, rfl⟩ : ∃ f, fuel = f + 1 := ⟨fuel - 1, by simp at hf; omega⟩
    have h0 : ops[k]? = some o := by have := hl0 0; simpa using this.symm
    have hks : k < ops.size := (Array.getElem?_eq_some_iff.1 h0).1
    have hrk : k ∈ Region.ready .any ops listed := mem_ready.2 ⟨by have := hl k hks; simp [hsz, hks] at this ⊢; exact this, o, h0, fun e he hb => by have := anyOk_edge hany h0 e he hb; rw [hl _ (by omega)]; simpa using this⟩
    refine ⟨fun hn => (by rw [hn] at hrk; cases hrk), fun i hi => ?_⟩
    have := nothing k listed (by omega) hsz hl i hi hmk
    subst this
    refine step_skip h0 (regionOk_op hok h0) (fun j b t _ e => regionOk_guard hok j t e) hg hr (fun a' w' hr' => ?_)
    refine ih (i + 1) (by omega) (by simp at hk; omega) (fun j => by have := hl0 (j + 1); simpa [Nat.add_assoc, Nat.add_comm 1 j] using this) fuel _ (by simpa using hf) (by simpa using hsz) (fun j hj => ?_) a' w' hr' hq
    by_cases hij : i = j
    · subst hij; simp [hsz, hj]
    · rw [getD_set_ne false hij, hl j hj]; simp; omega


structure Inv (E : Env) (ops : Array Oper) (m : Nat) (V : Nat → AV) (N : Nat → List Blk) (T0 : Tm) (H0 : Heap) (listed : Array Bool) (a : Act) (w : World) : Prop where
  size : listed.size = ops.size
  closed : Closed ops listed
  late : ∀ i, m ≤ i → i < ops.size → listed.getD i false = false
  ex : ∃ ρ, Rle E.ρ0 ρ ∧ HRep E.W ρ (Hk N H0 m) w ∧
    (∀ t, (∀ j, j < m → listed.getD j false = true → (ops[j]?).bind (·.dst) = some t → (V j).rep ρ (a.tmps.getD t undef)) ∧ ((∀ j, j < m → listed.getD j false = true → (ops[j]?).bind (·.dst) ≠ some t) → (look T0 t).rep ρ (a.tmps.getD t undef))) ∧
    (∀ id x, ρ id = some x → id < H0.length ∨ ∃ j, j < m ∧ listed.getD j false = true ∧ (Hk N H0 j).length ≤ id ∧ id < (Hk N H0 j).length + (N j).length) ∧
    a.tmps.size = E.n ∧ DefOk E.w0 a.defers w ∧ Fr E.W E.w0 w

theorem head_any {E : Env} {ops : Array Oper} {Q : Exit → Act → World → Prop} {m : Nat} (hok : regionOk E.n ops = true) (hany : anyOk ops m = true) (hm : m ≤ ops.size) {V : Nat → AV} {N : Nat → List Blk} {T0 : Tm} {H0 : Heap}
    (hstep : ∀ k, k < m → StepOk E.P ops V N T0 H0 k) {l : List Oper} (hl : ∀ j, l[j]? = ops[m + j]?) (hlen : m + l.length = ops.size) {T' : Tm} {H' : Heap} (htail : Steps E.P ops l (Tk ops V T0 m) (Hk N H0 m) T' H') (hQ : ∀ a' w', Rep E T' H' a' w' → Q .normal a' w') :
    ∀ (fuel : Nat) (us : List Nat) (listed : Array Bool) (a : Act) (w : World), (∀ j, j < m → listed.getD j false = false → j ∈ us) → us.length + l.length ≤ fuel → Inv E ops m V N T0 H0 listed a w → wpAny E.P .any ops Q fuel listed a w := by
  have finish : ∀ (fuel : Nat) (listed : Array Bool) (a : Act) (w : World), (∀ j, j < m → listed.getD j false = true) → l.length ≤ fuel → Inv E ops m V N T0 H0 listed a w → wpAny E.P .any ops Q fuel listed a w := by
    intro fuel listed a w hall hf hi
    refine tail_any hok hany htail m (Nat.le_refl _) hlen hl fuel listed hf hi.size (fun i his => ?_) a w ?_ hQ
    · rcases Nat.lt_or_ge i m with h | h
      · rw [hall i h]; simp [h]
      · rw [hi.late i h his]; simp; omega
    · obtain ⟨ρ, k1, k2, k3, k4, k5, k6, k7⟩ := hi.ex
      refine ⟨ρ, k1, fun id hid => ?_, k2, fun t => ?_, k5, k6, k7⟩
      · cases hr : ρ id with
        | none => rfl
        | some x =>
          rcases k4 id x hr with h | ⟨j, h1, _, _, h2⟩
          · obtain ⟨r, hr⟩ := Hk_le (N := N) (H0 := H0) (Nat.zero_le m)
            simp only [Hk] at hr
            rw [hr] at hid
            simp at hid; omega
          · have := Hk_len (N := N) (H0 := H0) h1
            omega
      · rcases look_Tk (ops := ops) (V := V) (T0 := T0) t m with ⟨j, h1, h2, h3⟩ | ⟨h1, h2⟩
        · rw [h3]; exact (k3 t).1 j h1 (hall j h1) h2
        · rw [h2]; exact (k3 t).2 (fun j hj _ => h1 j hj)
  intro fuel
  induction fuel with
  | zero =>
    intro us listed a w hus hf hi
    refine finish 0 listed a w (fun j hj => ?_) (by omega) hi
    cases hb : listed.getD j false with
    | true => rfl
    | false => have := hus j hj hb; have := List.length_pos_of_mem this; omega
  | succ fuel ih =>
    intro us listed a w hus hf hi
    by_cases hall : ∀ j, j < m → listed.getD j false = true
    · exact finish _ listed a w hall (by omega) hi
    have hex : ∃ j, j < m ∧ listed.getD j false = false := by
      apply Classical.byContradiction
      intro hn
      refine hall fun j hj => ?_
      cases hb : listed.getD j false with
      | true => rfl
      | false => exact absurd ⟨j, hj, hb⟩ hn
    -- the least unlisted one is ready
    have hready : ∃ j, j ∈ Region.ready .any ops listed := by
      have hleast : ∀ n, (∃ j, j ≤ n ∧ j < m ∧ listed.getD j false = false) → ∃ j, j < m ∧ listed.getD j false = false ∧ ∀ i, i < j → listed.getD i false = true := by
        intro n
        induction n with
        | zero =>
          rintro ⟨j, h1, h2, h3⟩
          have : j = 0 := by omega
          subst this
          exact ⟨0, h2, h3, fun i hi => absurd hi (by omega)⟩
        | succ n ihn =>
          rintro ⟨j, h1, h2, h3⟩
          by_cases hh : ∃ j, j ≤ n ∧ j < m ∧ listed.getD j false = false
          · exact ihn hh
          · refine ⟨j, h2, h3, fun i hi => ?_⟩
            cases hb : listed.getD i false with
            | true => rfl
            | false => exact absurd ⟨i, by omega, by omega, hb⟩ hh
      obtain ⟨j0, h1, h2⟩ := hex
      obtain ⟨j, hj, hjf, hji⟩ := hleast j0 ⟨j0, Nat.le_refl _, h1, h2⟩
      have hjs : j < ops.size := by omega
      have ho : ops[j]? = some ops[j] := by simp [hjs]
      exact ⟨j, mem_ready.2 ⟨by simp [hi.size, hjs] at hjf ⊢; exact hjf, _, ho, fun e he hb => hji _ (anyOk_edge hany ho e he hb)⟩⟩
    refine ⟨fun hn => (by obtain ⟨j, hj⟩ := hready; rw [hn] at hj; cases hj), fun i hir => ?_⟩
    obtain ⟨hun, o, ho, hedges⟩ := mem_ready.1 hir
    have his : i < ops.size := (Array.getElem?_eq_some_iff.1 ho).1
    have hif : listed.getD i false = false := by simp [hi.size, his] at hun ⊢; exact hun
    have him : i < m := by
      rcases Nat.lt_or_ge i m with h | h
      · exact h
      · obtain ⟨j, h1, h2⟩ := hex
        have := reach_listed hany hi.closed i o j ho (anyOk_tail hany ho h j (by omega)) hedges
        rw [h2] at this; cases this
    obtain ⟨ρ, k1, k2, k3, k4, k5, k6, k7⟩ := hi.ex
    obtain ⟨o', ho', hso⟩ := hstep i him
    rw [ho] at ho'
    cases ho'
    -- what it looks at is told
    have hlook : ∀ t, t ∈ o.looksAt ops → (look (Tk ops V T0 i) t).rep ρ (a.tmps.getD t undef) := by
      intro t ht
      rcases look_Tk (ops := ops) (V := V) (T0 := T0) t i with ⟨j, h1, h2, h3⟩ | ⟨h1, h2⟩
      · rw [h3]
        have hjs : j < ops.size := by omega
        have hp : ops[j]? = some ops[j] := by simp [hjs]
        have hd : ops[j].dst = some t := by rw [hp] at h2; simpa using h2
        have := (anyOk_head hany ho him (show j < m by omega) hp hd).2 ht
        rcases this with this | this
        · exact (k3 t).1 j (by omega) (reach_listed hany hi.closed i o j ho this.2 hedges) h2
        · omega
      · rw [h2]
        refine (k3 t).2 fun j hj hlj hd => ?_
        by_cases hji : j < i
        · exact h1 j hji hd
        · have hjs : j < ops.size := by omega
          have hp : ops[j]? = some ops[j] := by simp [hjs]
          have hd' : ops[j].dst = some t := by rw [hp] at hd; simpa using hd
          rcases (anyOk_head hany ho him hj hp hd').2 ht with this | this
          · omega
          · have h4 := reach_listed hany hi.closed j _ i hp this.2 (hi.closed j _ hp hlj)
            rw [hif] at h4; cases h4
    have hopk := regionOk_op hok ho
    have hopsrep : Ops o (Tk ops V T0 i) ρ a := by
      intro x hx
      simp only [opOk, Bool.and_eq_true, Array.all_eq_true_iff_forall_mem] at hopk
      cases x with
      | tmp t => exact hlook t (looksAt_op hx)
      | global g => trivial
      | func f => exact ⟨rfl, rfl⟩
      | const c =>
        have h := hopk.1.1 _ hx
        simp only [operandOk] at h
        unfold constOk at h
        split at h <;> first
          | (cases h; done)
          | exact rfl
          | exact ⟨rfl, rfl⟩
    have hdst : ∀ d, o.dst = some d → d < a.tmps.size := fun d hd => by rw [k5]; exact opOk_dst hopk d hd
    have hwant : ∀ c, Guard ops (Tk ops V T0 i) o c → Region.wanted o (yielded ops a.tmps) = c := fun c hg =>
      hg.wanted (ρ := ρ) fun j b t e1 e2 => ⟨hlook t (looksAt_guard e1 e2), by rw [k5]; exact regionOk_guard hok j t e2⟩
    have hW : ∀ b, w.heap.size ≤ b → E.W b := fun b hb => E.hW b (Nat.le_trans k7.size hb)
    obtain ⟨rest, hrest⟩ := Hk_le (N := N) (H0 := H0) (show i + 1 ≤ m by omega)
    have hrest' : Hk N H0 m = Hk N H0 i ++ ((N i).map some ++ rest) := by rw [hrest]; simp only [Hk, List.append_assoc]
    have hnone : ∀ i', i' < (N i).length → ρ ((Hk N H0 i).length + i') = none := by
      intro i' hi'
      cases hr : ρ ((Hk N H0 i).length + i') with
      | none => rfl
      | some x =>
        rcases k4 _ x hr with h | ⟨j, h1, h2, h3, h4⟩
        · obtain ⟨r, hr⟩ := Hk_le (N := N) (H0 := H0) (Nat.zero_le i)
          simp only [Hk] at hr
          rw [hr] at h; simp at h; omega
        · rcases Nat.lt_trichotomy i j with h5 | h5 | h5
          · have := Hk_len (N := N) (H0 := H0) h5; omega
          · subst h5; rw [hif] at h2; cases h2
          · have := Hk_len (N := N) (H0 := H0) h5; omega
    -- the step
    have hinv : ∀ (v' : Value) (w' : World) (ρ' : Rho), New ρ ρ' (Hk N H0 i).length (N i) w w' → (V i).rep ρ' v' → Inv E ops m V N T0 H0 (listed.setIfInBounds i true) (a.put o.dst v') w' := by
      intro v' w' ρ' hnew hv
      have hset : ∀ j, j ≠ i → (listed.setIfInBounds i true).getD j false = listed.getD j false := fun j hj => getD_set_ne false (Ne.symm hj)
      have hseti : (listed.setIfInBounds i true).getD i false = true := by simp [hi.size, his]
      refine ⟨by simpa using hi.size, fun j p hp hjl e he hb => ?_, fun j h1 h2 => by rw [hset j (by omega)]; exact hi.late j h1 h2, ρ', k1.trans hnew.le, ?_, fun t => ?_, fun id x hx => ?_, (put_size _ _ _).trans k5, (by rw [put_defers]; exact k6.ext hnew.ext), k7.ext hnew.ext⟩
      · have keep : ∀ x, listed.getD x false = true → (listed.setIfInBounds i true).getD x false = true := fun x hx => getD_set_true hx
        by_cases hji : j = i
        · subst hji
          rw [ho] at hp
          cases hp
          exact keep _ (hedges e he hb)
        · rw [hset j hji] at hjl
          exact keep _ (hi.closed j p hp hjl e he hb)
      · refine k2.new' hW hnone (fun i' hi' => ?_) hnew
        rw [hrest', List.getElem?_append_right (by omega), Nat.add_sub_cancel_left, List.getElem?_append_left (by simpa using hi')]
        simp [hi']
      · have hslot : (a.put o.dst v').tmps.getD t undef = if o.dst = some t then v' else a.tmps.getD t undef := by
          cases hd : o.dst with
          | none => simp [Act.put]
          | some d =>
            simp only [Act.put]
            rw [getD_set _ _ _ _ (hdst d hd)]
            simp
        rw [hslot]
        refine ⟨fun j hj hlj hdj => ?_, fun hno => ?_⟩
        · by_cases hji : j = i
          · subst hji
            rw [ho] at hdj
            have hdj : o.dst = some t := by simpa using hdj
            rw [if_pos hdj]; exact hv
          · have hjs : j < ops.size := by omega
            have hp : ops[j]? = some ops[j] := by simp [hjs]
            have hd' : ops[j].dst = some t := by rw [hp] at hdj; simpa using hdj
            have h1 := (anyOk_head hany ho him hj hp hd').1
            rw [if_neg (h1.resolve_left hji)]
            rw [hset j hji] at hlj
            exact AV.rep_le hnew.le ((k3 t).1 j hj hlj hdj)
        · have : o.dst ≠ some t := by have := hno i him hseti; rw [ho] at this; simpa using this
          rw [if_neg this]
          exact AV.rep_le hnew.le ((k3 t).2 fun j hj hlj => hno j hj (getD_set_true hlj))
      · obtain ⟨b, off⟩ := x
        rcases hnew.old id b off hx with h | ⟨h1, h2, _, _⟩
        · rcases k4 id _ h with h | ⟨j, h1, h2, h3⟩
          · exact .inl h
          · refine .inr ⟨j, h1, ?_, h3⟩
            by_cases hji : j = i
            · subst hji; exact hseti
            · rw [hset j hji]; exact h2
        · exact .inr ⟨i, him, hseti, h1, h2⟩
    have hus' : ∀ j, j < m → (listed.setIfInBounds i true).getD j false = false → j ∈ us.erase i := by
      intro j hj hjf
      by_cases hji : j = i
      · subst hji; simp [hi.size, his] at hjf
      · rw [getD_set_ne false (Ne.symm hji)] at hjf
        exact (List.mem_erase_of_ne hji).2 (hus j hj hjf)
    have hlen' : (us.erase i).length + l.length ≤ fuel := by
      have hmem := hus i him hif
      rw [List.length_erase_of_mem hmem]
      have := List.length_pos_of_mem hmem
      omega
    unfold wpOp
    simp only [ho]
    rcases hso with ⟨hg, hh⟩ | ⟨hg, hv, hn⟩
    · rw [hwant _ hg]
      simp only [if_true]
      refine .inl (hh E.W ρ a w ((hrest' ▸ k2).sub_pre) hnone hopsrep _ Q ?_)
      rintro v' w' ⟨ρ', hnew, hv⟩
      exact ih (us.erase i) _ _ _ hus' hlen' (hinv v' w' ρ' hnew hv)
    · rw [hwant _ hg]
      simp only [Bool.false_eq_true, if_false]
      refine ih (us.erase i) _ _ _ hus' hlen' (hinv undef w ρ ?_ ?_)
      · rw [hn]; exact .nil (.refl _)
      · rw [hv]; trivial

theorem inv0 {E : Env} {ops : Array Oper} {m : Nat} {V : Nat → AV} {N : Nat → List Blk} {T0 : Tm} {H0 : Heap} {a : Act} {w : World} (h : Rep E T0 H0 a w) : Inv E ops m V N T0 H0 (Array.replicate ops.size false) a w := by
  obtain ⟨ρ, k1, k2, k3, k4, k5, k6, k7⟩ := h
  obtain ⟨r, hr⟩ := Hk_le (N := N) (H0 := H0) (Nat.zero_le m)
  simp only [Hk] at hr
  refine ⟨by simp, fun i o _ hi => (by rw [getD_rep_false] at hi; cases hi), fun i _ _ => getD_rep_false _ _, ρ, k1, ⟨k3.lt, fun id b o k h1 h2 => ?_, fun id id' b o o' k k' hne h1 h2 h3 h4 => ?_⟩, fun t => ⟨fun j _ hj => by (rw [getD_rep_false] at hj; cases hj), fun _ => k4 t⟩, fun id x hx => .inl ?_, k5, k6, k7⟩
  · have hid : id < H0.length := by
      rcases Nat.lt_or_ge id H0.length with h | h
      · exact h
      · rw [k2 id h] at h1; cases h1
    rw [hr, List.getElem?_append_left hid] at h2
    exact k3.rep id b o k h1 h2
  · have hid : id < H0.length := by
      rcases Nat.lt_or_ge id H0.length with h | h
      · exact h
      · rw [k2 id h] at h1; cases h1
    have hid' : id' < H0.length := by
      rcases Nat.lt_or_ge id' H0.length with h | h
      · exact h
      · rw [k2 id' h] at h2; cases h2
    rw [hr, List.getElem?_append_left hid] at h3
    rw [hr, List.getElem?_append_left hid'] at h4
    exact k3.apart id id' b o o' k k' hne h1 h2 h3 h4
  · rcases Nat.lt_or_ge id H0.length with h | h
    · exact h
    · rw [k2 id h] at hx; cases hx

/-- **A region that draws its order.** -/
theorem region_any {E : Env} {id : Nat} {ops : Array Oper} {Q : Exit → Act → World → Prop} {m : Nat} (hmix : E.P.follows .mixedOrders = true) (hok : regionOk E.n ops = true) (hany : anyOk ops m = true) {l1 l2 : List Oper} (hl : ops.toList = l1 ++ l2) (hm : l1.length = m)
    {T T1 T' : Tm} {H H1 H' : Heap} (h1 : HSteps E.P ops l1 T H T1 H1) (h2 : Steps E.P ops l2 T1 H1 T' H') {a : Act} {w : World} (hr : Rep E T H a w) (hQ : ∀ a' w', Rep E T' H' a' w' → Q .normal a' w') : (Code.region id ops true).wp E.P Q a w := by
  have hsz : ops.size = m + l2.length := by rw [← Array.length_toList, hl]; simp [hm]
  have hget : ∀ j, ops[j]? = (l1 ++ l2)[j]? := fun j => by rw [← Array.getElem?_toList, hl]
  have htake : ∀ (j : Nat), j < m → l1[j]? = ops[j]? := fun j hj => by rw [hget, List.getElem?_append_left (by omega)]
  -- the trace wants a list that goes on as ops does: taken up to m
  obtain ⟨V, N, _, k2, k3, k4⟩ := trace' h1 T H 0 (fun _ => .s .junk) (fun _ => []) (fun j hj => by rw [Nat.zero_add]; exact htake j (by omega)) rfl rfl
  rw [Nat.zero_add, hm] at k3 k4
  refine wp_region_any hmix ?_
  refine head_any hok hany (by omega) (fun k hk => k2 k (Nat.zero_le _) (by omega)) (l := l2) (fun j => ?_) (by omega) (k3 ▸ k4 ▸ h2) hQ ops.size (List.range m) _ a _ (fun j hj _ => List.mem_range.2 hj) (by simp; omega) (inv0 hr.drew)
  rw [hget, List.getElem?_append_right (by omega), ← hm, Nat.add_sub_cancel_left]

section code
variable {E : Env} {T : Tm} {H : Heap} {Q : Exit → Tm → Heap → Prop} {K : Tm → Heap → Prop}
theorem w_region_any2 {id : Nat} {ops : Array Oper} (m : Nat) {T1 T' : Tm} {H1 H' : Heap} (hmix : E.P.follows .mixedOrders = true) (hok : regionOk E.n ops = true) (hany : anyOk ops m = true) {l1 l2 : List Oper} (hl : ops.toList = l1 ++ l2) (hm : l1.length = m)
    (h1 : HSteps E.P ops l1 T H T1 H1) (h2 : Steps E.P ops l2 T1 H1 T' H') (hq : Q .normal T' H') : Wp E (.region id ops true) T H Q :=
  fun _ _ hr => region_any hmix hok hany hl hm h1 h2 hr fun _ _ hr' => ⟨T', H', hq, hr'⟩
theorem c_any2 {id : Nat} {ops : Array Oper} (m : Nat) {l1 l2 : List Oper} (hmix : E.P.follows .mixedOrders = true) (hok : regionOk E.n ops = true) (hany : anyOk ops m = true) (hl1 : ops.toList.take m = l1) (hl2 : ops.toList.drop m = l2) (hm : l1.length = m)
    (h : TK E.P ops l1 T H l2 (Q .normal)) : Wp E (.region id ops true) T H Q :=
  let ⟨_, _, k1, _, _, k2, k3⟩ := h
  w_region_any2 m hmix hok hany (by rw [← hl1, ← hl2, List.take_append_drop]) hm k1 k2 k3
end code
end Go.Ab.Any2
namespace Go.Ab
section
variable {E : Env} {T : Tm} {H : Heap} {Q : Exit → Tm → Heap → Prop} {K : Tm → Heap → Prop}
theorem c_any2 {id : Nat} {ops : Array Oper} (m : Nat) {l1 l2 : List Oper} (hmix : E.P.follows .mixedOrders = true) (hok : regionOk E.n ops = true) (hany : Any2.anyOk ops m = true) (hl1 : ops.toList.take m = l1) (hl2 : ops.toList.drop m = l2) (hm : l1.length = m)
    (h : TK E.P ops l1 T H l2 (Q .normal)) : Wp E (.region id ops true) T H Q := Any2.c_any2 m hmix hok hany hl1 hl2 hm h
end
end Go.Ab
end
