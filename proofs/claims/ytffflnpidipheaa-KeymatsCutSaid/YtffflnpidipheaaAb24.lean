/- Bytes of a constant, append where there is room, slices cut with a bound. No program. -/
import Derived.Test.YtffflnpidipheaaAb23
import Derived.Test.YtffflnpidipheaaAb18
namespace Go.Ab
theorem freeze_at {w : World} {b n : Nat} {cells : Array Value} {t : TypeId} (h : w.heap[b]? = some (.cells cells t (0, 0))) : (w.freeze ⟨b, n, none⟩ 1).heap[b]? = some (.cells cells t (n, n + 1)) := by
  unfold World.freeze
  rw [if_neg (by decide)]
  obtain ⟨hl, hk⟩ := Array.getElem?_eq_some_iff.1 h
  show (w.heap.modify b _)[b]? = _
  rw [Array.getElem?_eq_getElem (by simpa using hl), Array.getElem_modify_self, hk]
  rfl
theorem freeze_other {w : World} {b n k : Nat} (h : k ≠ b) : (w.freeze ⟨b, n, none⟩ 1).heap[k]? = w.heap[k]? := by
  unfold World.freeze
  rw [if_neg (by decide)]
  show (w.heap.modify b _)[k]? = _
  rw [Array.getElem?_modify, if_neg (fun e => h e.symm)]
theorem freeze_size {w : World} {b n : Nat} : (w.freeze ⟨b, n, none⟩ 1).heap.size = w.heap.size := by
  unfold World.freeze
  rw [if_neg (by decide)]
  show (w.heap.modify b _).size = _
  simp
theorem freeze_rest {w : World} {b n : Nat} : (w.freeze ⟨b, n, none⟩ 1).os = w.os ∧ (w.freeze ⟨b, n, none⟩ 1).tape = w.tape ∧ (w.freeze ⟨b, n, none⟩ 1).output = w.output := by
  unfold World.freeze
  rw [if_neg (by decide)]
  exact ⟨rfl, rfl, rfl⟩
section rules
variable {P : Program} {T : Tm} {H : Heap} {d : Option Tmp} {ty : TypeId} {pos : String} {af : Array Edge} {g : Option (Nat × Bool)}
theorem conv_gives {t e : TypeId} {x : Operand} {id base idx len cap : Nat} {segs : List Seg} (hx : ev T x = .s (.slice id base idx len cap)) (hb : H[id]? = some (some ⟨true, segs⟩)) (hu : P.underlying t = some (.slice e)) (he : P.underlying e = some (.int .u8))
    {W : Nat → Prop} {ρ : Rho} {a : Act} {w : World} (hH : HRep W ρ H w) (ho : Ops ⟨d, .convert t t x, ty, pos, af, g⟩ T ρ a) :
    Gives P ⟨d, .convert t t x, ty, pos, af, g⟩ a w fun v' w' => HRep W ρ (H.set id (some ⟨false, segs⟩)) w' ∧ Fr W w w' ∧ (AV.s (.slice id base idx len cap)).rep ρ v' := by
  intro next Q hq
  have h1 : (ev T x).rep ρ (a.eval x) := ho x (by simp [Op.operands])
  rw [hx] at h1
  have h0 := h1
  obtain ⟨b, o, hρ, h1⟩ := h1
  obtain ⟨⟨cells, tt, fr, g1, g2, g3⟩, hWb⟩ := hH.rep id b o _ hρ hb
  have hfr := g2 rfl
  subst hfr
  have hsh : w.shape? b = some (tt, cells.size) := by unfold World.shape?; rw [g1]
  have hrun : (execOp a.eval ⟨d, .convert t t x, ty, pos, af, g⟩).run P w = .ok (.value (a.eval x)) (w.freeze ⟨b, cells.size, none⟩ 1) := by
    simp [execOp, h1, convert, Sem.run_bind, run_underlying hu, run_underlying he, markStringish, hsh]
  rw [hrun]
  have hid : id < H.length := (List.getElem?_eq_some_iff.1 hb).1
  have hWb' := hWb rfl
  refine hq _ _ ⟨⟨fun j b' o' h => ?_, fun j b' o' q e1 e2 => ?_, fun j j' b' o1 o2 q q' hne e1 e2 e3 e4 => ?_⟩, ⟨freeze_rest.1, freeze_rest.2.1, freeze_rest.2.2, Nat.le_of_eq freeze_size.symm, fun k _ hk => freeze_other (fun e => hk (e ▸ hWb')), fun k ob hk hc => ?_⟩, h0⟩
  · rw [freeze_size]; exact hH.lt j b' o' h
  · by_cases hj : id = j
    · subst hj
      rw [hρ] at e1
      simp at e1
      obtain ⟨rfl, rfl⟩ := e1
      simp [hid] at e2
      subst e2
      exact ⟨⟨cells, tt, _, freeze_at g1, fun e => by simp at e, g3⟩, fun e => by simp at e⟩
    · rw [List.getElem?_set_ne hj] at e2
      have hr := hH.rep j b' o' q e1 e2
      by_cases hbb : b' = b
      · subst hbb
        exact absurd (hH.apart id j b' o o' _ q hj hρ e1 hb e2).1 (by simp)
      · obtain ⟨⟨c2, t2, f2, k1, k2, k3⟩, k4⟩ := hr
        exact ⟨⟨c2, t2, f2, by rw [freeze_other hbb]; exact k1, k2, k3⟩, k4⟩
  · by_cases hj : id = j
    · subst hj
      rw [List.getElem?_set_ne hne] at e4
      have := hH.apart id j' b' o1 o2 _ q' hne e1 e2 hb e4
      exact absurd this.1 (by simp)
    · rw [List.getElem?_set_ne hj] at e3
      by_cases hj' : id = j'
      · subst hj'
        have := hH.apart j id b' o1 o2 q _ hne e1 e2 e3 hb
        exact absurd this.2 (by simp)
      · rw [List.getElem?_set_ne hj'] at e4
        exact hH.apart j j' b' o1 o2 q q' hne e1 e2 e3 e4
  · by_cases e : k = b
    · subst e
      rw [g1] at hk
      cases hk
      simp [Obj.isCells] at hc
    · rw [freeze_other e]; exact hk
theorem m_conv {t e : TypeId} {x : Operand} {id base idx len cap : Nat} {segs : List Seg} (hx : ev T x = .s (.slice id base idx len cap)) (hb : H[id]? = some (some ⟨true, segs⟩)) (hu : P.underlying t = some (.slice e)) (he : P.underlying e = some (.int .u8)) :
    MOk P ⟨d, .convert t t x, ty, pos, af, g⟩ T H (.s (.slice id base idx len cap)) (H.set id (some ⟨false, segs⟩)) := by
  intro W ρ a w hH hnn hW ho next Q hq
  refine conv_gives hx hb hu he hH ho next Q ?_
  rintro v' w' ⟨h1, h2, h3⟩
  exact hq v' w' ⟨ρ, fun i hi => hnn i (by simpa using hi), .refl _, h1, h2, h3⟩
theorem m_append {x y : Operand} {t t' e e' rt : TypeId} {id base idx dl dc id2 base2 idx2 sl sc m2 : Nat} {k : IntKind} {segs segs' : List Seg} {bk2 : Blk} {ys : List Int} (hx : ev T x = .s (.slice id base idx dl dc)) (hy : ev T y = .s (.slice id2 base2 idx2 sl sc)) (hb : H[id]? = some (some ⟨true, segs⟩))
    (hb2 : H[id2]? = some (some bk2)) (hs2 : segAt bk2.segs base2 = some (.ints k m2 ys)) (hl2 : ys.length = m2) (hfit2 : idx2 + sl ≤ m2) (h0 : 0 < sl) (hroom : dl + sl ≤ dc) (hu : P.underlying t = some (.slice e)) (hu' : P.underlying t' = some (.slice e')) (hs : ∀ w, (sizeOf e).run P w = .ok 1 w)
    (hp : PutS segs (base + idx + dl) sl [.ints k sl ((ys.drop idx2).take sl)] segs') : MOk P ⟨d, .call ⟨.builtin .append, #[x, y], #[t, t']⟩, rt, pos, af, g⟩ T H (.s (.slice id base idx (dl + sl) dc)) (H.set id (some ⟨true, segs'⟩)) := by
  intro W ρ a w hH hnn hW ho next Q hq
  have h1 : (ev T x).rep ρ (a.eval x) := ho x (by simp [Op.operands, Call.operands])
  have h2 : (ev T y).rep ρ (a.eval y) := ho y (by simp [Op.operands, Call.operands])
  rw [hx] at h1
  rw [hy] at h2
  obtain ⟨b, o, hρ, h1⟩ := h1
  obtain ⟨b2, o2, hρ2, h2⟩ := h2
  obtain ⟨⟨cells, tt, fr, g1, g2, g3⟩, hWb⟩ := hH.rep id b o _ hρ hb
  obtain ⟨⟨cells2, tt2, fr2, q1, q2, q3⟩, _⟩ := hH.rep id2 b2 o2 _ hρ2 hb2
  have hfr := g2 rfl
  subst hfr
  have hsrc : ∀ i, i < sl → cells2[o2 + base2 + idx2 + i]? = some (.int k (((ys.drop idx2).take sl).getD i 0)) := by
    intro i hi
    obtain ⟨v, hv, hc⟩ := q3 (base2 + (idx2 + i)) _ (segAt_at hs2 (idx2 + i) (by show idx2 + i < m2; omega))
    have hc : v = .int k (ys.getD (idx2 + i) 0) := hc.1
    subst hc
    have hv : cells2[o2 + (base2 + (idx2 + i))]? = some (.int k (ys.getD (idx2 + i) 0)) := hv
    rw [show o2 + base2 + idx2 + i = o2 + (base2 + (idx2 + i)) by omega, hv]
    simp [List.getD_eq_getElem?_getD, List.getElem?_take, List.getElem?_drop, hi]
  have hzl : ((ys.drop idx2).take sl).length = sl := by simp; omega
  have hfc := loadCells_ints (P := P) q1 hzl hsrc sl sc
  generalize (ys.drop idx2).take sl = zs at *
  have hfit : o + (base + idx + dl) + sl ≤ cells.size := by
    have hle := hp.1
    obtain ⟨y, hy⟩ := atS_some (l := segs) (i := base + idx + dl + sl - 1) (by omega)
    obtain ⟨v, hv, _⟩ := g3 _ y hy
    have : o + (base + idx + dl + sl - 1) < cells.size := by
      rcases Nat.lt_or_ge (o + (base + idx + dl + sl - 1)) cells.size with h | h
      · exact h
      · simp [Array.getElem?_eq_none h] at hv
    omega
  have hst := run_storeCells_at P b (o + (base + idx + dl)) tt (zs.map (Value.int k)) 0 cells w g1 (by simp; omega) (by intro v hv; obtain ⟨z, _, rfl⟩ := List.mem_map.1 hv; rfl)
  rw [Nat.add_zero] at hst
  have hrun : (execOp a.eval ⟨d, .call ⟨.builtin .append, #[x, y], #[t, t']⟩, rt, pos, af, g⟩).run P w = .ok (.value (.slice (some ⟨b, o + base + idx, none⟩) (dl + sl) dc)) (w.setRow b (cells.toList.take (o + (base + idx + dl)) ++ zs.map (Value.int k) ++ cells.toList.drop (o + (base + idx + dl) + (zs.map (Value.int k)).length)).toArray) := by
    simp only [execOp, resolve, invoke, builtin, List.map_toArray, List.map_cons, List.map_nil, h1, h2]
    simp [Builtin.append_, Sem.run_bind, run_underlying hu, run_underlying hu', Builtin.lenOf, hs, hfc, hroom]
    rw [addr_add, show o + base + idx + dl = o + (base + idx + dl) by omega, hst]; simp
  rw [hrun]
  refine hq _ _ ⟨ρ, fun i hi => hnn i (by simpa using hi), .refl _, ?_, Fr.setRow _ (hWb rfl), ⟨b, o, hρ, rfl⟩⟩
  refine hH.write hρ hb g1 g3 hp (by simp; omega) (fun i z hz => ?_) hfit
  obtain ⟨hi, rfl⟩ := atS_ints1 hz
  refine ⟨.int k (zs.getD i 0), ?_, rfl, rfl⟩
  have : i < zs.length := by omega
  simp [List.getD_eq_getElem?_getD, this]
theorem h_bsli5 {t e : TypeId} {x0 x1 x2 x3 x4 : Operand} {k : IntKind} {a0 a1 a2 a3 a4 : Int} {z : Value} {n : Nat} (h0 : ev T x0 = .s (.int k a0)) (h1 : ev T x1 = .s (.int k a1)) (h2 : ev T x2 = .s (.int k a2)) (h3 : ev T x3 = .s (.int k a3)) (h4 : ev T x4 = .s (.int k a4)) (hu : P.underlying t = some (.slice e)) (hs : ∀ w, (sizeOf e).run P w = .ok 1 w) (hz : ∀ w, (zeroValue e).run P w = .ok z w) (hz1 : z.cells = #[z]) (hn : H.length = n) :
    HOk P ⟨d, .buildSlice t 5 #[(0, x0), (1, x1), (2, x2), (3, x3), (4, x4)], ty, pos, af, g⟩ T H (.s (.slice n 0 0 5 5)) [⟨true, [.ints k 5 [a0, a1, a2, a3, a4]]⟩] := by
  subst hn
  intro W ρ a w hH hf ho next Q hq
  have r0 : (SV.int k a0).rep ρ (a.eval x0) := by have := ho x0 (by simp [Op.operands]); rwa [h0] at this
  have c0 := SV.oneCell r0 (by simp)
  have k0 := cells_one c0
  have r1 : (SV.int k a1).rep ρ (a.eval x1) := by have := ho x1 (by simp [Op.operands]); rwa [h1] at this
  have c1 := SV.oneCell r1 (by simp)
  have k1 := cells_one c1
  have r2 : (SV.int k a2).rep ρ (a.eval x2) := by have := ho x2 (by simp [Op.operands]); rwa [h2] at this
  have c2 := SV.oneCell r2 (by simp)
  have k2 := cells_one c2
  have r3 : (SV.int k a3).rep ρ (a.eval x3) := by have := ho x3 (by simp [Op.operands]); rwa [h3] at this
  have c3 := SV.oneCell r3 (by simp)
  have k3 := cells_one c3
  have r4 : (SV.int k a4).rep ρ (a.eval x4) := by have := ho x4 (by simp [Op.operands]); rwa [h4] at this
  have c4 := SV.oneCell r4 (by simp)
  have k4 := cells_one c4
  have hrun : (execOp a.eval ⟨d, .buildSlice t 5 #[(0, x0), (1, x1), (2, x2), (3, x3), (4, x4)], ty, pos, af, g⟩).run P w = .ok (.value (.slice (some ⟨w.heap.size, 0, none⟩) 5 5)) (w.alloc (.cells #[a.eval x0, a.eval x1, a.eval x2, a.eval x3, a.eval x4] e)) := by
    simp only [execOp, List.map_toArray, List.map_cons, List.map_nil]
    generalize a.eval x0 = X0 at *
    generalize a.eval x1 = X1 at *
    generalize a.eval x2 = X2 at *
    generalize a.eval x3 = X3 at *
    generalize a.eval x4 = X4 at *
    simp [Instr.buildSlice, Instr.fill, Sem.run_bind, run_underlying hu, hs, hz, newRow, k0, k1, k2, k3, k4, hz1]
    have hr : Array.range 5 = #[0, 1, 2, 3, 4] := by decide
    simp [hr]
  rw [hrun]
  have h0 : ρ H.length = none := by have := hf 0 (by simp); simpa using this
  refine hq _ _ ⟨_, .one h0 (fun ρ' hl i y hy => ?_), w.heap.size, 0, by simp [upd], rfl⟩
  obtain ⟨hi, rfl⟩ := atS_ints1 hy
  match i, hi with
  | 0, _ => exact ⟨_, rfl, SV.rep_le hl r0, c0⟩
  | 1, _ => exact ⟨_, rfl, SV.rep_le hl r1, c1⟩
  | 2, _ => exact ⟨_, rfl, SV.rep_le hl r2, c2⟩
  | 3, _ => exact ⟨_, rfl, SV.rep_le hl r3, c3⟩
  | 4, _ => exact ⟨_, rfl, SV.rep_le hl r4, c4⟩
  | i + 5, hi => exact absurd hi (by omega)
theorem h_slice_hm {t e : TypeId} {x i j : Operand} {id base idx len cap h m : Nat} {k k' : IntKind} {n n' : Int} (hx : ev T x = .s (.slice id base idx len cap)) (hi : ev T i = .s (.int k n)) (hj : ev T j = .s (.int k' n')) (hn : n = (h : Int)) (hn' : n' = (m : Int)) (hu : P.underlying t = some (.slice e)) (hs : ∀ w, (sizeOf e).run P w = .ok 1 w) (h1 : h ≤ m) (h2 : m ≤ cap) :
    HOk P ⟨d, .slice t x none (some i) (some j), ty, pos, af, g⟩ T H (.s (.slice id base idx h m)) [] :=
  .pure fun W ρ a w _ ho => by
    subst hn; subst hn'
    have k1 := ho x (by simp [Op.operands])
    have k2 := ho i (by simp [Op.operands])
    have k3 := ho j (by simp [Op.operands])
    rw [hx] at k1
    rw [hi] at k2
    rw [hj] at k3
    simp only [AV.rep, SV.rep] at k2 k3
    obtain ⟨ad, e1, e2⟩ := sliced_rep (l := 0) (h := h) (m := m) k1
    have hr := sl_run (P := P) (w := w) (a := ad) hu hs (sb_hm (len := len) (k := k) (k' := k') h1 h2)
    refine ⟨sliced ad 0 h m 1, by simp [execOp, e1, k2, k3, Sem.run_bind, hr], ?_⟩
    have : (if m = 0 then idx else idx + 0) = idx := by split <;> rfl
    rw [this] at e2
    exact e2
theorem h_slice_lhm {t e : TypeId} {x i0 i j : Operand} {id base idx len cap l h m hl ml : Nat} {k0 k k' : IntKind} {n0 n n' : Int} (hx : ev T x = .s (.slice id base idx len cap)) (hi0 : ev T i0 = .s (.int k0 n0)) (hi : ev T i = .s (.int k n)) (hj : ev T j = .s (.int k' n')) (hn0 : n0 = (l : Int)) (hn : n = (h : Int)) (hn' : n' = (m : Int)) (hu : P.underlying t = some (.slice e)) (hs : ∀ w, (sizeOf e).run P w = .ok 1 w) (h0 : l ≤ h) (h1 : h ≤ m) (h2 : m ≤ cap) (h3 : l < m) (e1 : h - l = hl) (e2 : m - l = ml) :
    HOk P ⟨d, .slice t x (some i0) (some i) (some j), ty, pos, af, g⟩ T H (.s (.slice id base (idx + l) hl ml)) [] :=
  .pure fun W ρ a w _ ho => by
    subst hn0; subst hn; subst hn'; subst e1; subst e2
    have k1 := ho x (by simp [Op.operands])
    have k20 := ho i0 (by simp [Op.operands])
    have k2 := ho i (by simp [Op.operands])
    have k3 := ho j (by simp [Op.operands])
    rw [hx] at k1
    rw [hi0] at k20
    rw [hi] at k2
    rw [hj] at k3
    simp only [AV.rep, SV.rep] at k20 k2 k3
    obtain ⟨ad, e1, e2⟩ := sliced_rep (l := l) (h := h) (m := m) k1
    have hr := sl_run (P := P) (w := w) (a := ad) hu hs (sb_lhm (len := len) (k := k0) (k' := k) (k'' := k') h0 h1 h2)
    refine ⟨sliced ad l h m 1, by simp [execOp, e1, k20, k2, k3, Sem.run_bind, hr], ?_⟩
    rw [if_neg (by omega)] at e2
    exact e2
end rules
theorem ret_cell_tmp {E : Env} {fn : Func} {T : Tm} {H : Heap} {p id n j : Nat} {ty : TypeId} {k : Blk} {segs : List Seg} {v : SV} (hr : fn.results = #[.cell p ty, .tmp j]) (hp : look T p = .s (.ptr id 0 0)) (hb : H[id]? = some (some k)) (hs : SubS k.segs 0 n segs)
    (ha : ∀ w, (isAgg ty).run E.P w = .ok true w) (hz : ∀ w, (sizeOf ty).run E.P w = .ok n w) (h2 : look T j = .s v) : Ret E fn T H (.tup [.agg segs, .s v]) := by
  intro ρ a w hH hT
  have hx := hT p
  rw [hp] at hx
  obtain ⟨b, o, hρ, hx⟩ := hx
  obtain ⟨v1, h3, h4⟩ := run_load_sub (P := E.P) (hH.rep id b o k hρ hb).1 hs ha hz
  have e1 : a.tmps[p]?.getD undef = .pointer (some ⟨b, o, none⟩) := by simpa using hx
  have e2 := hT j
  rw [h2] at e2
  simp only [Nat.add_zero] at h3
  refine ⟨.tuple #[v1, a.tmps.getD j undef], by simp [results, hr, Sem.run_bind, e1, asAddr, h3], _, rfl, fun i x hx => ?_⟩
  match i, hx with
  | 0, hx => simp at hx; subst hx; exact ⟨v1, rfl, h4⟩
  | 1, hx => simp at hx; subst hx; exact ⟨_, rfl, e2⟩
  | i + 2, hx => simp at hx
end Go.Ab
