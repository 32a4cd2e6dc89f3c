/- Appending: to nothing, and on; slices whose room is not told. No program. -/
import Derived.Test.YtffflnpidipheaaAb32
import Derived.Laws.AppendOwn
set_option linter.unusedVariables false
set_option linter.unusedSimpArgs false
namespace Go.Ab
theorem zeroCells_rep (k : IntKind) (m : Nat) : Builtin.zeroCells #[Value.int k 0] m = (List.replicate m (Value.int k 0)).toArray := by
  apply Array.ext_getElem?
  intro i
  simp only [Builtin.zeroCells, Array.size_singleton, Nat.mul_one]
  rcases Nat.lt_or_ge i m with h | h
  · simp [h, Nat.mod_one]
  · rw [Array.getElem?_eq_none (by simp; omega), Array.getElem?_eq_none (by simp; omega)]
section rules
variable {P : Program} {T : Tm} {H : Heap} {d : Option Tmp} {ty : TypeId} {pos : String} {af : Array Edge} {g : Option (Nat × Bool)}
/-- What a slice of integers holds, as values behind an address. -/
theorem src_cells {ρ : Rho} {W : Nat → Prop} {w : World} {v : Value} {id2 base2 idx2 sl sc m2 : Nat} {k : IntKind} {bk2 : Blk} {ys : List Int} (hH : HRep W ρ H w) (hv : (SV.slice id2 base2 idx2 sl sc).rep ρ v) (hb2 : H[id2]? = some (some bk2)) (hs2 : segAt bk2.segs base2 = some (.ints k m2 ys)) (hfit2 : idx2 + sl ≤ m2) (hl2 : ys.length = m2) :
    ∃ ad, v = .slice (some ad) sl sc ∧ (((ys.drop idx2).take sl).map (Value.int k)).length = sl ∧ ∀ j u, (((ys.drop idx2).take sl).map (Value.int k))[j]? = some u → w.cell? (ad.add j) = some u := by
  obtain ⟨b2, o2, hρ2, rfl⟩ := hv
  obtain ⟨⟨cells2, tt2, fr2, q1, q2, q3⟩, _⟩ := hH.rep id2 b2 o2 _ hρ2 hb2
  refine ⟨_, rfl, by simp; omega, fun j u hj => ?_⟩
  simp only [List.getElem?_map, Option.map_eq_some_iff] at hj
  obtain ⟨y, hy, rfl⟩ := hj
  have hjl : j < sl := by
    have := (List.getElem?_eq_some_iff.1 hy).1
    simp at this; omega
  obtain ⟨v, hv, hc⟩ := q3 (base2 + (idx2 + j)) _ (segAt_at hs2 (idx2 + j) (by show idx2 + j < m2; omega))
  have hc : v = .int k (ys.getD (idx2 + j) 0) := hc.1
  subst hc
  have hv : cells2[o2 + (base2 + (idx2 + j))]? = some (.int k (ys.getD (idx2 + j) 0)) := hv
  have ey : ys.getD (idx2 + j) 0 = y := by
    rw [List.getElem?_take_of_lt hjl, List.getElem?_drop] at hy
    rw [List.getD_eq_getElem?_getD, hy]; rfl
  rw [ey] at hv
  rw [addr_add, show o2 + base2 + idx2 + j = o2 + (base2 + (idx2 + j)) by omega]
  simp [World.cell?, q1, hv]
theorem run_grow {w : World} {t e rt : TypeId} {inf : TypeInfo} {k : IntKind} {base : Option Addr} {sLen sCap sl sc : Nat} {olds news : List Int} {ad : Addr} (hu : P.underlying t = some (.slice e)) (hi : P.info? e = some inf) (hsz : inf.size = 1) (hz : inf.zero = some (.int k 0)) (hby : inf.bytes ≤ 8)
    (hold : (Builtin.firstCells 1 sLen (.slice base sLen sCap)).run P w.drew = .ok (olds.map (Value.int k)).toArray w.drew) (hol : olds.length = sLen) (hnl : news.length = sl) (hn : ∀ j u, (news.map (Value.int k))[j]? = some u → w.cell? (ad.add j) = some u) (hg : sCap < sLen + sl) (hm : sLen + sl ≤ 1000000) :
    ∃ cap, sLen + sl ≤ cap ∧ (Builtin.append_ #[t, t] rt #[.slice base sLen sCap, .slice (some ad) sl sc]).run P w = .ok (.slice (some ⟨w.heap.size, 0, none⟩) (sLen + sl) cap) (w.drew.alloc (.cells (rowOf k (olds ++ news) cap) e)) := by
  have hs : Src P inf.size t (.slice (some ad) sl sc) sl (news.map (Value.int k)) w := .ofSlice w hu ad sl sc _ (by simp [hsz, hnl]) hn (fun u h => by obtain ⟨_, _, rfl⟩ := List.mem_map.1 h; rfl)
  have hf : Builtin.nextslicecap (sLen + sl) sCap * inf.bytes ≤ 281474976710656 := growslice_fits hg (Nat.le_trans (Nat.mul_le_mul hm hby) (by omega))
  have hr := run_append_grow_src (P := P) w t t rt e inf _ hu hi hz base sLen sCap (olds.map (Value.int k)) (by rw [hsz]; exact hold) _ sl _ hs hg (by omega) hf
  refine ⟨grownCap w (sLen + sl) sCap e, grownCap_ge w _ _ _, ?_⟩
  rw [hr]
  have : (olds.map (Value.int k) ++ news.map (Value.int k)).toArray ++ Builtin.zeroCells (Value.int k 0).cells (grownCap w (sLen + sl) sCap e - (sLen + sl)) = rowOf k (olds ++ news) (grownCap w (sLen + sl) sCap e) := by
    have e1 : (Value.int k 0).cells = #[Value.int k 0] := rfl
    rw [e1, zeroCells_rep, rowOf, List.map_append, List.length_append, hol, hnl]
    apply Array.ext'
    simp
  rw [this]
theorem h_mine {x y : Operand} {t e rt : TypeId} {id2 base2 idx2 sl sc m2 : Nat} {k : IntKind} {bk2 : Blk} {ys B : List Int} {inf : TypeInfo} (hx : ev T x = .s .nils) (hy : ev T y = .s (.slice id2 base2 idx2 sl sc)) (hb2 : H[id2]? = some (some bk2)) (hs2 : segAt bk2.segs base2 = some (.ints k m2 ys)) (hl2 : ys.length = m2) (hfit2 : idx2 + sl ≤ m2) (hB : (ys.drop idx2).take sl = B) (h0 : 0 < sl) (hsl : sl ≤ 1000000)
    (hu : P.underlying t = some (.slice e)) (hi : P.info? e = some inf) (hsz : inf.size = 1) (hz : inf.zero = some (.int k 0)) (hby : inf.bytes ≤ 8) : MakesOwn P ⟨d, .call ⟨.builtin .append, #[x, y], #[t, t]⟩, rt, pos, af, none⟩ T H sl k e B := by
  subst hB
  refine ⟨rfl, fun W ρ a w hH ho next Q hq => ?_⟩
  have h1 : (ev T x).rep ρ (a.eval x) := ho x (by simp [Op.operands, Call.operands])
  have h2 : (ev T y).rep ρ (a.eval y) := ho y (by simp [Op.operands, Call.operands])
  rw [hx] at h1
  rw [hy] at h2
  simp only [AV.rep, SV.rep] at h1
  obtain ⟨ad, e2, _, hn⟩ := src_cells hH h2 hb2 hs2 hfit2 hl2
  obtain ⟨cap, hcap, hr⟩ := run_grow (P := P) (rt := rt) (base := none) (sLen := 0) (sCap := 0) (sl := sl) (sc := sc) (olds := []) (news := (ys.drop idx2).take sl) hu hi hsz hz hby (by rw [run_firstCells_none]; rfl) rfl (by simp; omega) hn (by omega) (by omega)
  rw [Nat.zero_add] at hr hcap
  rw [List.nil_append] at hr
  have hrun : (execOp a.eval ⟨d, .call ⟨.builtin .append, #[x, y], #[t, t]⟩, rt, pos, af, none⟩).run P w = .ok (.value (.slice (some ⟨w.heap.size, 0, none⟩) sl cap)) (w.drew.alloc (.cells (rowOf k ((ys.drop idx2).take sl) cap) e)) := by
    simp only [execOp, resolve, invoke, builtin, List.map_toArray, List.map_cons, List.map_nil, h1, e2]
    simp [Sem.run_bind, hr]
  rw [hrun]
  exact hq cap hcap
theorem h_goes {y : Operand} {t e rt : TypeId} {d0 n id2 base2 idx2 sl sc m2 : Nat} {k : IntKind} {bk2 : Blk} {ys B C : List Int} {inf : TypeInfo} (hBl : B.length = n) (hy : ev T y = .s (.slice id2 base2 idx2 sl sc)) (hb2 : H[id2]? = some (some bk2)) (hs2 : segAt bk2.segs base2 = some (.ints k m2 ys)) (hl2 : ys.length = m2) (hfit2 : idx2 + sl ≤ m2) (hC : (ys.drop idx2).take sl = C) (h0 : 0 < n) (hsl : n + sl ≤ 1000000)
    (hu : P.underlying t = some (.slice e)) (hi : P.info? e = some inf) (hsz : inf.size = 1) (hz : inf.zero = some (.int k 0)) (hby : inf.bytes ≤ 8) : GoesOn P ⟨d, .call ⟨.builtin .append, #[.tmp d0, y], #[t, t]⟩, rt, pos, af, none⟩ d0 T H n k e B C := by
  subst hC
  refine ⟨rfl, fun W ρ a w b cap hH ho m1 m2' m3 m6 next Q hq => ?_⟩
  have h2 : (ev T y).rep ρ (a.eval y) := ho y (by simp [Op.operands, Call.operands])
  rw [hy] at h2
  obtain ⟨ad, e2, hzl, hn⟩ := src_cells hH h2 hb2 hs2 hfit2 hl2
  have hCl : ((ys.drop idx2).take sl).length = sl := by simpa using hzl
  rw [hCl] at hq
  have h1 : a.eval (.tmp d0) = .slice (some ⟨b, 0, none⟩) n cap := m1
  have hbs : b < w.heap.size := (Array.getElem?_eq_some_iff.1 m3).1
  have hrow : (rowOf k B cap).size = cap := by simp [rowOf, hBl]; omega
  rcases Nat.lt_or_ge cap (n + sl) with hg | hg
  · have hold : (Builtin.firstCells 1 n (.slice (some ⟨b, 0, none⟩) n cap)).run P w.drew = .ok (B.map (Value.int k)).toArray w.drew := by
      refine run_firstCells_some w.drew 1 n ⟨b, 0, none⟩ n cap _ (by simp [hBl]) fun j v hj => ?_
      have hj' : j < B.length := by have := (List.getElem?_eq_some_iff.1 hj).1; simpa using this
      rw [addr_add, Nat.zero_add]
      have m3' : w.drew.heap[b]? = some (.cells (rowOf k B cap) e (0, 0)) := m3
      simp only [World.cell?, m3']
      simp only [rowOf, List.getElem?_toArray]
      rw [List.getElem?_append_left (by simpa using hj'), hj]
      simp
    obtain ⟨cap', hcap', hr⟩ := run_grow (P := P) (rt := rt) (sl := sl) (sc := sc) (news := (ys.drop idx2).take sl) hu hi hsz hz hby hold hBl hCl hn hg hsl
    have hrun : (execOp a.eval ⟨d, .call ⟨.builtin .append, #[.tmp d0, y], #[t, t]⟩, rt, pos, af, none⟩).run P w = .ok (.value (.slice (some ⟨w.heap.size, 0, none⟩) (n + sl) cap')) (w.drew.alloc (.cells (rowOf k (B ++ (ys.drop idx2).take sl) cap') e)) := by
      simp only [execOp, resolve, invoke, builtin, List.map_toArray, List.map_cons, List.map_nil, h1, e2]
      simp [Sem.run_bind, hr]
    rw [hrun]
    refine hq w.heap.size cap' _ ⟨hcap', (Array.getElem?_eq_some_iff.1 (heap_alloc_new w.drew (.cells (rowOf k (B ++ (ys.drop idx2).take sl) cap') e))).1, ⟨_, e, heap_alloc_new w.drew _, fun i hi => ?_⟩, .inr rfl, (ext_drew w (.cells (rowOf k (B ++ (ys.drop idx2).take sl) cap') e)).size, fun j hj _ => (ext_drew w _).block j hj, rfl, rfl, rfl⟩
    have hil : i < (B ++ (ys.drop idx2).take sl).length := by rw [List.length_append, hBl, hCl]; exact hi
    simp only [rowOf, List.getElem?_toArray]
    rw [List.getElem?_append_left (by simpa using hil), List.getElem?_map, List.getD_eq_getElem?_getD, List.getElem?_eq_getElem hil]
    rfl
  · have hr := run_append_room (P := P) w t rt e inf hu hi b n cap (rowOf k B cap) m3 ad sl sc (((ys.drop idx2).take sl).map (Value.int k)) (by rw [hzl, hsz, Nat.mul_one]) hn (fun u h => by obtain ⟨_, _, rfl⟩ := List.mem_map.1 h; rfl) hg (by rw [hsz, hzl, hrow]; omega)
    rw [hsz, Nat.mul_one] at hr
    have htake : (rowOf k B cap).toList.take n = B.map (Value.int k) := by
      simp only [rowOf]
      rw [List.take_append_of_le_length (by simp [hBl]), List.take_of_length_le (by simp [hBl])]
    rw [htake] at hr
    generalize hrow2 : (B.map (Value.int k) ++ ((ys.drop idx2).take sl).map (Value.int k) ++ (rowOf k B cap).toList.drop (n + (((ys.drop idx2).take sl).map (Value.int k)).length)).toArray = row2 at hr
    have hrun : (execOp a.eval ⟨d, .call ⟨.builtin .append, #[.tmp d0, y], #[t, t]⟩, rt, pos, af, none⟩).run P w = .ok (.value (.slice (some ⟨b, 0, none⟩) (n + sl) cap)) (w.setRow b row2) := by
      simp only [execOp, resolve, invoke, builtin, List.map_toArray, List.map_cons, List.map_nil, h1, e2]
      simp [Sem.run_bind, hr]
    rw [hrun]
    refine hq b cap _ ⟨hg, by simpa using hbs, ⟨row2, e, setRow_heap w b _ _ _ _ m3, fun i hi => ?_⟩, .inl rfl, by simp, fun j hj hne => setRow_other _ _ _ _ hne, rfl, rfl, rfl⟩
    have hil : i < (B ++ (ys.drop idx2).take sl).length := by rw [List.length_append, hBl, hCl]; exact hi
    rw [← hrow2, List.getElem?_toArray, ← List.map_append, List.getElem?_append_left (by simpa using hil), List.getElem?_map, List.getD_eq_getElem?_getD, List.getElem?_eq_getElem hil]
    rfl
theorem New.drew {ρ : Rho} {n : Nat} {k : Blk} {w : World} {cells : Array Value} {t : TypeId} (h : ρ n = none) (hr : ∀ ρ', Rle ρ ρ' → RowRep ρ' k.segs (fun i => cells[i]?)) : New ρ (upd ρ n w.heap.size) n [k] w (w.drew.alloc (.cells cells t)) :=
  let N := New.one (w := w.drew) (t := t) h hr
  ⟨N.le, ext_drew _ _, N.old, N.rep, N.apart⟩
/-- Something appended to nothing. -/
theorem h_app_new {x y : Operand} {t e rt : TypeId} {id2 base2 idx2 sl sc m2 n0 : Nat} {k : IntKind} {bk2 : Blk} {ys B : List Int} {inf : TypeInfo} (hx : ev T x = .s .nils) (hy : ev T y = .s (.slice id2 base2 idx2 sl sc)) (hb2 : H[id2]? = some (some bk2)) (hs2 : segAt bk2.segs base2 = some (.ints k m2 ys)) (hl2 : ys.length = m2) (hfit2 : idx2 + sl ≤ m2) (hB : (ys.drop idx2).take sl = B) (h0 : 0 < sl) (hsl : sl ≤ 1000000)
    (hu : P.underlying t = some (.slice e)) (hi : P.info? e = some inf) (hsz : inf.size = 1) (hz : inf.zero = some (.int k 0)) (hby : inf.bytes ≤ 8) (hn : H.length = n0) : HOk P ⟨d, .call ⟨.builtin .append, #[x, y], #[t, t]⟩, rt, pos, af, none⟩ T H (.s (.slx n0 0 0 sl)) [⟨true, [.ints k sl B]⟩] := by
  subst hn
  intro W ρ a w hH hf ho next Q hq
  refine (h_mine (d := d) (rt := rt) (pos := pos) (af := af) hx hy hb2 hs2 hl2 hfit2 hB h0 hsl hu hi hsz hz hby).2 W ρ a w hH ho next Q fun cap hcap => ?_
  have hBl : B.length = sl := by subst hB; simp; omega
  have hN : ρ H.length = none := by have := hf 0 (by simp); simpa using this
  refine hq _ _ ⟨_, New.drew hN fun ρ' _ i z hz => ?_, w.heap.size, 0, cap, by simp [upd], rfl, hcap⟩
  obtain ⟨hi', rfl⟩ := atS_ints1 hz
  refine ⟨_, ?_, rfl, rfl⟩
  have hil : i < B.length := by omega
  simp only [rowOf, List.getElem?_toArray]
  rw [List.getElem?_append_left (by simpa using hil), List.getElem?_map, List.getD_eq_getElem?_getD, List.getElem?_eq_getElem hil]
  rfl
/-- Nothing appended. -/
theorem h_app_same {x y : Operand} {t e rt : TypeId} {id base idx dl : Nat} {u : SV} {inf : TypeInfo} (hx : ev T x = .s (.slx id base idx dl)) (hy : ev T y = .s u) (hu0 : u = .nils ∨ ∃ ad c, u = .val (.slice ad 0 c)) (hu : P.underlying t = some (.slice e)) (hi : P.info? e = some inf) (hsz : inf.size = 1) :
    HOk P ⟨d, .call ⟨.builtin .append, #[x, y], #[t, t]⟩, rt, pos, af, g⟩ T H (.s (.slx id base idx dl)) [] :=
  .pure fun W ρ a w _ ho => by
    have h1 : (ev T x).rep ρ (a.eval x) := ho x (by simp [Op.operands, Call.operands])
    have h2 : (ev T y).rep ρ (a.eval y) := ho y (by simp [Op.operands, Call.operands])
    rw [hx] at h1
    rw [hy] at h2
    have h1' := h1
    obtain ⟨b, o, cap, hρ, e1, hc⟩ := h1
    have e2 : ∃ ad c, a.eval y = .slice ad 0 c := by
      rcases hu0 with rfl | ⟨ad, c, rfl⟩
      · exact ⟨none, 0, h2⟩
      · exact ⟨ad, c, h2.1⟩
    obtain ⟨ad, c, e2⟩ := e2
    refine ⟨a.eval x, ?_, h1'⟩
    simp only [execOp, resolve, invoke, builtin, List.map_toArray, List.map_cons, List.map_nil, e1, e2]
    cases ad <;> simp [Builtin.append_, Sem.run_bind, run_underlying hu, sizeOf, typeInfo, hi, hsz, Builtin.lenOf, hc, Builtin.firstCells, loadCells, loadCellsFrom, storeCells]
theorem h_app_00 {x y : Operand} {t e rt : TypeId} {u : SV} {inf : TypeInfo} (hx : ev T x = .s .nils) (hy : ev T y = .s u) (hu0 : u = .nils ∨ ∃ ad c, u = .val (.slice ad 0 c)) (hu : P.underlying t = some (.slice e)) (hi : P.info? e = some inf) (hsz : inf.size = 1) :
    HOk P ⟨d, .call ⟨.builtin .append, #[x, y], #[t, t]⟩, rt, pos, af, g⟩ T H (.s .nils) [] :=
  .pure fun W ρ a w _ ho => by
    have h1 : (ev T x).rep ρ (a.eval x) := ho x (by simp [Op.operands, Call.operands])
    have h2 : (ev T y).rep ρ (a.eval y) := ho y (by simp [Op.operands, Call.operands])
    rw [hx] at h1
    rw [hy] at h2
    simp only [AV.rep, SV.rep] at h1
    have e2 : ∃ ad c, a.eval y = .slice ad 0 c := by
      rcases hu0 with rfl | ⟨ad, c, rfl⟩
      · exact ⟨none, 0, h2⟩
      · exact ⟨ad, c, h2.1⟩
    obtain ⟨ad, c, e2⟩ := e2
    refine ⟨.slice none 0 0, ?_, rfl⟩
    simp only [execOp, resolve, invoke, builtin, List.map_toArray, List.map_cons, List.map_nil, h1, e2]
    cases ad <;> simp [Builtin.append_, Sem.run_bind, run_underlying hu, sizeOf, typeInfo, hi, hsz, Builtin.lenOf, Builtin.firstCells, loadCells, loadCellsFrom]
end rules
/-- A slice whose room is not told is one of some room. -/
theorem acall_slx {P : Program} {f : FuncId} {H : Heap} {pre post : List AV} {id base idx len : Nat} {v : AV} {nb : List Blk} (h : ∀ cap, len ≤ cap → ACall P f H (pre ++ .s (.slice id base idx len cap) :: post) v nb) : ACall P f H (pre ++ .s (.slx id base idx len) :: post) v nb := by
  intro W ρ vals w hH hn hargs
  have hi : (pre ++ AV.s (.slx id base idx len) :: post)[pre.length]? = some (.s (.slx id base idx len)) := by simp
  obtain ⟨hsz, hall⟩ := hargs
  have hv := hall pre.length _ hi
  obtain ⟨b, o, cap, hρ, he, hc⟩ := hv
  refine h cap hc W ρ vals w hH hn ⟨by simpa using hsz, fun i x hx => ?_⟩
  by_cases e : i = pre.length
  · subst e
    simp at hx
    subst hx
    exact ⟨b, o, hρ, he⟩
  · refine hall i x ?_
    rcases Nat.lt_or_ge i pre.length with h1 | h1
    · rwa [List.getElem?_append_left h1] at hx ⊢
    · rw [List.getElem?_append_right h1] at hx ⊢
      obtain ⟨j, hj⟩ : ∃ j, i - pre.length = j + 1 := ⟨i - pre.length - 1, by omega⟩
      rw [hj] at hx ⊢
      simpa using hx
/-! Short forms -/
def TX (P : Program) (ops : Array Oper) (j0 k0 d0 n : Nat) (kk : IntKind) (ee : TypeId) (B C : List Int) (l : List Oper) (i : Nat) (T : Tm) (H : Heap) (F : Tm → Heap → Prop) : Prop := ∃ T1 H1, XSteps P ops j0 k0 d0 n kk ee B C l i T H T1 H1 ∧ F T1 H1
section steps
variable {P : Program} {ops : Array Oper} {j0 k0 d0 n : Nat} {kk : IntKind} {ee : TypeId} {B C : List Int} {T : Tm} {H : Heap} {ty : TypeId} {pos : String} {af : Array Edge} {r : List Oper} {op : Op} {d i : Nat} {F : Tm → Heap → Prop}
theorem x_nil (h : F T H) : TX P ops j0 k0 d0 n kk ee B C [] i T H F := ⟨T, H, .nil, h⟩
theorem x_p {v : AV} (hj : Nat.beq i j0 = false) (hk : Nat.beq i k0 = false) (h : HOk P ⟨some d, op, ty, pos, af, none⟩ T H v []) (k : TX P ops j0 k0 d0 n kk ee B C r (i + 1) ((d, v) :: T) H F) : TX P ops j0 k0 d0 n kk ee B C (⟨some d, op, ty, pos, af, none⟩ :: r) i T H F :=
  let ⟨T', H', k1, k2⟩ := k
  ⟨T', H', .cons (fun e => by subst e; simp at hj) (fun e => by subst e; simp at hk) (.free rfl) h (by simpa [put] using k1), k2⟩
theorem x_a {v : AV} {b : Blk} {H1 : Heap} (hj : Nat.beq i j0 = false) (hk : Nat.beq i k0 = false) (h : HOk P ⟨some d, op, ty, pos, af, none⟩ T H v [b]) (e : H ++ [some b] = H1) (k : TX P ops j0 k0 d0 n kk ee B C r (i + 1) ((d, v) :: T) H1 F) : TX P ops j0 k0 d0 n kk ee B C (⟨some d, op, ty, pos, af, none⟩ :: r) i T H F :=
  let ⟨T', H', k1, k2⟩ := k
  ⟨T', H', .cons (fun e => by subst e; simp at hj) (fun e => by subst e; simp at hk) (.free rfl) h (by subst e; simpa [put] using k1), k2⟩
theorem x_own (h : MakesOwn P ⟨some d0, op, ty, pos, af, none⟩ T H n kk ee B) (k : TX P ops j0 k0 d0 n kk ee B C r (j0 + 1) ((d0, .s .junk) :: T) H F) : TX P ops j0 k0 d0 n kk ee B C (⟨some d0, op, ty, pos, af, none⟩ :: r) j0 T H F :=
  let ⟨T', H', k1, k2⟩ := k
  ⟨T', H', .own rfl h k1, k2⟩
theorem x_goes {H1 : Heap} {nl : Nat} (h : GoesOn P ⟨some d, op, ty, pos, af, none⟩ d0 T H n kk ee B C) (hn : n + C.length = nl) (e : H ++ [some ⟨true, [.ints kk nl (B ++ C)]⟩] = H1) (k : TX P ops j0 k0 d0 n kk ee B C r (k0 + 1) ((d, .s (.slx H.length 0 0 nl)) :: T) H1 F) : TX P ops j0 k0 d0 n kk ee B C (⟨some d, op, ty, pos, af, none⟩ :: r) k0 T H F :=
  let ⟨T', H', k1, k2⟩ := k
  ⟨T', H', .goes h (by subst hn; subst e; simpa [put] using k1), k2⟩
end steps
theorem c_app {E : Env} {T : Tm} {H : Heap} {Q : Exit → Tm → Heap → Prop} {id : Nat} {ops : Array Oper} (m j0 k0 d0 n : Nat) (kk : IntKind) (ee : TypeId) (B C : List Int) {l1 l2 : List Oper} (hmix : E.P.follows .mixedOrders = true) (hok : regionOk E.n ops = true) (hany : anyOk ops m = true) (hl1 : ops.toList.take m = l1) (hl2 : ops.toList.drop m = l2) (hm : l1.length = m) (hj0 : j0 < k0) (hk0 : k0 < m) (hcon : ((reach ops).getD k0 0).testBit j0 = true)
    (h : TX E.P ops j0 k0 d0 n kk ee B C l1 0 T H fun T1 H1 => SK E.P ops l2 T1 H1 (Q .normal)) : Wp E (.region id ops true) T H Q :=
  let ⟨_, _, k1, T', H', k2, k3⟩ := h
  fun _ _ hr => region_app hmix hok hany (by rw [← hl1, ← hl2, List.take_append_drop]) hm hj0 hk0 hcon k1 k2 hr fun _ _ hr' => ⟨T', H', k3, hr'⟩
end Go.Ab
