/- More rules: slices cut, '==' of two booleans. No program. -/
import Derived.Test.YtffflnpidipheaaAb13
namespace Go.Ab
section rules
variable {P : Program} {T : Tm} {H : Heap} {d : Option Tmp} {ty : TypeId} {pos : String} {af : Array Edge} {g : Option (Nat × Bool)}
theorem run_equalIn_bool (w : World) (n : Nat) {t : TypeId} (p q : Bool) (hu : P.underlying t = some .bool) : (Op.equalIn (n + 1) t (.bool p) (.bool q)).run P w = .ok (p == q) w := by
  simp [Op.equalIn, run_underlying hu]
theorem h_eqlb {t tyy : TypeId} {x y : Operand} {p q r : Bool} (hx : ev T x = .s (.bool p)) (hy : ev T y = .s (.bool q)) (hu : P.underlying t = some .bool) (hr : (p == q) = r) : HOk P ⟨d, .binOp .eql t x y tyy, ty, pos, af, g⟩ T H (.s (.bool r)) [] :=
  .pure fun W ρ a w _ ho => by
    obtain ⟨h1, h2⟩ := two (op := .binOp .eql t x y tyy) rfl ho hx hy
    simp only [AV.rep, SV.rep] at h1 h2
    exact ⟨.bool r, by simp [execOp, h1, h2, Sem.run_bind, eqGuard, binOp, Op.equal, Op.maxDepth, run_equalIn_bool w 9999 _ _ hu, hr], rfl⟩
theorem sl_run {w : World} {t e : TypeId} {a : Option Addr} {len cap l h m : Nat} {lo hi mx : Option Value} (hu : P.underlying t = some (.slice e)) (hs : ∀ w, (sizeOf e).run P w = .ok 1 w)
    (hb : (Instr.sliceBounds true len cap lo hi mx).run P w = .ok (l, h, m) w) : (Instr.sliceAt t (.slice a len cap) lo hi mx).run P w = .ok (sliced a l h m 1) w := by
  simp [Instr.sliceAt, Instr.slice, Sem.run_bind, run_underlying hu, hb, hs, sliced]
theorem sb_h {w : World} {len cap h : Nat} {k : IntKind} (h1 : h ≤ cap) : (Instr.sliceBounds true len cap none (some (.int k (h : Int))) none).run P w = .ok (0, h, cap) w := by
  simp [Instr.sliceBounds, Sem.run_bind, run_sliceBound w k (h : Int) cap _ (by omega) (by omega)]
theorem sb_l {w : World} {len cap l : Nat} {k : IntKind} (h1 : l ≤ len) : (Instr.sliceBounds true len cap (some (.int k (l : Int))) none none).run P w = .ok (l, len, cap) w := by
  simp [Instr.sliceBounds, Sem.run_bind, run_sliceBound w k (l : Int) len _ (by omega) (by omega)]
theorem sb_lh {w : World} {len cap l h : Nat} {k k' : IntKind} (h1 : l ≤ h) (h2 : h ≤ cap) : (Instr.sliceBounds true len cap (some (.int k (l : Int))) (some (.int k' (h : Int))) none).run P w = .ok (l, h, cap) w := by
  simp [Instr.sliceBounds, Sem.run_bind, run_sliceBound w k (l : Int) h _ (by omega) (by omega), run_sliceBound w k' (h : Int) cap _ (by omega) (by omega)]
theorem sb_hm {w : World} {len cap h m : Nat} {k k' : IntKind} (h1 : h ≤ m) (h2 : m ≤ cap) : (Instr.sliceBounds true len cap none (some (.int k (h : Int))) (some (.int k' (m : Int)))).run P w = .ok (0, h, m) w := by
  simp [Instr.sliceBounds, Sem.run_bind, run_sliceBound w k (h : Int) m _ (by omega) (by omega), run_sliceBound w k' (m : Int) cap _ (by omega) (by omega)]
theorem sb_lhm {w : World} {len cap l h m : Nat} {k k' k'' : IntKind} (h0 : l ≤ h) (h1 : h ≤ m) (h2 : m ≤ cap) : (Instr.sliceBounds true len cap (some (.int k (l : Int))) (some (.int k' (h : Int))) (some (.int k'' (m : Int)))).run P w = .ok (l, h, m) w := by
  simp [Instr.sliceBounds, Sem.run_bind, run_sliceBound w k (l : Int) h _ (by omega) (by omega), run_sliceBound w k' (h : Int) m _ (by omega) (by omega), run_sliceBound w k'' (m : Int) cap _ (by omega) (by omega)]
theorem sliced_rep {ρ : Rho} {id base idx len cap l h m : Nat} {v : Value} (hr : (SV.slice id base idx len cap).rep ρ v) : ∃ a, v = .slice a len cap ∧ (SV.slice id base (if m = l then idx else idx + l) (h - l) (m - l)).rep ρ (sliced a l h m 1) := by
  obtain ⟨b, o, h1, rfl⟩ := hr
  refine ⟨_, rfl, b, o, h1, ?_⟩
  unfold sliced
  by_cases e : m = l
  · simp [e]
  · simp only [if_neg e, Option.map_some, Nat.mul_one, addr_add, Nat.add_assoc]
theorem h_slice_h {t e : TypeId} {x i : Operand} {id base idx len cap h : Nat} {k : IntKind} {n : Int} (hx : ev T x = .s (.slice id base idx len cap)) (hi : ev T i = .s (.int k n)) (hn : n = (h : Int)) (hu : P.underlying t = some (.slice e)) (hs : ∀ w, (sizeOf e).run P w = .ok 1 w) (h1 : h ≤ cap) :
    HOk P ⟨d, .slice t x none (some i) none, ty, pos, af, g⟩ T H (.s (.slice id base idx h cap)) [] :=
  .pure fun W ρ a w _ ho => by
    subst hn
    have k1 := ho x (by simp [Op.operands])
    have k2 := ho i (by simp [Op.operands])
    rw [hx] at k1
    rw [hi] at k2
    simp only [AV.rep, SV.rep] at k2
    obtain ⟨ad, e1, e2⟩ := sliced_rep (l := 0) (h := h) (m := cap) k1
    have hr := sl_run (P := P) (w := w) (a := ad) hu hs (sb_h (len := len) (k := k) h1)
    refine ⟨sliced ad 0 h cap 1, by simp [execOp, e1, k2, Sem.run_bind, hr], ?_⟩
    have : (if cap = 0 then idx else idx + 0) = idx := by split <;> rfl
    rw [this] at e2
    exact e2
theorem h_slice_hn {t e : TypeId} {x i : Operand} {k : IntKind} {n : Int} (hx : ev T x = .s .nils) (hi : ev T i = .s (.int k n)) (hn : n = 0) (hu : P.underlying t = some (.slice e)) (hs : ∀ w, (sizeOf e).run P w = .ok 1 w) :
    HOk P ⟨d, .slice t x none (some i) none, ty, pos, af, g⟩ T H (.s .nils) [] :=
  .pure fun W ρ a w _ ho => by
    subst hn
    have k1 := ho x (by simp [Op.operands])
    have k2 := ho i (by simp [Op.operands])
    rw [hx] at k1
    rw [hi] at k2
    simp only [AV.rep, SV.rep] at k1 k2
    have hr : (Instr.sliceAt t (.slice none 0 0) none (some (.int k 0)) none).run P w = .ok (sliced none 0 0 0 1) w := sl_run hu hs (sb_h (h := 0) (by omega))
    exact ⟨.slice none 0 0, (by simp [execOp, k1, k2, Sem.run_bind, hr]; rfl), rfl⟩
theorem h_slice_hv {t e : TypeId} {x i : Operand} {k : IntKind} {n : Int} {ad : Option Addr} {c : Nat} (hx : ev T x = .s (.val (.slice ad 0 c))) (hi : ev T i = .s (.int k n)) (hn : n = 0) (hu : P.underlying t = some (.slice e)) (hs : ∀ w, (sizeOf e).run P w = .ok 1 w) :
    HOk P ⟨d, .slice t x none (some i) none, ty, pos, af, g⟩ T H (.s (.val (.slice ad 0 c))) [] :=
  .pure fun W ρ a w _ ho => by
    subst hn
    have k1 := ho x (by simp [Op.operands])
    have k2 := ho i (by simp [Op.operands])
    rw [hx] at k1
    rw [hi] at k2
    simp only [AV.rep, SV.rep] at k1 k2
    have hr : (Instr.sliceAt t (.slice ad 0 c) none (some (.int k 0)) none).run P w = .ok (sliced ad 0 0 c 1) w := sl_run hu hs (sb_h (h := 0) (by omega))
    have : sliced ad 0 0 c 1 = .slice ad 0 c := by
      unfold sliced
      cases ad <;> simp [Addr.add]
    rw [this] at hr
    exact ⟨.slice ad 0 c, by simp [execOp, k1.1, k2, Sem.run_bind, hr], rfl, rfl⟩
theorem h_slice_l {t e : TypeId} {x i : Operand} {id base idx len cap l : Nat} {k : IntKind} {n : Int} (hx : ev T x = .s (.slice id base idx len cap)) (hi : ev T i = .s (.int k n)) (hn : n = (l : Int)) (hu : P.underlying t = some (.slice e)) (hs : ∀ w, (sizeOf e).run P w = .ok 1 w) (h1 : l ≤ len) :
    HOk P ⟨d, .slice t x (some i) none none, ty, pos, af, g⟩ T H (.s (.slice id base (if cap = l then idx else idx + l) (len - l) (cap - l))) [] :=
  .pure fun W ρ a w _ ho => by
    subst hn
    have k1 := ho x (by simp [Op.operands])
    have k2 := ho i (by simp [Op.operands])
    rw [hx] at k1
    rw [hi] at k2
    simp only [AV.rep, SV.rep] at k2
    obtain ⟨ad, e1, e2⟩ := sliced_rep (l := l) (h := len) (m := cap) k1
    have hr := sl_run (P := P) (w := w) (a := ad) hu hs (sb_l (cap := cap) (k := k) h1)
    exact ⟨sliced ad l len cap 1, by simp [execOp, e1, k2, Sem.run_bind, hr], e2⟩
theorem h_slice_l2 {t e : TypeId} {x i : Operand} {id base idx len cap l : Nat} {k : IntKind} {n : Int} (hx : ev T x = .s (.slice id base idx len cap)) (hi : ev T i = .s (.int k n)) (hn : n = (l : Int)) (hu : P.underlying t = some (.slice e)) (hs : ∀ w, (sizeOf e).run P w = .ok 1 w) (h1 : l ≤ len) (h2 : l < cap) :
    HOk P ⟨d, .slice t x (some i) none none, ty, pos, af, g⟩ T H (.s (.slice id base (idx + l) (len - l) (cap - l))) [] := by
  have := h_slice_l (d := d) (ty := ty) (pos := pos) (af := af) (g := g) (H := H) hx hi hn hu hs h1
  rwa [if_neg (by omega)] at this
theorem h_slice_l' {t e : TypeId} {x i : Operand} {id base idx len cap l n' : Nat} {k : IntKind} {n : Int} (hx : ev T x = .s (.slice id base idx len cap)) (hi : ev T i = .s (.int k n)) (hn : n = (l : Int)) (hn' : len - l = n') (hu : P.underlying t = some (.slice e)) (hs : ∀ w, (sizeOf e).run P w = .ok 1 w) (h1 : l ≤ len) :
    HOk P ⟨d, .slice t x (some i) none none, ty, pos, af, g⟩ T H (.s (.slice id base (if cap = l then idx else idx + l) n' (cap - l))) [] := by
  subst hn'
  exact h_slice_l hx hi hn hu hs h1
end rules
section steps
variable {P : Program} {ops : Array Oper} {T : Tm} {H : Heap} {ty : TypeId} {pos : String} {af : Array Edge} {r l2 : List Oper} {op : Op} {d : Nat} {K : Tm → Heap → Prop}
theorem s_on_a {j t : Nat} {b B : Bool} {v : AV} {nb : Blk} {H1 : Heap} (ht : (ops[j]?).bind (·.dst) = some t) (hv : look T t = .s (.bool B)) (hB : B = b) (h : HOk P ⟨some d, op, ty, pos, af, some (j, b)⟩ T H v [nb]) (e : H ++ [some nb] = H1) (k : SK P ops r ((d, v) :: T) H1 K) : SK P ops (⟨some d, op, ty, pos, af, some (j, b)⟩ :: r) T H K :=
  let ⟨T', H', k1, k2⟩ := k
  ⟨T', H', .cons (.on rfl ht hv hB) h (by subst e; simpa [put] using k1), k2⟩
theorem t_on_a {j t : Nat} {b B : Bool} {v : AV} {nb : Blk} {H1 : Heap} (ht : (ops[j]?).bind (·.dst) = some t) (hv : look T t = .s (.bool B)) (hB : B = b) (h : HOk P ⟨some d, op, ty, pos, af, some (j, b)⟩ T H v [nb]) (e : H ++ [some nb] = H1) (k : TK P ops r ((d, v) :: T) H1 l2 K) : TK P ops (⟨some d, op, ty, pos, af, some (j, b)⟩ :: r) T H l2 K :=
  let ⟨T', H', k1, k2⟩ := k
  ⟨T', H', .cons (.on rfl ht hv hB) h (by subst e; simpa [put] using k1), k2⟩
end steps
theorem foot2 {H0 H : Heap} {id sh id2 sh2 : Nat} {segs segs2 : List Seg} {b b2 : Blk} (hl : segs.all (Seg.lowB 0) = true) (hl2 : segs2.all (Seg.lowB 0) = true) (hb : H[id]? = some (some b)) (hb2 : H[id2]? = some (some b2)) (hs : ∀ i x, atS segs i = some x → atS b.segs (sh + i) = some x) (hs2 : ∀ i x, atS segs2 i = some x → atS b2.segs (sh2 + i) = some x) (e : H0 = [some ⟨false, segs⟩, some ⟨false, segs2⟩]) :
    ∀ (k id' sh' : Nat) (b0 : Blk), [(id, sh), (id2, sh2)][k]? = some (id', sh') → H0[k]? = some (some b0) → b0.rw = false ∧ b0.segs.all (Seg.lowB 0) = true ∧ ∃ b : Blk, H[id']? = some (some b) ∧ ∀ i x, atS b0.segs i = some x → atS b.segs (sh' + i) = some x := by
  subst e
  intro k id' sh' b0 h1 h2
  match k, h1, h2 with
  | 0, h1, h2 => simp at h1 h2; obtain ⟨rfl, rfl⟩ := h1; subst h2; exact ⟨rfl, hl, b, hb, hs⟩
  | 1, h1, h2 => simp at h1 h2; obtain ⟨rfl, rfl⟩ := h1; subst h2; exact ⟨rfl, hl2, b2, hb2, hs2⟩
  | k + 2, h1, _ => simp at h1
/-- Of a block nothing is asked. -/
theorem foot_none {H : Heap} {id sh : Nat} : ∀ (k id' sh' : Nat) (b0 : Blk), [(id, sh)][k]? = some (id', sh') → ([none] : Heap)[k]? = some (some b0) → b0.rw = false ∧ b0.segs.all (Seg.lowB 0) = true ∧ ∃ b : Blk, H[id']? = some (some b) ∧ ∀ i x, atS b0.segs i = some x → atS b.segs (sh' + i) = some x := by
  intro k id' sh' b0 h1 h2
  match k, h1, h2 with
  | 0, _, h2 => simp at h2
  | k + 1, h1, _ => simp at h1
section
open Go.ChangeShapes
variable {Hh : Type} {enc : TypeId × Value → Hh} {P : Program} {w : World} {base : Nat} {spare : Nat → Bool} {held : Bool}
/-- A slice of integers, as it is handed in. -/
theorem open_sl1 {r : Reach} {b0 : Nat} {t e : TypeId} {k : IntKind} {v : Value} {d : DataW Hh} {ps : List MemPlace} (ht : P.underlying t = some (.slice e)) (he : P.underlying e = some (.int k)) (hc : P.cellsOf e = 1)
    (hval : Value.okWide P w r b0 t v) (hd : DataW.Trod enc P w base spare held t v d ps) : Sl k w v := by
  obtain ⟨fuel, hf⟩ := hd
  have hv : v.cells = #[v] := by
    simp only [Value.okWide, ht] at hval
    cases v <;> first | rfl | (simp [Cell.okWide, Cell.ok, ht] at hval)
  rw [hv] at hf
  rcases open_sl ht he hc hf with ⟨a, c, hh⟩ | ⟨v', b, o, len, cap, zs, hh, hi⟩
  · simp at hh; exact .inl ⟨a, c, hh⟩
  · simp at hh; subst hh; exact .inr ⟨b, o, len, cap, zs, hi⟩
/-- A struct of a slice and a number. -/
theorem open_slint {r : Reach} {b0 : Nat} {t s e i : TypeId} {f0 f1 : Field} {k ki : IntKind} {v : Value} {d : DataW Hh} {ps : List MemPlace} (ht : P.underlying t = some (.struct #[f0, f1])) (hf0 : f0.type = s) (hf1 : f1.type = i) (o0 : f0.offset = 0) (o1 : f1.offset = 1)
    (hs : P.underlying s = some (.slice e)) (he : P.underlying e = some (.int k)) (hi : P.underlying i = some (.int ki)) (hc : P.cellsOf e = 1) (hcs : P.cellsOf s = 1) (hci : P.cellsOf i = 1) (hct : P.cellsOf t = 2)
    (hval : Value.okWide P w r b0 t v) (hd : DataW.Trod enc P w base spare held t v d ps) : ∃ c n, v = .agg #[c, .int ki n] ∧ Sl k w c ∧ (Lit.int ki n).wf = true := by
  subst hf0; subst hf1
  simp only [Value.okWide, ht] at hval
  obtain ⟨cs, rfl, hsz, _⟩ := hval
  obtain ⟨fuel, hf⟩ := hd
  obtain ⟨y0, y1, m, _, hl, h0, h1⟩ := trod_struct2 ht hf
  obtain ⟨l⟩ := cs
  have hl : l.length = 2 := by rw [hct] at hsz; simpa using hsz
  match l, hl with
  | [c0, c1], _ =>
    simp only [o0, o1, hcs, hci, Value.cells] at h0 h1
    obtain ⟨z, hz, _, hw⟩ := DataW.trod_int hi h1
    simp at hz
    subst hz
    refine ⟨c0, z, rfl, ?_, hw⟩
    rcases open_sl hs he hc h0 with ⟨a, c, hh⟩ | ⟨v, b, o, len, cap, zs, hh, hi⟩
    · simp at hh; exact .inl ⟨a, c, hh⟩
    · simp at hh; subst hh; exact .inr ⟨b, o, len, cap, zs, hi⟩
end
end Go.Ab
