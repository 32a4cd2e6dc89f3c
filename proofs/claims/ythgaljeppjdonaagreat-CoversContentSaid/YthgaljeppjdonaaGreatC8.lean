/- A part of the proofs of this claim: Bx31, Bx32, BByteS, BWrdS, BWrdT, BWrd1, BWrd2, BWrd3, BSigT, BSigS, BSig1, BSig2, BSig3, BSig4, Bx33, Bx34. No conditions. -/
import Derived.Test.YthgaljeppjdonaaGreatC6
import Derived.Lib.AppendZerosOnto
import Derived.Test.YthgaljeppjdonaaGreatC4
import Derived.Test.YthgaljeppjdonaaGreatC7
import Derived.Lib.LazyBuf
set_option linter.unusedVariables false
set_option linter.unusedSimpArgs false
section
/- What grows by noughts; what has grown, cut. No program. -/
namespace Go.Bx
section
variable {P : Program} {T : Tm} {H : Heap} {d : Option Tmp} {ty : TypeId} {pos : String} {af : Array Edge} {g : Option (Nat × Bool)}
/-- A full slice of integers, and noughts behind it: a new row. -/
theorem l_apz {x y : Operand} {t tn e rt : TypeId} {id base idx len m n0 : Nat} {k kq kn : IntKind} {segs : List Seg} {l : List Int} {inf : TypeInfo} {H' : Heap} (hx : ev T x = .s (.slice id base idx len len)) (hy : ev T y = .s (.int kq (m : Int))) (hb : hget H id = some ⟨true, segs⟩) (hsub : SubS segs (base + idx) (len * 1) [.ints k len l]) (hl : l.length = len)
    (hu : P.underlying t = some (.slice e)) (htn : P.underlying tn = some (.int kn)) (hi : P.info? e = some inf) (hsz : inf.size = 1) (hz : inf.zero = some (.int k 0)) (h0 : 0 < m) (hbig : (len + m) * inf.bytes ≤ 140737488355328) (hb1 : 0 < inf.bytes) (hn : H.length = n0) (hH : H ++ [some (Blk.mk true [.ints k (len + m) (l ++ List.replicate m 0)])] = H') :
    LOk P ⟨d, .call ⟨.builtin .append, #[x, y], #[t, tn]⟩, rt, pos, af, g⟩ T H H' (.s (.gro n0 1 (len + m))) [id] [] := by
  subst hH
  have hlt := hget_lt hb
  refine lok_new [id] (fun j h => by simp at h; subst h; exact hlt) fun H0 hl0 hg0 => ?_
  subst hn
  intro W ρ a w hH hf hW ho next Q hq
  have k1 : (ev T x).rep ρ (a.eval x) := ho x (by simp [Op.operands, Call.operands])
  have k2 : (ev T y).rep ρ (a.eval y) := ho y (by simp [Op.operands, Call.operands])
  rw [hx] at k1
  rw [hy] at k2
  have hev2 : a.eval y = .int kq (m : Int) := k2
  have hsrc := asrc_sl (P := P) (cap := len) hu (id := id) (H := H) (base := base) (idx := idx) (n := len) (size := 1) hb hsub
  obtain ⟨_, hsrc⟩ := hsrc
  obtain ⟨news, hS, hnr, _⟩ := hsrc _ W ρ w _ (fun j hj => hg0 j hj) hH k1
  obtain ⟨b, o, hρ, hev⟩ := k1
  have hnl : news.length = len := by have := hS.newsLen; omega
  have hold := hS.cellsD
  rw [hev] at hold
  have h63 : ((len + m : Nat) : Int) ≤ 9223372036854775807 := by
    have : len + m ≤ (len + m) * inf.bytes := Nat.le_mul_of_pos_right _ hb1
    omega
  have h48 : m * inf.bytes ≤ 281474976710656 := by
    have : m * inf.bytes ≤ (len + m) * inf.bytes := Nat.mul_le_mul_right _ (by omega)
    omega
  have hr := Go.Lib.run_append_grow_zeros (P := P) w t tn rt e inf (.int k 0) kq kn hu htn hi hz (some ⟨b, o + base + idx, none⟩) len len news (by rw [hsz]; exact hold) m h0 (by omega) (by omega) h63 h48 (growslice_fits (by omega) hbig)
  generalize hcap : grownCap w (len + m) len e = cap at hr
  have hcap' : len + m ≤ cap := hcap ▸ grownCap_ge w _ _ _
  have hrun : (execOp a.eval ⟨d, .call ⟨.builtin .append, #[x, y], #[t, tn]⟩, rt, pos, af, g⟩).run P w = .ok (.value (.slice (some ⟨w.heap.size, 0, none⟩) (len + m) cap)) (w.drew.alloc (.cells (news.toArray ++ Builtin.zeroCells (Value.int k 0).cells m ++ Builtin.zeroCells (Value.int k 0).cells (cap - (len + m))) e)) := by
    simp only [execOp, resolve, invoke, builtin, List.map_toArray, List.map_cons, List.map_nil, hev, hev2]
    simp [Sem.run_bind, hr]
  rw [hrun]
  generalize hcells : news.toArray ++ Builtin.zeroCells (Value.int k 0).cells m ++ Builtin.zeroCells (Value.int k 0).cells (cap - (len + m)) = cells
  have hHd : HRep W ρ (hget H0) w.drew := hH.ext (.drew w)
  have hsize : cells.size = cap := by
    rw [← hcells]; simp [Builtin.zeroCells, hnl, Value.cells]; omega
  obtain ⟨ρ', k3, k4, k5⟩ := nx_alloc (t := e) (w := w.drew) (H0 := H0) (cells := cells) (segs := [.ints k (len + m) (l ++ List.replicate m 0)]) hHd (hf _ (Nat.le_refl _) (by simp)) (fun b hb => hW b hb) (fun ρ' hle i z hz => by
    obtain ⟨hi2, rfl⟩ := atS_ints1 hz
    rcases Nat.lt_or_ge i len with h | h
    · obtain ⟨v, hv, hc⟩ := hnr i (.int k (l.getD i 0)) (by simp [atS, Seg.size, Seg.at, h])
      have hv' : v = .int k (l.getD i 0) := hc.1
      subst hv'
      refine ⟨.int k (l.getD i 0), ?_, ?_, rfl⟩
      · show cells[i]? = some (Value.int k (l.getD i 0))
        rw [← hcells, Array.append_assoc, Array.getElem?_append_left (by simpa [hnl] using h)]
        simpa using hv
      · show _ = _
        rw [List.getD_eq_getElem?_getD, List.getD_eq_getElem?_getD, List.getElem?_append_left (by omega)]
    · refine ⟨.int k 0, ?_, ?_, rfl⟩
      · show cells[i]? = some (Value.int k 0)
        rw [← hcells, Array.getElem?_append_left (by simp [Builtin.zeroCells, hnl, Value.cells]; omega), Array.getElem?_append_right (by simpa [hnl] using h)]
        have hi3 : i - len < m := by omega
        simp [Builtin.zeroCells, hnl, Value.cells, hi3, Nat.mod_one]
      · show _ = _
        rw [List.getD_eq_getElem?_getD, List.getElem?_append_right (by omega), List.getElem?_replicate]
        split <;> rfl)
  refine hq _ _ ⟨ρ', W, ?_, .inr ⟨w.heap.size, 0, cap, cells.size, ?_, rfl, hcap', k5, by rw [hsize]; omega⟩⟩
  · exact ⟨k3.le, k3.old, k3.rep, ((Ext.drew w).fr W).trans k3.fr, k3.sub, k3.fresh, k3.fzn⟩
  · rw [← hl0]; exact k4
/-- What has grown, cut. -/
theorem l_slg {t e : TypeId} {x : Operand} {hi mx : Option Operand} {id wd len h sz : Nat} (hx : ev T x = .s (.gro id wd len)) (hhi : Bnd T hi len h) (hmx : mx = none ∨ ∃ m, (∃ y, mx = some y ∧ ∃ k q, ev T y = .s (.int k q) ∧ q = ((m : Nat) : Int)) ∧ h ≤ m ∧ m ≤ len) (hho : (mx.isSome && hi.isNone) = false)
    (hu : P.underlying t = some (.slice e)) (hs : ∀ w, (sizeOf e).run P w = .ok sz w) (h2 : h ≤ len) :
    LOk P ⟨d, .slice t x none hi mx, ty, pos, af, g⟩ T H H (.s (.gro id wd h)) [] [] :=
  lok_pure fun ρ a w ho => by
    obtain ⟨k1, k2⟩ := slice_ops ho
    rw [hx] at k1
    obtain ⟨ad, cap, hev, hcap, hz⟩ : ∃ ad cap, a.eval x = .slice ad len cap ∧ len ≤ cap ∧ ((len = 0 ∧ ad = none ∧ cap = 0) ∨ ∃ b o n, ρ.m id = some (b, o) ∧ ad = some ⟨b, o, none⟩ ∧ ρ.sz b = some n ∧ o + cap * wd ≤ n) := by
      rcases k1 with ⟨e1, e2⟩ | ⟨b, o, c, n, e1, e2, e3, e4, e5⟩
      · exact ⟨none, 0, by rw [e2, e1], by omega, .inl ⟨e1, rfl, rfl⟩⟩
      · exact ⟨_, c, e2, e3, .inr ⟨b, o, n, e1, rfl, e4, e5⟩⟩
    obtain ⟨m, hm1, hm2, hm3⟩ : ∃ m, Bnd T mx cap m ∧ h ≤ m ∧ m ≤ cap := by
      rcases hmx with rfl | ⟨m, ⟨y, rfl, k', q, e1, e2⟩, e3, e4⟩
      · exact ⟨cap, rfl, by omega, Nat.le_refl _⟩
      · exact ⟨m, ⟨k', q, e1, e2⟩, e3, by omega⟩
    have hb := run_bounds (P := P) (b := true) (w := w) (lo := none) (l := 0) rfl hhi hm1 (fun e => by cases hi <;> simp_all) k2 (Nat.zero_le _) hm2 hm3
    have hr2 := run_slice (ad := ad) hu hs hb
    refine ⟨_, by rw [exec_slice, hev, sliceAt_sl hu, hr2]; rfl, ?_⟩
    rcases hz with ⟨rfl, rfl, rfl⟩ | ⟨b, o, n, e1, rfl, e4, e5⟩
    · refine .inl ⟨by omega, ?_⟩
      have h3 : h = 0 := by omega
      have h4 : m = 0 := by omega
      subst h3; subst h4
      simp
    · refine .inr ⟨b, o, m, n, e1, ?_, hm2, e4, ?_⟩
      · split <;> simp [addr_add]
      · have := Nat.mul_le_mul_right wd hm3
        omega
theorem k_apz (m : Nat) {x y : Operand} {t tn e rt : TypeId} {id len c n0 : Nat} {k kq kn : IntKind} {l l' : List Int} {inf : TypeInfo} {H' : Heap} [hu : Und P t (.slice e)] [htn : Und P tn (.int kn)] [hi : Inf P e inf] [hN : LenN H n0] (hx : ev T x = .s (.slice id 0 0 len len) := by rfl) (hy : ev T y = .s (.int kq (m : Int)) := by rfl) (hb : hget H id = some ⟨true, [.ints k len l]⟩ := by rfl) (hl : l.length = len := by first | assumption | omega | simp [*]) (hsz : inf.size = 1 := by exact rfl) (hz : inf.zero = some (.int k 0) := by exact rfl) (h0 : 0 < m := by omega) (hc : len + m = c := by rfl) (hl' : l ++ List.replicate m 0 = l' := by rfl) (hbig : len + m ≤ 1000000 := by omega) (hbb : Nat.ble (1000000 * inf.bytes) 140737488355328 = true := by exact rfl) (hb1 : 0 < inf.bytes := by exact Nat.le_of_ble_eq_true rfl) (hH : H ++ [some (Blk.mk true [.ints k c l'])] = H' := by repeat (first | exact happ_0 | apply happ_s)) :
    LOk P ⟨d, .call ⟨.builtin .append, #[x, y], #[t, tn]⟩, rt, pos, af, g⟩ T H H' (.s (.gro n0 1 c)) [id] [] := by
  subst hc; subst hl'
  exact l_apz hx hy hb (by rw [Nat.mul_one]; exact .whole (by simp [sizeS, Seg.size])) hl hu.h htn.h hi.h hsz hz h0 (big_ok hbig hbb) hb1 hN.h hH
theorem k_slg (h : Nat) {t e : TypeId} {x y : Operand} {id wd len sz : Nat} {k : IntKind} {z : Int} [hu : Und P t (.slice e)] [hs : Sz P e sz] (hx : ev T x = .s (.gro id wd len) := by rfl) (hy : ev T y = .s (.int k z) := by rfl) (hz : z = (h : Int) := by rfl) (h2 : h ≤ len := by omega) :
    LOk P ⟨d, .slice t x none (some y) none, ty, pos, af, g⟩ T H H (.s (.gro id wd h)) [] [] := l_slg hx ⟨k, z, hy, hz⟩ (.inl rfl) rfl hu.h hs.h h2
/-- Clipped. -/
theorem k_slc {t e : TypeId} {x y y2 : Operand} {id wd len sz : Nat} {k k2 : IntKind} {z z2 : Int} [hu : Und P t (.slice e)] [hs : Sz P e sz] (hx : ev T x = .s (.gro id wd len) := by rfl) (hy : ev T y = .s (.int k z) := by rfl) (hz : z = (len : Int) := by rfl) (hy2 : ev T y2 = .s (.int k2 z2) := by rfl) (hz2 : z2 = (len : Int) := by rfl) :
    LOk P ⟨d, .slice t x none (some y) (some y2), ty, pos, af, g⟩ T H H (.s (.gro id wd len)) [] [] := l_slg hx ⟨k, z, hy, hz⟩ (.inr ⟨len, ⟨y2, rfl, k2, z2, hy2, hz2⟩, Nat.le_refl _, Nat.le_refl _⟩) rfl hu.h hs.h (Nat.le_refl _)
/-- Integers behind a part of them. -/
theorem Joins.intsT {k : IntKind} {n m q : Nat} {l l2 : List Int} (h : l.length = q) (hn : n ≤ q) : Joins [.ints k q l] n [.ints k m l2] m [.ints k (n + m) (l.take n ++ l2)] := by
  obtain ⟨h1, h2⟩ := Joins.ints (k := k) (m := m) (q := n) (l2 := l2) (show (l.take n).length = n by rw [List.length_take]; omega) (Nat.le_refl n)
  refine ⟨h1, fun i y hy => ⟨fun hi => ?_, (h2 i y hy).2⟩⟩
  obtain ⟨z, hz, he⟩ := (h2 i y hy).1 hi
  obtain ⟨hi1, rfl⟩ := atS_ints1 hz
  refine ⟨_, ?_, he⟩
  have hs : (Seg.ints k q l).size = q := rfl
  simp only [atS]
  rw [if_pos (by rw [hs]; omega)]
  show some (SV.int k (l.getD i 0)) = some (SV.int k ((l.take n).getD i 0))
  rw [List.getD_eq_getElem?_getD, List.getD_eq_getElem?_getD, List.getElem?_take_of_lt hi]
theorem k_apg {x y : Operand} {t tx e rt : TypeId} {id n c n0 q : Nat} {k : IntKind} {l l2 l' : List Int} {inf : TypeInfo} {z : Value} {H' : Heap} [hu : Und P t (.slice e)] [hux : Und P tx (.slice e)] [hi : Inf P e inf] [hN : LenN H n0] (hx : ev T x = .s (.gro id 1 n) := by rfl) (hy : ev T y = .s (.fzi k l2) := by rfl) (hb : hget H id = some ⟨true, [.ints k q l]⟩ := by rfl) (hl : l.length = q := by first | assumption | omega | simp [*]) (hsz : inf.size = 1 := by exact rfl) (hz : inf.zero = some z := by exact rfl) (hzs : z.cells.size = 1 := by exact rfl) (hq : n ≤ q := by omega) (hc : n + l2.length = c := by rfl) (hl' : l.take n ++ l2 = l' := by rfl) (hbig : n + l2.length ≤ 1000000 := by omega) (hbb : Nat.ble (1000000 * inf.bytes) 140737488355328 = true := by exact rfl) (hb1 : 0 < inf.bytes := by exact Nat.le_of_ble_eq_true rfl) (hH : H.set id none ++ [some (Blk.mk true [.ints k c l'])] = H' := by exact rfl) :
    LOk P ⟨d, .call ⟨.builtin .append, #[x, y], #[t, tx]⟩, rt, pos, af, g⟩ T H H' (.s (.gro n0 1 c)) [id] [id] := by
  subst hc; subst hl'
  refine a_app (sub := [.ints k l2.length l2]) hx hy hb hsz hz hzs (asrc_fzi hux.h) (by simp [sizeS, Seg.size]; omega) ?_ (big_ok hbig hbb) hb1 (fun _ h => by cases h) hN.h hH
  rw [Nat.mul_one, Nat.mul_one]
  exact .intsT hl hq
end
end Go.Bx
end

section
/- Rows made, copied into rows, put behind rows where there is room. No program. -/
namespace Go.Bx
theorem atS_rows1 {c : Nat} {g : Nat → Nat → SV} {j : Nat} {y : SV} (h : atS [.rows c 1 g] j = some y) : j < c ∧ y = .noid (g j 0) := by
  have hs : (Seg.rows c 1 g).size = c * 1 := rfl
  simp only [atS] at h
  rw [hs, Nat.mul_one] at h
  by_cases hj : j < c
  · rw [if_pos hj] at h
    have h := Option.some.inj h
    simp only [Seg.at, Nat.div_one, Nat.mod_one] at h
    exact ⟨hj, h.symm⟩
  · rw [if_neg hj] at h; cases h
theorem rows1_at {c : Nat} (g : Nat → Nat → SV) {j : Nat} (h : j < c) : atS [.rows c 1 g] j = some (.noid (g j 0)) := by
  have hs : (Seg.rows c 1 g).size = c * 1 := rfl
  simp only [atS]
  rw [hs, Nat.mul_one, if_pos h]
  simp only [Seg.at, Nat.div_one, Nat.mod_one]
theorem PutS.rows {m p c : Nat} {g g2 g' : Nat → Nat → SV} (h0 : 0 < m) (hc : p + m ≤ c) (hg : ∀ i, i < m → g' (p + i) 0 = g2 i 0) (hg2 : ∀ i, ¬(p ≤ i ∧ i < p + m) → i < c → g' i 0 = g i 0) : PutS [.rows c 1 g] p m [.rows m 1 g2] [.rows c 1 g'] := by
  refine ⟨⟨h0, by simpa [sizeS, Seg.size] using hc⟩, fun j y hy => ?_⟩
  obtain ⟨hj, rfl⟩ := atS_rows1 hy
  split
  · rename_i h
    rw [rows1_at g2 (show j - p < m by omega), ← hg (j - p) (by omega), show p + (j - p) = j by omega]
  · rename_i h
    rw [rows1_at g hj, hg2 j h hj]
section
variable {P : Program} {T : Tm} {H : Heap} {d : Option Tmp} {ty : TypeId} {pos : String} {af : Array Edge} {g : Option (Nat × Bool)}
/-- 'make' of slices, all of them nil. -/
theorem l_make_rows {t e : TypeId} {x y : Operand} {l c n : Nat} {k1 k2 : IntKind} {m1 m2 : Int} {inf : TypeInfo} {q : Nat → Nat → SV} (hx : ev T x = .s (.int k1 m1)) (hy : ev T y = .s (.int k2 m2)) (hm1 : m1 = (l : Int)) (hm2 : m2 = (c : Int)) (hlc : l ≤ c) (hc : inf.bytes * c ≤ 281474976710656) (hc2 : c ≤ 281474976710656)
    (hu : P.underlying t = some (.slice e)) (hi : P.info? e = some inf) (hs : inf.size = 1) (hz : inf.zero = some (.slice none 0 0)) (hn : H.length = n) (hq : ∀ i, i < c → q i 0 = .nils) :
    LOk P ⟨d, .makeSlice t x y, ty, pos, af, g⟩ T H (H ++ [some (Blk.mk true [.rows c 1 q])]) (.s (.slice n 0 0 l c)) [] [] :=
  lok_new [] (fun _ h => by cases h) fun H0 hl0 _ => by
    subst hn; subst hm1; subst hm2
    intro W ρ a w hH hf hW ho next Q hQ
    obtain ⟨h1, h2⟩ := two (op := .makeSlice t x y) rfl ho hx hy
    simp only [AV.rep, AV.rep0, SV.rep] at h1 h2
    have hm := run_make (P := P) w t e inf (.slice none 0 0) hu hi hz k1 k2 (l : Int) (c : Int) (by omega) (by omega) (by
      have h : ((inf.bytes * c : Nat) : Int) ≤ 281474976710656 := by omega
      rwa [Int.natCast_mul] at h) (by omega)
    simp only [Int.toNat_natCast, hs, Nat.mul_one] at hm
    have hrun : (execOp a.eval ⟨d, .makeSlice t x y, ty, pos, af, g⟩).run P w = .ok (.value (.slice (some ⟨w.heap.size, 0, none⟩) l c)) (w.alloc (.cells (madeCells (Value.slice none 0 0).cells c) e)) := by
      simp [execOp, h1, h2, Sem.run_bind, hm]
    rw [hrun]
    obtain ⟨ρ', k3, k4, _⟩ := nx_alloc (t := e) hH (hf _ (Nat.le_refl _) (by simp)) hW (cells := madeCells (Value.slice none 0 0).cells c) (segs := [.rows c 1 q]) (fun ρ' _ i z hz => by
      obtain ⟨hi, rfl⟩ := atS_rows1 hz
      refine ⟨.slice none 0 0, by simp [madeCells, Value.cells, hi, Nat.mod_one], ?_, rfl⟩
      rw [hq i hi]
      exact ⟨rfl, rfl⟩)
    exact hQ _ _ ⟨ρ', W, k3, w.heap.size, 0, by rw [← hl0]; exact k4, rfl⟩
theorem k_mkr (q : Nat → Nat → SV) {t e : TypeId} {x y : Operand} {l c n : Nat} {k1 k2 : IntKind} {m1 m2 : Int} {inf : TypeInfo} {H' : Heap} [hu : Und P t (.slice e)] [hi : Inf P e inf] [hN : LenN H n] [hm1 : IsN m1 l] [hm2 : IsN m2 c] (hx : ev T x = .s (.int k1 m1) := by rfl) (hy : ev T y = .s (.int k2 m2) := by rfl) (hlc : l ≤ c := by omega) (hc2 : c ≤ 1000000 := by omega) (hbb : Nat.ble (inf.bytes * 1000000) 281474976710656 = true := by exact rfl)
    (hs : inf.size = 1 := by exact rfl) (hz : inf.zero = some (.slice none 0 0) := by exact rfl) (hq : ∀ i, i < c → q i 0 = .nils := by exact fun _ _ => rfl) (hH : H ++ [some (Blk.mk true [.rows c 1 q])] = H' := by repeat (first | exact happ_0 | apply happ_s)) :
    LOk P ⟨d, .makeSlice t x y, ty, pos, af, g⟩ T H H' (.s (.slice n 0 0 l c)) [] [] := by
  subst hH
  exact l_make_rows hx hy hm1.h hm2.h hlc (Nat.le_trans (Nat.mul_le_mul_left _ hc2) (Nat.le_of_ble_eq_true hbb)) (by omega) hu.h hi.h hs hz hN.h hq
/-- Rows copied to the head of rows. -/
theorem k_cpr (q' : Nat → Nat → SV) {x y : Operand} {t tx e rt : TypeId} {id dc n c : Nat} {q g2 : Nat → Nat → SV} {H' : Heap} [hu : Und P t (.slice e)] [hux : Und P tx (.slice e)] [hs : Sz P e 1] (hx : ev T x = .s (.slice id 0 0 n dc) := by rfl) (hy : ev T y = .s (.fz n 1 g2) := by rfl) (hb : hget H id = some ⟨true, [.rows c 1 q]⟩ := by rfl) (h0 : 0 < n) (hc : n ≤ c := by omega) (hg : ∀ i, i < n → q' i 0 = g2 i 0 := by exact fun _ _ => rfl) (hg2 : ∀ i, n ≤ i → i < c → q' i 0 = q i 0) (hH : H.set id (some ⟨true, [.rows c 1 q']⟩) = H' := by repeat (first | exact hset_0 | apply hset_s)) :
    LOk P ⟨d, .call ⟨.builtin .copy, #[x, y], #[t, tx]⟩, rt, pos, af, g⟩ T H H' (.s (.int .i64 (n : Int))) [id] [id] := by
  refine l_copy (sub' := [.rows n 1 g2]) hx hy hb (asrc_fz (Nat.zero_lt_one) hux.h) (Nat.min_self n) hu.h hs.h (.whole (by simp [sizeS, Seg.size])) ?_ (fun _ h => by cases h) hH
  rw [Nat.mul_one]
  exact .rows h0 (by omega) (fun i hi => by rw [Nat.zero_add]; exact hg i hi) (fun i h hi => hg2 i (by omega) hi)
/-- Rows put behind rows, where there is room. -/
theorem k_apin (q' : Nat → Nat → SV) {x y : Operand} {t tx e rt : TypeId} {id n m dc c r : Nat} {q g2 : Nat → Nat → SV} {inf : TypeInfo} {H' : Heap} [hu : Und P t (.slice e)] [hux : Und P tx (.slice e)] [hi : Inf P e inf] (hx : ev T x = .s (.slice id 0 0 n dc) := by rfl) (hy : ev T y = .s (.fz m 1 g2) := by rfl) (hb : hget H id = some ⟨true, [.rows c 1 q]⟩ := by rfl) (hsz : inf.size = 1 := by exact rfl) (h0 : 0 < m := by exact Nat.le_of_ble_eq_true rfl) (hdc : n + m ≤ dc := by omega) (hc : n + m ≤ c := by omega) (hr : n + m = r := by rfl) (hg : ∀ i, i < m → q' (n + i) 0 = g2 i 0) (hg2 : ∀ i, ¬(n ≤ i ∧ i < n + m) → i < c → q' i 0 = q i 0) (hH : H.set id (some ⟨true, [.rows c 1 q']⟩) = H' := by repeat (first | exact hset_0 | apply hset_s)) :
    LOk P ⟨d, .call ⟨.builtin .append, #[x, y], #[t, tx]⟩, rt, pos, af, g⟩ T H H' (.s (.slice id 0 0 r dc)) [id] [id] := by
  subst hH; subst hr
  have hlt := hget_lt hb
  refine lok_set [id] (fun j hj => by simp at hj; subst hj; exact hlt) (by simp) fun H0 hl hag => ?_
  intro W ρ a w hH hnn hW ho next Q hq
  have k1 : (ev T x).rep ρ (a.eval x) := ho x (by simp [Op.operands, Call.operands])
  have k2 : (ev T y).rep ρ (a.eval y) := ho y (by simp [Op.operands, Call.operands])
  rw [hx] at k1
  rw [hy] at k2
  obtain ⟨b, o, hρ, k1⟩ := k1
  obtain ⟨news, hS, hnr, _⟩ := (asrc_fz (P := P) (H := H) (n := m) (g := g2) Nat.zero_lt_one hux.h).2 _ W ρ w _ (fun _ h => by cases h) hH k2
  have hb0 : hget H0 id = some ⟨true, [.rows c 1 q]⟩ := (hag id (by simp)).trans hb
  obtain ⟨⟨cells, tt, fr, g1, g2', _, g4⟩, hWb⟩ := hH.rep id b o _ hρ hb0
  have hfr := g2' rfl
  subst hfr
  have hp : PutS [.rows c 1 q] n m [.rows m 1 g2] [.rows c 1 q'] := .rows h0 hc hg hg2
  have hfit := fits g4 hp
  have hnl : news.length = m := by have := hS.newsLen; omega
  have hst := run_storeCells_at P b (o + n) tt news 0 cells w g1 (by rw [hnl]; omega) hS.one
  rw [Nat.add_zero] at hst
  have hrun : (execOp a.eval ⟨d, .call ⟨.builtin .append, #[x, y], #[t, tx]⟩, rt, pos, af, g⟩).run P w = .ok (.value (.slice (some ⟨b, o, none⟩) (n + m) dc)) (w.setRow b (cells.toList.take (o + n) ++ news ++ cells.toList.drop (o + n + news.length)).toArray) := by
    simp only [execOp, resolve, invoke, builtin, List.map_toArray, List.map_cons, List.map_nil, k1]
    have hc2 := hS.cells
    rcases hS.kind with ⟨e', hk⟩ | hk <;> (simp [Builtin.append_, Sem.run_bind, run_underlying hu.h, run_underlying hk, sizeOf, typeInfo, hi.h, hsz, hS.len, hc2, hdc, addr_add]; rw [hst]; simp)
  rw [hrun]
  refine hq _ _ ⟨ρ, W, nx_write hH hW hρ hb0 g1 g4 hp hnl (fun i z hz => ?_) hfit, b, o, hρ, rfl⟩
  exact hnr i z hz
end
end Go.Bx
end

section
/- Numbers as bytes, the highest first: what is put, what is read. No program. -/
open Go Go.Bx
namespace Go.Proofs.X
theorem eqI {l k : List Int} (hl : l.length = k.length) (h : ∀ i, i < l.length → l.getD i 0 = k.getD i 0) : l = k := by
  apply List.ext_getElem hl
  intro i h1 h2
  have := h i h1
  simpa [List.getD_eq_getElem?_getD, h1, h2] using this
theorem getD_app (A B : List Int) (i : Nat) : (A ++ B).getD i 0 = if i < A.length then A.getD i 0 else B.getD (i - A.length) 0 := by
  by_cases h : i < A.length
  · simp [List.getD_eq_getElem?_getD, List.getElem?_append_left h, h]
  · simp [List.getD_eq_getElem?_getD, List.getElem?_append_right (Nat.le_of_not_lt h), h]
theorem getD_rep (n i : Nat) : (List.replicate n (0 : Int)).getD i 0 = 0 := by
  by_cases h : i < n
  · simp [List.getD_eq_getElem?_getD, h]
  · simp [List.getD_eq_getElem?_getD, h]
theorem getD_take' (l : List Int) (n i : Nat) (h : i < n) : (l.take n).getD i 0 = l.getD i 0 := by
  simp [List.getD_eq_getElem?_getD, List.getElem?_take, h]
theorem getD_drop' (l : List Int) (n i : Nat) : (l.drop n).getD i 0 = l.getD (n + i) 0 := by
  simp [List.getD_eq_getElem?_getD, List.getElem?_drop]
theorem setDI (l : List Int) (i : Nat) (v : Int) (j : Nat) (hi : i < l.length) : (l.set i v).getD j 0 = if i = j then v else l.getD j 0 := by
  by_cases h : i = j
  · subst h; simp [List.getD_eq_getElem?_getD, hi]
  · simp [List.getD_eq_getElem?_getD, List.getElem?_set_ne h, h]
theorem eqI_n {l k : List Int} (n : Nat) (hl : l.length = n) (hk : k.length = n) (h : ∀ i, i < n → l.getD i 0 = k.getD i 0) : l = k := eqI (hl.trans hk.symm) fun i hi => h i (hl ▸ hi)
/-- What is copied over the front, a middle, the end. -/
theorem spl_app (A Y Z : List Int) (a n m : Nat) (ha : A.length = a) (hn : Y.length = n) (hm : a + n ≤ m) (hz : A.length + Z.length = m) : spl (A ++ Z) Y a n m = A ++ Y ++ Z.drop n := by
  refine eqI_n m (Bx.spl_len _ _ _ _ _) (by simp; omega) fun i hi => ?_
  rw [spl_getD _ _ _ _ _ _ hi, getD_app, getD_app, getD_app, getD_drop', List.length_append]
  by_cases h1 : i < a
  · rw [if_neg (by omega), if_pos (by omega), if_pos (by omega), if_pos (by omega)]
  · by_cases h2 : i < a + n
    · rw [if_pos (by omega), if_pos (by omega), if_neg (by omega), ha]
    · rw [if_neg (by omega), if_neg (by omega), if_neg (by omega), ha, hn]
      congr 1; omega
/-- n bytes, the highest first. -/
def beN (n v : Nat) : List Nat := (List.range n).map fun i => v / 256 ^ (n - 1 - i) % 256
def be (n v : Nat) : List Int := zs (beN n v)
theorem be_len (n v : Nat) : (be n v).length = n := by simp [be, beN, zs]
theorem be_get (n v i : Nat) (h : i < n) : (be n v).getD i 0 = ((v / 256 ^ (n - 1 - i) % 256 : Nat) : Int) := by
  unfold be beN
  rw [zs_getD, map_getD _ _ _ h]
theorem wrap8 (v : Nat) : IntKind.u8.wrap (v : Int) = ((v % 256 : Nat) : Int) := by
  unfold IntKind.wrap; simp [IntKind.bits, IntKind.signed]
theorem wrap64' {v : Nat} (h : v < 18446744073709551616) : IntKind.u64.wrap (v : Int) = (v : Int) := by
  unfold IntKind.wrap; simp [IntKind.bits, IntKind.signed]; omega
theorem rb_n (out : List Int) (at_ v : Nat) (hv : v < 18446744073709551616) (ha : at_ ≤ out.length) (j : Nat) (hj : j ≤ at_) : (rb out at_ (v : Int) j).2 = ((v / 256 ^ j : Nat) : Int) ∧ ∀ i, (rb out at_ (v : Int) j).1.getD i 0 = if at_ - j ≤ i ∧ i < at_ then ((v / 256 ^ (at_ - 1 - i) % 256 : Nat) : Int) else out.getD i 0 := by
  induction j with
  | zero => exact ⟨by simp [rb], fun i => by rw [if_neg (by omega)]; rfl⟩
  | succ j ih =>
    obtain ⟨h1, h2⟩ := ih (by omega)
    constructor
    · rw [rb, h1]
      show IntKind.u64.wrap ((((v / 256 ^ j : Nat) : Int)).tdiv ((256 : Nat) : Int)) = _
      rw [show (((v / 256 ^ j : Nat) : Int)).tdiv ((256 : Nat) : Int) = ((v / 256 ^ j / 256 : Nat) : Int) from rfl, Nat.div_div_eq_div_mul, ← Nat.pow_succ, wrap64' (Nat.lt_of_le_of_lt (Nat.div_le_self _ _) hv)]
    · intro i
      rw [rb, h1, wrap8]
      show ((rb out at_ (v : Int) j).1.set (at_ - (j + 1)) _).getD i 0 = _
      rw [setDI _ _ _ _ (by rw [rb_len]; omega), h2]
      by_cases h : at_ - (j + 1) = i
      · rw [if_pos h, if_pos (by omega), show at_ - 1 - i = j by omega]
      · rw [if_neg h]
        by_cases h3 : at_ - j ≤ i ∧ i < at_
        · rw [if_pos h3, if_pos (by omega)]
        · rw [if_neg h3, if_neg (by omega)]
/-- Words put behind each other, from the end. -/
theorem rr_n (tot each N : Nat) (ws : List Nat) (h64 : B64 ws) (he : 0 < each) (k : Nat) (hk : each * k ≤ tot) (i : Nat) (hi : i < tot) : (rr tot each N (zs ws) k).getD i 0 = if tot - 1 - i < each * k then ((ws.getD (N - 1 - (tot - 1 - i) / each) 0 / 256 ^ ((tot - 1 - i) % each) % 256 : Nat) : Int) else 0 := by
  induction k with
  | zero => rw [if_neg (by omega), rr, getD_rep]
  | succ k ih =>
    rw [Nat.mul_succ] at hk
    rw [rr, zs_getD, (rb_n _ _ _ (h64 _) (by rw [rr_len]; omega) each (by omega)).2, ih (by omega), Nat.mul_succ]
    by_cases h1 : tot - 1 - i < each * k
    · rw [if_neg (by omega), if_pos h1, if_pos (by omega)]
    · rw [if_neg h1]
      by_cases h2 : tot - each * k - each ≤ i ∧ i < tot - each * k
      · rw [if_pos h2, if_pos (by omega)]
        have e1 : (tot - 1 - i) / each = k := by
          rw [Nat.div_eq_iff he]
          rw [Nat.mul_comm] at h1 h2
          omega
        have e2 : (tot - 1 - i) % each = tot - each * k - 1 - i := by
          have := Nat.div_add_mod (tot - 1 - i) each
          rw [e1] at this
          omega
        rw [e1, e2]
      · rw [if_neg h2, if_neg (by omega)]
/-- One number put behind bytes. -/
theorem rowL_1 (B : List Int) (n v : Nat) (hn : 0 < n) (hv : v < 18446744073709551616) : rowL (B.length + n) B B.length n 1 [(v : Int)] = B ++ be n v := by
  have h64 : B64 [v] := fun i => by
    match i with
    | 0 => simpa using hv
    | i + 1 => simp
  have hr : ∀ i, i < B.length + n → (rr (B.length + n) n 1 [(v : Int)] 1).getD i 0 = if i < B.length then 0 else (be n v).getD (i - B.length) 0 := fun i hi => by
    have := rr_n (B.length + n) n 1 [v] h64 hn 1 (by omega) i hi
    rw [show zs [v] = [(v : Int)] from rfl] at this
    rw [this]
    by_cases h : i < B.length
    · rw [if_pos h, if_neg (by omega)]
    · rw [if_neg h, if_pos (by omega), be_get _ _ _ (by omega), show (B.length + n - 1 - i) / n = 0 from Nat.div_eq_of_lt (by omega), show (B.length + n - 1 - i) % n = n - 1 - (i - B.length) by rw [Nat.mod_eq_of_lt (by omega)]; omega]
      rfl
  refine eqI_n (B.length + n) (rowL_len _ _ _ _ _ _) (by simp [be_len]) fun i hi => ?_
  unfold rowL
  rw [getD_app]
  by_cases h0 : B.length = 0
  · rw [if_pos h0, hr i hi, if_neg (by omega), if_neg (by omega)]
  · rw [if_neg h0, spl_getD _ _ _ _ _ _ hi, hr i hi, List.take_length]
    by_cases h : i < B.length
    · rw [if_pos (by omega), if_pos h]; rfl
    · rw [if_neg (by omega), if_neg h, if_neg h]
/-- A great number put behind bytes. -/
theorem rowL_4 (B : List Int) (v : Nat) : rowL (B.length + 8 * 4) B B.length 8 4 (zs [(wd v).getD 3 0, (wd v).getD 2 0, (wd v).getD 1 0, (wd v).getD 0 0]) = B ++ be 32 v := by
  have h64 : B64 [(wd v).getD 3 0, (wd v).getD 2 0, (wd v).getD 1 0, (wd v).getD 0 0] := fun i => by
    match i with
    | 0 => exact wd_B64 v 3
    | 1 => exact wd_B64 v 2
    | 2 => exact wd_B64 v 1
    | 3 => exact wd_B64 v 0
    | i + 4 => simp
  have hd : ∀ q, q < 4 → [(wd v).getD 3 0, (wd v).getD 2 0, (wd v).getD 1 0, (wd v).getD 0 0].getD (3 - q) 0 = v / 18446744073709551616 ^ q % 18446744073709551616 := fun q hq => by
    rw [wd_at _ _ (by omega), wd_at _ _ (by omega), wd_at _ _ (by omega), wd_at _ _ (by omega)]
    match q, hq with
    | 0, _ => rfl
    | 1, _ => rfl
    | 2, _ => rfl
    | 3, _ => rfl
  have hr : ∀ i, i < B.length + 8 * 4 → (rr (B.length + 8 * 4) 8 4 (zs [(wd v).getD 3 0, (wd v).getD 2 0, (wd v).getD 1 0, (wd v).getD 0 0]) 4).getD i 0 = if i < B.length then 0 else (be 32 v).getD (i - B.length) 0 := fun i hi => by
    rw [rr_n _ _ _ _ h64 (by omega) 4 (by omega) i hi]
    by_cases h : i < B.length
    · rw [if_pos h, if_neg (by omega)]
    · rw [if_neg h, if_pos (by omega), be_get _ _ _ (by omega), show 4 - 1 - (B.length + 8 * 4 - 1 - i) / 8 = 3 - (B.length + 8 * 4 - 1 - i) / 8 by omega, hd _ (by omega), show 32 - 1 - (i - B.length) = B.length + 8 * 4 - 1 - i by omega]
      congr 1
      generalize B.length + 8 * 4 - 1 - i = p
      have e1 : (18446744073709551616 : Nat) ^ (p / 8) = 256 ^ (8 * (p / 8)) := by rw [Nat.pow_mul]
      have hp : p % 8 < 8 := Nat.mod_lt _ (by omega)
      have e2 : (18446744073709551616 : Nat) = 256 ^ (p % 8) * (256 * 256 ^ (7 - p % 8)) := by
        rw [← Nat.mul_assoc, ← Nat.pow_succ, ← Nat.pow_add, show p % 8 + 1 + (7 - p % 8) = 8 by omega]
      rw [e1]
      generalize hx : v / 256 ^ (8 * (p / 8)) = x
      rw [show x % 18446744073709551616 = x % (256 ^ (p % 8) * (256 * 256 ^ (7 - p % 8))) by rw [← e2], Nat.mod_mul_right_div_self, Nat.mod_mul_right_mod, ← hx, Nat.div_div_eq_div_mul, ← Nat.pow_add, show 8 * (p / 8) + p % 8 = p by omega]
  refine eqI_n (B.length + 8 * 4) (rowL_len _ _ _ _ _ _) (by simp [be_len]) fun i hi => ?_
  unfold rowL
  rw [getD_app]
  by_cases h0 : B.length = 0
  · rw [if_pos h0, hr i hi, if_neg (by omega), if_neg (by omega)]
  · rw [if_neg h0, spl_getD _ _ _ _ _ _ hi, hr i hi, List.take_length]
    by_cases h : i < B.length
    · rw [if_pos (by omega), if_pos h]; rfl
    · rw [if_neg (by omega), if_neg h, if_neg h]
/-! ### Read -/
/-- Each is a byte. -/
def U8' (l : List Int) : Prop := ∀ i, 0 ≤ l.getD i 0 ∧ l.getD i 0 < 256
def gN (w : List Int) : Nat → Nat
  | 0 => 0
  | i + 1 => 256 * gN w i + (w.getD i 0).toNat
theorem gN_lt {w : List Int} (h : U8' w) (i : Nat) : gN w i < 256 ^ i := by
  induction i with
  | zero => simp [gN]
  | succ i ih => have := h i; rw [gN, Nat.pow_succ]; omega
theorem gI_gN {w : List Int} (h : U8' w) (i : Nat) (hi : i ≤ 8) : gI w i = (gN w i : Int) := by
  induction i with
  | zero => rfl
  | succ i ih =>
    have h1 := gN_lt h i
    have h2 := h i
    have hp : (256 : Nat) ^ i ≤ 256 ^ 7 := Nat.pow_le_pow_right (by omega) (by omega)
    rw [gI, ih (by omega), gN]
    obtain ⟨b, hb⟩ : ∃ b : Nat, w.getD i 0 = (b : Int) := ⟨(w.getD i 0).toNat, by omega⟩
    rw [hb] at h2 ⊢
    have e1 : (256 : Int) * (gN w i : Int) = ((256 * gN w i : Nat) : Int) := by simp
    rw [e1, wrap64' (by omega), wrap64' (by omega), ← Int.natCast_add, wrap64' (by omega)]
    simp
theorem gN_app (A B : List Int) (i : Nat) (h : i ≤ A.length) : gN (A ++ B) i = gN A i := by
  induction i with
  | zero => rfl
  | succ i ih => rw [gN, gN, ih (by omega), getD_app, if_pos (by omega)]
theorem gN_take (A : List Int) (n i : Nat) (h : i ≤ n) : gN (A.take n) i = gN A i := by
  induction i with
  | zero => rfl
  | succ i ih => rw [gN, gN, ih (by omega), getD_take' _ _ _ (by omega)]
theorem gN_rep (k : Nat) (B : List Int) (i : Nat) : gN (List.replicate k 0 ++ B) (k + i) = gN B i := by
  induction i with
  | zero =>
    rw [Nat.add_zero, gN_app _ _ _ (by simp)]
    show _ = 0
    induction k with
    | zero => rfl
    | succ k ih =>
      rw [gN, getD_rep]
      have : gN (List.replicate (k + 1) 0) k = gN (List.replicate k 0) k := by
        rw [← gN_take _ k k (Nat.le_refl _)]; simp
      rw [this, ih]; rfl
  | succ i ih =>
    rw [← Nat.add_assoc, gN, ih, gN, getD_app, if_neg (by simp)]
    simp
theorem U8'_app {A B : List Int} (ha : U8' A) (hb : U8' B) : U8' (A ++ B) := fun i => by
  rw [getD_app]; split
  · exact ha i
  · exact hb _
theorem U8'_take {A : List Int} (ha : U8' A) (n : Nat) : U8' (A.take n) := fun i => by
  by_cases h : i < n
  · rw [getD_take' _ _ _ h]; exact ha i
  · rw [List.getD_eq_getElem?_getD, List.getElem?_eq_none (by simp; omega)]; simp
theorem U8'_drop {A : List Int} (ha : U8' A) (n : Nat) : U8' (A.drop n) := fun i => by rw [getD_drop']; exact ha _
theorem U8'_rep (n : Nat) : U8' (List.replicate n 0) := fun i => by rw [getD_rep]; omega
theorem U8'_be (n v : Nat) : U8' (be n v) := fun i => by
  by_cases h : i < n
  · rw [be_get _ _ _ h]; omega
  · rw [List.getD_eq_getElem?_getD, List.getElem?_eq_none (by rw [be_len]; omega)]; simp
/-- What Get reads. -/
theorem getI_n {B : List Int} (h : U8' B) (m : Nat) (h8 : m ≤ 8) (hm : m ≤ B.length) : getI B m = (gN B m : Int) := by
  unfold getI
  have e : spl (z 8) (B.take m) (8 - m) m 8 = List.replicate (8 - m) 0 ++ B.take m := by
    have hz : z 8 = List.replicate (8 - m) 0 ++ List.replicate m 0 := by rw [List.replicate_append_replicate, show 8 - m + m = 8 by omega]; rfl
    rw [hz]
    have := spl_app (List.replicate (8 - m) 0) (B.take m) (List.replicate m 0) (8 - m) m 8 (by simp) (by simp; omega) (by omega) (by simp; omega)
    rw [this]
    simp
  rw [e, gI_gN (U8'_app (U8'_rep _) (U8'_take h _)) 8 (Nat.le_refl _)]
  have := gN_rep (8 - m) (B.take m) m
  rw [show 8 - m + m = 8 by omega] at this
  rw [this, gN_take _ _ _ (Nat.le_refl _)]
/-- What was put is read. -/
theorem gN_be_i (n v i : Nat) (h : i ≤ n) : gN (be n v) i = v / 256 ^ (n - i) % 256 ^ i := by
  induction i with
  | zero => simp [gN, Nat.mod_one]
  | succ i ih =>
    rw [gN, ih (by omega), be_get _ _ _ (by omega), Int.toNat_natCast]
    have e : n - i = (n - (i + 1)) + 1 := by omega
    rw [e, Nat.pow_succ 256 (n - (i + 1)), ← Nat.div_div_eq_div_mul, show n - 1 - i = n - (i + 1) by omega]
    generalize v / 256 ^ (n - (i + 1)) = x
    rw [Nat.pow_succ, Nat.mul_comm (256 ^ i) 256, Nat.mod_mul]
    omega
theorem gN_be (n v : Nat) (R : List Int) (h : v < 256 ^ n) : gN (be n v ++ R) n = v := by
  rw [gN_app _ _ _ (by rw [be_len]; omega), gN_be_i _ _ _ (Nat.le_refl _), Nat.sub_self, Nat.pow_zero, Nat.div_one, Nat.mod_eq_of_lt h]
end Go.Proofs.X
end

section
/- Long numbers, read word by word. No program. -/
open Go Go.Bx
namespace Go.Proofs.X
theorem gN_add (A : List Int) (i j : Nat) : gN A (i + j) = gN A i * 256 ^ j + gN (A.drop i) j := by
  induction j with
  | zero => simp [gN]
  | succ j ih =>
    rw [← Nat.add_assoc, gN, ih, gN, getD_drop', Nat.pow_succ, Nat.mul_add, Nat.add_assoc]
    congr 1
    rw [← Nat.mul_assoc, ← Nat.mul_assoc, Nat.mul_comm 256, Nat.mul_assoc, Nat.mul_assoc, Nat.mul_comm 256]
def glI (B : List Int) (i : Nat) : List Nat := (List.range 4).map fun k => if k < i then gN ((B.drop (32 - 8 * (k + 1))).take 8) 8 else 0
theorem glI_0 (B : List Int) : glI B 0 = List.replicate 4 0 := rfl
theorem glI_len (B : List Int) (i : Nat) : (glI B i).length = 4 := by simp [glI]
theorem glI_s {B : List Int} (_ : U8' B) {i : Nat} (hi : i < 4) (_ : 32 ≤ B.length) : zs (glI B (i + 1)) = (zs (glI B i)).set i ((gN ((B.drop (32 - 8 * (i + 1))).take 8) 8 : Nat) : Int) := by
  match i, hi with
  | 0, _ => rfl
  | 1, _ => rfl
  | 2, _ => rfl
  | 3, _ => rfl
theorem gl_w {B : List Int} (hU : U8' B) (a i : Nat) (h : a + 8 + 8 * i = 32) : gN B 32 / 256 ^ (8 * i) % 256 ^ 8 = gN ((B.drop a).take 8) 8 := by
  have h1 := gN_lt (U8'_drop hU (a + 8)) (8 * i)
  have h2 := gN_lt (U8'_drop hU a) 8
  rw [gN_take _ _ _ (Nat.le_refl _), ← h, gN_add B (a + 8) (8 * i), gN_add B a 8, Nat.add_comm, Nat.add_mul_div_right _ _ (Nat.pos_of_ne_zero (by simp)), Nat.div_eq_of_lt h1, Nat.zero_add, Nat.add_comm, Nat.add_mul_mod_self_right, Nat.mod_eq_of_lt h2]
theorem glI_4 {B : List Int} (hU : U8' B) (_ : 32 ≤ B.length) : glI B 4 = wd (gN B 32) := by
  have h : ∀ a i, a + 8 + 8 * i = 32 → gN ((B.drop a).take 8) 8 = dg 18446744073709551616 (gN B 32) i := fun a i h => by
    rw [← gl_w hU a i h]
    show _ = gN B 32 / 18446744073709551616 ^ i % 18446744073709551616
    rw [Nat.pow_mul]
  show [_, _, _, _] = [_, _, _, _]
  rw [← h 24 0 rfl, ← h 16 1 rfl, ← h 8 2 rfl, ← h 0 3 rfl]
  rfl
/-- How many bytes, and these. -/
def pbB (b : List Int) : List Int := be 4 b.length ++ b
theorem pbB_len (b : List Int) : (pbB b).length = 4 + b.length := by rw [pbB, List.length_append, be_len]
def xA (a : List Int) (n : Nat) (L : List (List Int)) : Nat → List Int
  | 0 => pbB a ++ be 4 n
  | i + 1 => xA a n L i ++ pbB (L.getD i [])
theorem xA_0 (a : List Int) (n : Nat) (L : List (List Int)) : xA a n L 0 = pbB a ++ be 4 n := rfl
theorem xA_s (a : List Int) (n : Nat) (L : List (List Int)) (i : Nat) : xA a n L (i + 1) = xA a n L i ++ pbB (L.getD i []) := rfl
theorem xA_le (a : List Int) (n : Nat) (L : List (List Int)) (hL : ∀ i, i < L.length → (L.getD i []).length ≤ 900000) (i : Nat) (hi : i ≤ L.length) : (xA a n L i).length ≤ 8 + a.length + i * 900004 := by
  induction i with
  | zero => rw [xA_0, List.length_append, pbB_len, be_len]; omega
  | succ i ih =>
    have := ih (by omega)
    have := hL i (by omega)
    rw [xA_s, List.length_append, pbB_len]; omega
/-- Parts, as something, told as bytes; their sum. -/
def asX (a : List Int) (L : List (List Int)) : List Int := xA a L.length L L.length
def asB (a : List Int) (L : List (List Int)) : List Int := sumL (tk run0 (asX a L)) (asX a L).length
theorem asB_def (a : List Int) (L : List (List Int)) : sumL (tk run0 (xA a L.length L L.length)) (xA a L.length L L.length).length = asB a L := rfl
theorem U8'_ob (s : List Int) (i : Nat) : U8' (ob s i) := by
  induction i with
  | zero => exact fun i => by simp [ob]
  | succ i ih =>
    obtain ⟨v, hv, e⟩ : ∃ v : Nat, v < 18446744073709551616 ∧ IntKind.u64.wrap (s.getD i 0) = (v : Int) := ⟨(s.getD i 0 % 18446744073709551616).toNat, by omega, by
      show s.getD i 0 % 18446744073709551616 = _
      omega⟩
    have h := rowL_1 (ob s i) 4 v (by decide) hv
    rw [ob_len] at h
    have h2 : ob s (i + 1) = ob s i ++ be 4 v := by rw [ob, e]; exact h
    rw [h2]
    exact U8'_app ih (U8'_be _ _)
theorem U8'_sumL (q : Run) (t : Nat) : U8' (sumL q t) := by
  have hl : ((ob (sumQ q t).s 8).take 32).length = 32 := by rw [List.length_take, ob_len]; rfl
  have h := spl_app [] ((ob (sumQ q t).s 8).take 32) (z 32) 0 32 32 rfl hl (Nat.le_refl _) rfl
  have h2 : sumL q t = (ob (sumQ q t).s 8).take 32 ++ [] := h
  rw [h2, List.append_nil]
  exact U8'_take (U8'_ob _ _) 32
theorem U8'_asB (a : List Int) (L : List (List Int)) : U8' (asB a L) := U8'_sumL _ _
/-- A sum as something, as a number. -/
def asN (a : List Int) (L : List (List Int)) (v : Nat) : Nat := gN (asB a (L ++ [[(v : Int)]])) 32
theorem asN_lt (a : List Int) (L : List (List Int)) (v : Nat) : asN a L v < 2 ^ 256 := gN_lt (U8'_asB _ _) 32
theorem asN_def (a : List Int) (L : List (List Int)) (v : Nat) : gN (asB a (L ++ [[(v : Int)]])) 32 = asN a L v := rfl
def nmB (a : List Int) (L : List (List Int)) (m : Nat) : Nat := (asN a L 1 + 2 ^ 256 * asN a L 0) % m
theorem nmB_lt (a : List Int) (L : List (List Int)) {m : Nat} (h : 0 < m) : nmB a L m < m := Nat.mod_lt _ h
theorem nmB_def (a : List Int) (L : List (List Int)) (m : Nat) : (asN a L 1 + 2 ^ 256 * asN a L 0) % m = nmB a L m := rfl
/-- Rows, as memory holds them. -/
def rwF (L : List (List Int)) : Nat → Nat → SV := fun i _ => (L.map (SV.fzi .u8)).getD i .nils
theorem rwF_def (L : List (List Int)) (i j : Nat) : rwF L i j = (L.map (SV.fzi .u8)).getD i .nils := rfl
theorem rwF_at (L : List (List Int)) {i j : Nat} (h : i < L.length) : rwF L i j = .fzi .u8 (L.getD i []) := rows_at L h
theorem rwF_out (L : List (List Int)) {i j : Nat} (h : L.length ≤ i) : rwF L i j = .nils := by
  unfold rwF; rw [List.getD_eq_getElem?_getD, List.getElem?_eq_none (by simpa using h)]; rfl
theorem rwF_in (L : List (List Int)) (x : List Int) {i j : Nat} (h : i < L.length) : rwF (L ++ [x]) i j = rwF L i j := by
  rw [rwF_at L h, rwF_at _ (by simp; omega), List.getD_eq_getElem?_getD, List.getD_eq_getElem?_getD, List.getElem?_append_left h]
theorem rwF_new (L : List (List Int)) (x : List Int) {i : Nat} (j : Nat) (h : i < 1) : rwF (L ++ [x]) (L.length + i) j = .fzi .u8 x := by
  have : i = 0 := by omega
  subst this
  rw [rwF_at _ (by simp), List.getD_eq_getElem?_getD]; simp
theorem row1_at (x : SV) {i : Nat} (h : i < 1) : x = [x].getD i .nils := by
  have : i = 0 := by omega
  subst this; rfl
theorem conv_rwF {H : Heap} {id n dc c : Nat} {L : List (List Int)} (hb : hget H id = some ⟨false, [.rows c 1 (rwF L)]⟩) (hn : L.length = n) (hc : n ≤ c) (hd : n ≤ dc) : AConv [id] H (.s (.slice id 0 0 n dc)) (.s (ROWS L)) := by
  subst hn
  refine conv_rows (R := []) hb rfl hd fun i j hi hj => ?_
  have hj0 : j = 0 := by omega
  subst hj0
  refine ⟨.noid (rwF L i 0), ?_, ?_, ?_⟩
  · rw [show 0 + 0 + (i * 1 + 0) = i by omega]; exact rows1_at _ (by omega)
  · exact fun c W ρ w v _ _ h => SV.rep_le (noM_le ρ) h.1
  · show ((L.map (SV.fzi .u8)).getD i .nils).idB (fun _ => false) = true
    rw [rows_at L hi]; rfl
theorem asB_len (a : List Int) (L : List (List Int)) : (asB a L).length = 32 := sumL_len _ _
end Go.Proofs.X
end

section
/- Types and functions of numbers and bytes, as instances. -/
open Go Go.Bx Go.Proofs
namespace Go.Proofs.X
instance : Clb Tryz.prog 72 := ⟨_, Tryz.func72, by kernel_rfl, rfl⟩
instance : Clb Tryz.prog 114 := ⟨_, Tryz.func114, by kernel_rfl, rfl⟩
instance : Clb Tryz.prog 68 := ⟨_, Tryz.func68, by kernel_rfl, rfl⟩
instance : Clb Tryz.prog 105 := ⟨_, Tryz.func105, by kernel_rfl, rfl⟩
instance : Clb Tryz.prog 71 := ⟨_, Tryz.func71, by kernel_rfl, rfl⟩
instance : Clb Tryz.prog 92 := ⟨_, Tryz.func92, by kernel_rfl, rfl⟩
instance : Clb Tryz.prog 24 := ⟨_, Tryz.func24, by kernel_rfl, rfl⟩
instance : Clb Tryz.prog 102 := ⟨_, Tryz.func102, by kernel_rfl, rfl⟩
instance : Clb Tryz.prog 117 := ⟨_, Tryz.func117, by kernel_rfl, rfl⟩
end Go.Proofs.X
end

section
open Go Go.Bx Go.Proofs
namespace Go.Proofs.X
set_option maxRecDepth 100000 in
set_option maxHeartbeats 4000000 in
theorem row0_m (B ws : List Int) (each tot : Nat) (ht : tot = B.length + each * ws.length) (htb : tot ≤ 140737488355328) (hws : ws.length ≤ 1000000) (h0 : B.length = 0) : Con Tryz.prog 106 [.s (.fzi .u8 B), .s (.int .i64 ((each : Nat) : Int)), .s (.fzi .u64 ws)] [] (.s (.slice 0 0 0 tot tot)) [some ⟨true, [.ints .u8 tot (rr tot each ws.length ws ws.length)]⟩] := by
 refine con_in 44 Tryz.func106 rfl rfl (m := 0) rfl ?_
 intro E hP hn hE
 refine w_seq ?_
 refine g_reg hP hn ?_
 refine s_op k_bx ?_
 refine s_op k_as ?_
 refine s_nil trivial ?_
 refine n_wp ?_
 refine w_seq ?_
 refine g_reg hP hn ?_
 refine s_op k_mv ?_
 refine s_op k_len ?_
 refine s_op k_ld ?_
 refine s_op k_mv ?_
 refine s_op k_len ?_
 refine s_op k_mul ?_
 refine s_op (k_add (by exact l_bin rfl rfl (b_add (r := ((tot : Nat) : Int)) (by rw [ht]; exact m_add (by omega))))) ?_
 refine s_op k_mk ?_
 refine s_op k_al ?_
 refine s_st k_st ?_
 refine s_nil trivial ?_
 refine n_wp ?_
 refine w_seq ?_
 refine g_reg hP hn ?_
 refine s_op k_ld ?_
 refine s_op k_len ?_
 refine s_op k_al ?_
 refine s_st k_st ?_
 refine s_nil trivial ?_
 refine n_wp ?_
 refine w_seq ?_
 refine w_seq ?_
 refine g_reg hP hn ?_
 refine s_op k_mv ?_
 refine s_op (k_call [] (con := backward_c _)) ?_
 refine s_nil trivial ?_
 refine n_wp ?_
 refine w_block ?_
 have hmul : each * ws.length ≤ tot := by omega
 refine w_weak (weak_tm (T' := [(0, .s (.fzi .u8 B)), (4, .s (.ptr 0 0 0)), (7, .s (.ptr 2 0 0)), (8, .s (.ptr 3 0 0)), (22, .s (.clo 142 1 (capF [.ptr 4 0 0])))])) ?_
 refine w_rangeFunc (gf := 142) (n := 1) (q := capF [.ptr 4 0 0]) (Hend := RH each tot (tot - each * ws.length) (rr tot each ws.length ws ws.length) ws) rfl (by rw [hP]; exact Clb.h) (Nat.le_refl _) (back_iter hP hn 4 ws 23 24 (by decide) (by decide) _ _ _ (fun k => RH each tot (tot - each * k) (rr tot each ws.length ws k) ws) hws (fun _ _ => rfl) (fun k hk => ?_)) ?_
 · have hk1 : each * (k + 1) ≤ each * ws.length := Nat.mul_le_mul_left each hk
   have hnx : tot - each * (k + 1) = tot - each * k - each := by rw [Nat.mul_succ]; omega
   have hA1 : each ≤ tot - each * k := by rw [Nat.mul_succ] at hk1; omega
   have hA2 : tot - each * k ≤ tot := Nat.sub_le _ _
   show YRound _ _ _ _ _ (RH each tot (tot - each * k) (rr tot each ws.length ws k) ws) (RH each tot (tot - each * (k + 1)) (rb (rr tot each ws.length ws k) (tot - each * k) (ws.getD (ws.length - 1 - k) 0) each).1 ws)
   rw [hnx]
   have hout := rr_len tot each ws.length ws k
   generalize tot - each * k = A at *
   generalize rr tot each ws.length ws k = out at *
   generalize ws.getD (ws.length - 1 - k) 0 = v at *
   refine ⟨Nat.le_refl _, [(4, .s (.ptr 0 0 0)), (7, .s (.ptr 2 0 0)), (8, .s (.ptr 3 0 0)), (10, .s (.int .u64 v))], fun l E hP hn hE => ⟨?_, ?_⟩⟩
   · skip
     refine ig_reg hP hn ?_
     refine s_op k_as ?_
     refine s_nil trivial ?_
     exact ⟨rfl, weak_tm⟩
   · skip
     refine i_block ?_
     refine i_seq ?_
     refine ig_reg hP hn ?_
     refine s_op k_ld ?_
     refine s_op k_mv ?_
     refine s_nil trivial ?_
     refine ni_wp ?_
     refine i_block ?_
     refine i_loop (fun m T H => ∃ j, j ≤ each ∧ m = each - j ∧ T = [(4, .s (.ptr 0 0 0)), (7, .s (.ptr 2 0 0)), (8, .s (.ptr 3 0 0)), (10, .s (.int .u64 (rb out A v j).2)), (25, .s (.int .i64 ((each : Nat) : Int))), (26, .s (.int .i64 ((j : Nat) : Int)))] ∧ H = RH each tot (A - j) (rb out A v j).1 ws) (each) ⟨0, by omega, rfl, rfl, rfl⟩ weak_tm ?_
     rintro n_ T_ H_ ⟨j, hj, rfl, rfl, rfl⟩
     have hlj : (rb out A v j).1.length = tot := (rb_len out A v j).trans hout
     refine i_seq ?_
     refine ig_reg hP hn ?_
     refine s_op k_lss ?_
     refine s_nil trivial ?_
     refine ni_wp ?_
     refine i_seq ?_
     refine iw_if rfl (fun h_t27 => ?_) (fun h_t27 => ?_)
     · skip
       refine i_skip ?_
       refine ni_wp ?_
       refine i_seq ?_
       refine i_block ?_
       refine i_seq ?_
       refine ig_reg hP hn ?_
       refine s_op k_ld ?_
       refine s_op k_sub ?_
       refine s_st k_st ?_
       refine s_nil trivial ?_
       refine ni_wp ?_
       refine ig_reg hP hn ?_
       refine s_op k_ld ?_
       refine s_op k_ld ?_
       refine s_op k_mv ?_
       refine s_op k_cv ?_
       refine s_op k_mv ?_
       refine s_op (k_quo (by exact l_bin rfl rfl (b_quo (by decide) rfl))) ?_
       refine s_op k_ix ?_
       refine s_st k_st ?_
       refine s_op k_as ?_
       refine s_nil trivial ?_
       refine n_blo ?_
       refine ni_wp ?_
       refine ig_reg hP hn ?_
       refine s_op k_add ?_
       refine s_op k_mv ?_
       refine s_nil trivial ?_
       exact n_round (each - (j + 1)) (by omega) ⟨j + 1, by omega, rfl, rfl, rfl⟩ weak_tm
     · skip
       have hje : j = each := by omega
       subst hje
       refine i_exit ?_
       refine x_thn ?_
       refine x_thn ?_
       refine x_eq ?_
       refine n_blo ?_
       exact ⟨rfl, weak_tm⟩
 have hat : tot - each * ws.length = B.length := by omega
 rw [hat]
 refine n_blo ?_
 refine n_wp ?_
 refine w_seq ?_
 refine g_reg hP hn ?_
 refine s_op k_ld ?_
 refine s_op k_ld ?_
 refine s_op k_sl ?_
 refine s_op k_mv ?_
 refine s_op a_copy0 ?_
 refine s_nil trivial ?_
 refine n_wp ?_
 refine w_seq ?_
 refine g_reg hP hn ?_
 refine s_op k_ld ?_
 refine s_op k_as ?_
 refine s_nil trivial ?_
 refine n_wp ?_
 refine w_ret ?_
 exact d_retw hP hn (r_tmp Tryz.results106) (wk hE [1])

theorem row4_n (v : Nat) (hv : v < 18446744073709551616) : Con Tryz.prog 106 [.s (.fzi .u8 []), .s (.int .i64 ((4 : Nat) : Int)), .s (.fzi .u64 [(v : Int)])] [] (.s (.slice 0 0 0 4 4)) [some ⟨true, [.ints .u8 4 (be 4 v)]⟩] := by
 have h := row0_m [] [(v : Int)] 4 4 rfl (Nat.le_of_ble_eq_true rfl) (Nat.le_of_ble_eq_true rfl) rfl
 have e := rowL_1 [] 4 v (by decide) hv
 have e : rr 4 4 1 [(v : Int)] 1 = be 4 v := e
 rw [show rr 4 4 [(v : Int)].length [(v : Int)] [(v : Int)].length = be 4 v from e] at h
 exact h

attribute [local irreducible] bitsN wd dg be rr gN glI
theorem put_n (B : List Int) (v n : Nat) (hn0 : 0 < n) (hn8 : n ≤ 8) (hv : v < 18446744073709551616) (hB : B.length ≤ 140737488355000) : Con Tryz.prog 69 [.s (.fzi .u8 B), .s (.int .u64 ((v : Nat) : Int)), .s (.int .i64 ((n : Nat) : Int))] [] (.s (.fzi .u8 (B ++ be n v))) [] := by
 have h := put_c B ((v : Nat) : Int) n hn8 hB
 rw [Nat.mul_one, rowL_1 B n v hn0 hv] at h
 exact h
theorem get_n (B : List Int) (m : Nat) (h0 : 0 < m) (h8 : m ≤ 8) (hm : m ≤ B.length) (hU : U8' B) : Con Tryz.prog 42 [.s (.fzi .u8 B), .s (.int .i64 ((m : Nat) : Int))] [] (.tup [.s (.int .u64 ((gN B m : Nat) : Int)), .s (.int .i64 0)]) [] := by
 have h := get_c B m h0 h8 hm
 rw [getI_n hU m h8 hm] at h
 exact h

set_option maxRecDepth 100000 in
set_option maxHeartbeats 4000000 in
theorem clip_g (len q : Nat) (l : List Int) : Con Tryz.prog 71 [.s (.gro 0 1 len)] [some ⟨true, [.ints .u8 q l]⟩] (.s (.gro 0 1 len)) [some ⟨true, [.ints .u8 q l]⟩] := by
 refine con_in 9 Tryz.func71 rfl rfl (m := 1) rfl ?_
 intro E hP hn hE
 refine w_seq ?_
 refine g_reg hP hn ?_
 refine s_op k_as ?_
 refine s_nil trivial ?_
 refine n_wp ?_
 refine w_seq ?_
 refine g_reg hP hn ?_
 refine s_op k_mv ?_
 refine s_op k_mv ?_
 refine s_op k_len ?_
 refine s_op k_mv ?_
 refine s_op k_len ?_
 refine s_op k_slc ?_
 refine s_op k_as ?_
 refine s_nil trivial ?_
 refine n_wp ?_
 refine w_ret ?_
 exact d_ret hP hn hE [0] (by first | exact r_tmp Tryz.results71 | exact r_tmpa Tryz.results71)

set_option maxRecDepth 100000 in
set_option maxHeartbeats 4000000 in
theorem grow_m (L m : Nat) (l : List Int) (hl : l.length = L) (h0 : 0 < m) (hb : L + m ≤ 1000000) : Con Tryz.prog 105 [.s (.slice 0 0 0 L L), .s (.int .i64 ((m : Nat) : Int))] [some ⟨true, [.ints .u8 L l]⟩] (.s (.gro 1 1 L)) [some ⟨true, [.ints .u8 L l]⟩, some ⟨true, [.ints .u8 (L + m) (l ++ List.replicate m 0)]⟩] := by
 refine con_in 27 Tryz.func105 rfl rfl (m := 1) rfl ?_
 intro E hP hn hE
 refine w_seq ?_
 refine g_reg hP hn ?_
 refine s_op k_as ?_
 refine s_nil trivial ?_
 refine n_wp ?_
 refine w_seq ?_
 refine w_seq ?_
 refine g_reg hP hn ?_
 refine s_op k_mv ?_
 refine s_op k_lss ?_
 refine s_nil trivial ?_
 refine n_wp ?_
 refine w_F rfl ?_ (decide_eq_false (by omega))
 refine w_skip ?_
 refine n_wp ?_
 refine w_seq ?_
 refine w_seq ?_
 refine g_reg hP hn ?_
 refine s_op k_mv ?_
 refine s_op k_mv ?_
 refine s_op k_cap ?_
 refine s_op k_mv ?_
 refine s_op k_len ?_
 refine s_op k_sub ?_
 refine s_op k_sub ?_
 refine s_op k_as ?_
 refine s_nil trivial ?_
 refine n_wp ?_
 refine w_seq ?_
 refine g_reg hP hn ?_
 refine s_op k_mv ?_
 refine s_op k_gtr ?_
 refine s_nil trivial ?_
 refine n_wp ?_
 refine w_T rfl ?_ (decide_eq_true (by omega))
 refine g_reg hP hn ?_
 refine s_op k_mv ?_
 refine s_op k_mv ?_
 refine s_op k_cap ?_
 refine s_op k_sl ?_
 refine s_op k_mv ?_
 refine s_op (k_apz m) ?_
 refine s_op k_mv ?_
 refine s_op k_len ?_
 refine s_op (k_slg L) ?_
 refine s_op k_as ?_
 refine s_nil trivial ?_
 refine n_wp ?_
 refine w_seq ?_
 refine g_reg hP hn ?_
 refine s_op k_mv ?_
 refine s_op k_as ?_
 refine s_nil trivial ?_
 refine n_wp ?_
 refine w_ret ?_
 exact d_ret hP hn hE [0, 1] (by first | exact r_tmp Tryz.results105 | exact r_tmpa Tryz.results105)

set_option maxRecDepth 100000 in
set_option maxHeartbeats 4000000 in
theorem pb_n (A : List Int) (h0 : 0 < A.length) (hA : A.length ≤ 900000) : Con Tryz.prog 68 [.s (.fzi .u8 []), .s (.fzi .u8 A)] [] (.s (.fzi .u8 (be 4 A.length ++ A))) [] := by
 refine con_in 19 Tryz.func68 rfl rfl (m := 0) rfl ?_
 intro E hP hn hE
 refine w_seq ?_
 refine g_reg hP hn ?_
 refine s_op k_as ?_
 refine s_nil trivial ?_
 refine n_wp ?_
 refine w_seq ?_
 refine g_reg hP hn ?_
 refine s_op k_mv ?_
 refine s_op k_mv ?_
 refine s_op k_len ?_
 refine s_op k_cv ?_
 refine s_op k_bsf ?_
 refine s_op (k_call [] (con := row4_n A.length (by omega))) ?_
 refine s_op k_mv ?_
 refine s_op k_len ?_
 refine s_op (k_call [1] (con := grow_m 4 A.length (be 4 A.length) (be_len _ _) h0 (by omega))) ?_
 refine s_op k_as ?_
 refine s_nil trivial ?_
 refine n_wp ?_
 refine w_seq ?_
 refine w_weak (T' := [(1, .s (.fzi .u8 A)), (5, .s (.gro 0 1 4))]) (H' := [some ⟨true, [.ints .u8 (4 + A.length) (be 4 A.length ++ List.replicate A.length 0)]⟩]) (wk hE [2]) ?_
 refine g_reg hP hn ?_
 refine s_op k_mv ?_
 refine s_op k_mv ?_
 refine s_op (k_apg (hl := by simp [be_len])) ?_
 refine s_op (k_call [1] (con := clip_g _ _ _)) ?_
 refine s_op k_as ?_
 refine s_nil trivial ?_
 refine n_wp ?_
 refine w_ret ?_
 have PBL : ((be 4 A.length ++ List.replicate A.length 0).take 4 ++ A).length = 4 + A.length := by simp [be_len]
 have PBT : ((be 4 A.length ++ List.replicate A.length 0).take 4 ++ A).take (4 + A.length) = be 4 A.length ++ A := by rw [List.take_of_length_le (by rw [PBL]; exact Nat.le_refl _), List.take_left' (be_len 4 _)]
 exact d_retw hP hn (r_tmp Tryz.results68) ((frz_gro 0 (hl := PBL) (hl' := PBT)).trans (wk hE []))

set_option maxRecDepth 100000 in
set_option maxHeartbeats 4000000 in
theorem pl_n (B : List Int) (n : Nat) (hB : B.length ≤ 140737488355000) : Con Tryz.prog 72 [.s (.fzi .u8 B), .agg [.ints .u64 4 (zs (wd n))]] [] (.s (.fzi .u8 (B ++ be 32 n))) [] := by
 refine con_in 16 Tryz.func72 rfl rfl (m := 0) rfl ?_
 intro E hP hn hE
 refine w_seq ?_
 refine g_reg hP hn ?_
 refine s_op k_bx ?_
 refine s_op k_as ?_
 refine s_nil trivial ?_
 refine n_wp ?_
 refine w_seq ?_
 refine g_reg hP hn ?_
 refine s_op k_mv ?_
 refine s_op k_ix ?_
 refine s_op k_ld ?_
 refine s_op k_ix ?_
 refine s_op k_ld ?_
 refine s_op k_ix ?_
 refine s_op k_ld ?_
 refine s_op k_ix ?_
 refine s_op k_ld ?_
 refine s_op k_bsf ?_
 simp only [zs_getD]
 refine s_op (k_call [] (con := row_c B (zs [(wd n).getD 3 0, (wd n).getD 2 0, (wd n).getD 1 0, (wd n).getD 0 0]) 8 (B.length + 8 * 4) rfl (by omega) (Nat.le_of_ble_eq_true rfl))) ?_
 refine s_op k_as ?_
 refine s_nil trivial ?_
 refine n_wp ?_
 rw [show (zs [(wd n).getD 3 0, (wd n).getD 2 0, (wd n).getD 1 0, (wd n).getD 0 0]).length = 4 from rfl, rowL_4]
 refine w_ret ?_
 exact d_ret hP hn hE [] (by first | exact r_tmp Tryz.results72 | exact r_tmpa Tryz.results72)

set_option maxRecDepth 100000 in
set_option maxHeartbeats 4000000 in
theorem gl_n (B : List Int) (h32 : 32 ≤ B.length) (hU : U8' B) : Con Tryz.prog 114 [.s (.fzi .u8 B)] [] (.tup [.agg [.ints .u64 4 (zs (wd (gN B 32)))], .s (.int .i64 0)]) [] := by
 refine con_in 31 Tryz.func114 rfl rfl (m := 0) rfl ?_
 intro E hP hn hE
 refine w_seq ?_
 refine g_reg hP hn ?_
 refine s_op k_al ?_
 refine s_op k_as ?_
 refine s_nil trivial ?_
 refine n_wp ?_
 refine w_seq ?_
 refine w_seq ?_
 refine g_reg hP hn ?_
 refine s_op k_mv ?_
 refine s_nil trivial ?_
 refine n_wp ?_
 refine w_block ?_
 refine c_loop (fun m_ T H => ∃ i, i ≤ 4 ∧ m_ = 4 - i ∧ T = [(0, .s (.fzi .u8 B)), (2, .s (.ptr 0 0 0)), (3, .s (.int .i64 0)), (6, .s (.int .i64 ((i : Nat) : Int)))] ∧ H = [some ⟨true, [.ints .u64 4 (zs (glI B i))]⟩]) (4) ⟨0, by omega, rfl, rfl, rfl⟩ (by rw [glI_0]; exact wk hE [0]) ?_
 rintro n_ T_ H_ ⟨i, hi, rfl, rfl, rfl⟩
 have hgl : (zs (glI B i)).length = 4 := by rw [zs_len, glI_len]
 refine w_seq ?_
 refine g_reg hP hn ?_
 refine s_op k_lss ?_
 refine s_nil trivial ?_
 refine n_wp ?_
 refine w_seq ?_
 refine w_if rfl (fun h_t7 => ?_) (fun h_t7 => ?_)
 · skip
   refine w_skip ?_
   refine n_wp ?_
   refine w_seq ?_
   refine w_block ?_
   refine w_seq ?_
   refine g_reg hP hn ?_
   refine s_op k_mv ?_
   refine s_op k_as ?_
   refine s_nil trivial ?_
   refine n_wp ?_
   refine w_seq ?_
   refine w_seq ?_
   refine g_reg hP hn ?_
   refine s_op k_mv ?_
   refine s_op k_len ?_
   refine s_op k_lss ?_
   refine s_nil trivial ?_
   refine n_wp ?_
   refine w_F rfl ?_ (decide_eq_false (by omega))
   refine w_skip ?_
   refine n_wp ?_
   refine w_seq ?_
   refine g_reg hP hn ?_
   refine s_op k_mv ?_
   refine s_op k_add ?_
   refine s_op k_mul ?_
   refine s_op k_sub ?_
   refine s_op k_as ?_
   refine s_nil trivial ?_
   refine n_wp ?_
   refine g_reg hP hn ?_
   refine s_op k_mv ?_
   refine s_op k_mv ?_
   refine s_op k_mv ?_
   refine s_op k_mv ?_
   refine s_op k_add ?_
   refine s_op k_sl ?_
   refine s_op (k_call [] (con := get_n ((B.drop (32 - 8 * (i + 1))).take 8) 8 (by decide) (by decide) (by simp; omega) (U8'_take (U8'_drop hU _) 8))) ?_
   refine s_op k_mv ?_
   refine s_op k_ex ?_
   refine s_op k_ex ?_
   refine s_op k_ix ?_
   refine s_st k_st ?_
   refine s_op k_as ?_
   refine s_nil trivial ?_
   refine n_blo ?_
   refine n_wp ?_
   refine g_reg hP hn ?_
   refine s_op k_add ?_
   refine s_op k_mv ?_
   refine s_nil trivial ?_
   exact n_round (4 - (i + 1)) (by omega) ⟨i + 1, by omega, rfl, rfl, by rw [glI_s hU h_t7 h32]⟩ (wk hE [])
 · skip
   have hi4 : i = 4 := by omega
   rw [show glI B i = wd (gN B 32) by rw [hi4]; exact glI_4 hU h32]
   refine w_exit ?_
   refine x_thn ?_
   refine x_thn ?_
   refine x_eq ?_
   refine n_wp ?_
   refine w_seq ?_
   refine g_reg hP hn ?_
   refine s_op k_ld ?_
   refine s_op k_mv ?_
   refine s_st k_st ?_
   refine s_op k_as ?_
   refine s_nil trivial ?_
   refine n_wp ?_
   refine w_ret ?_
   exact d_ret hP hn hE [] (ret2 Tryz.results114 r_cella (by first | exact ri_tmp rfl | exact ri_tmpa rfl))

end Go.Proofs.X
end

section
open Go Go.Bx Go.Proofs
namespace Go.Proofs.X
theorem pb_b (A : List Int) (h0 : 0 < A.length) (hA : A.length ≤ 900000) : Con Tryz.prog 68 [.s (.fzi .u8 []), .s (.fzi .u8 A)] [] (.s (.fzi .u8 (pbB A))) [] := pb_n A h0 hA
theorem put0_n (v n : Nat) (hn0 : 0 < n) (hn8 : n ≤ 8) (hv : v < 18446744073709551616) : Con Tryz.prog 69 [.s (.fzi .u8 []), .s (.int .u64 ((v : Nat) : Int)), .s (.int .i64 ((n : Nat) : Int))] [] (.s (.fzi .u8 (be n v))) [] := put_n [] v n hn0 hn8 hv (by decide)
theorem takes1_n (a : List Int) (q : Run) (tot : Nat) (hq : RunOk q) (hl : tot + a.length < 4611686018427387904) : Con Tryz.prog 67 [.s (.ptr 0 0 0), .s (ROWS [a])] [some (RQ q tot)] (.tup []) [some (RQ (tk q a) (tot + a.length))] := takes1_c a q tot hq hl
theorem takes2_n (a b : List Int) (q : Run) (tot : Nat) (hq : RunOk q) (hl : tot + (a.length + b.length) < 4611686018427387904) : Con Tryz.prog 67 [.s (.ptr 0 0 0), .s (ROWS [a, b])] [some (RQ q tot)] (.tup []) [some (RQ (tk q (a ++ b)) (tot + (a ++ b).length))] := by
 have h := takes_c [a, b] q tot hq (Nat.le_of_ble_eq_true rfl) (by simp; omega) (fun i => by match i with | 0 => (show a.length ≤ _; omega) | 1 => (show b.length ≤ _; omega) | _ + 2 => simp)
 rw [show [a, b].flatten = a ++ b by simp] at h
 exact h

attribute [local irreducible] tk rr sumL ws ls dnI gI be xA asB pbB strL
set_option maxRecDepth 100000 in
set_option maxHeartbeats 4000000 in
theorem as_n (s : ByteArray) (L : List (List Int)) (hs : 0 < s.size) (hs2 : s.size ≤ 1000) (hL : L.length ≤ 1000) (hp : ∀ i, i < L.length → 0 < (L.getD i []).length ∧ (L.getD i []).length ≤ 900000) : Con Tryz.prog 24 [.s (.val (.string s)), .s (ROWS L)] [] (.agg [.ints .u8 32 (asB (strL s) L)]) [] := by
 refine con_in 33 Tryz.func24 rfl rfl (m := 0) rfl ?_
 intro E hP hn hE
 refine w_seq ?_
 refine g_reg hP hn ?_
 refine s_op k_al ?_
 refine s_nil trivial ?_
 refine n_wp ?_
 refine w_seq ?_
 refine g_reg hP hn ?_
 refine s_op (k_call [] (con := new_c) (v := .s (.ptr 1 0 0)) (hv := rfl) (H' := [some ⟨true, [.ints .u8 32 (z 32)]⟩, some (RQ run0 0)]) (hH := rfl)) ?_
 refine s_op k_as ?_
 refine s_nil trivial ?_
 refine n_wp ?_
 refine w_seq ?_
 refine g_reg hP hn ?_
 refine s_op k_mv ?_
 refine s_op k_mv ?_
 refine s_op (l_bytes rfl Und.h Und.h Und.h) ?_
 refine s_op (k_call [] (con := pb_b (strL s) (by rw [strL_len]; exact hs) (by rw [strL_len]; omega))) ?_
 refine s_op k_mv ?_
 refine s_op k_len ?_
 refine s_op k_cv ?_
 refine s_op (k_call [] (con := put0_n L.length 4 (by decide) (by decide) (by omega))) ?_
 refine s_op (k_bsz [.fzi .u8 (pbB (strL s)), .fzi .u8 (be 4 L.length)]) ?_
 refine s_op (k_call [1] (con := takes2_n (pbB (strL s)) (be 4 L.length) run0 0 run0_ok (by rw [pbB_len, be_len, strL_len]; omega)) (H' := [some ⟨true, [.ints .u8 32 (z 32)]⟩, some (RQ (tk run0 ((pbB (strL s)) ++ (be 4 L.length))) (0 + ((pbB (strL s)) ++ (be 4 L.length)).length)), none]) (hH := rfl)) ?_
 refine s_nil trivial ?_
 refine n_wp ?_
 refine w_seq ?_
 refine w_seq ?_
 refine g_reg hP hn ?_
 refine s_op k_mv ?_
 refine s_op k_len ?_
 refine s_op k_mv ?_
 refine s_nil trivial ?_
 refine n_wp ?_
 refine w_block ?_
 refine c_loop (fun m_ T H => ∃ i q t, i ≤ L.length ∧ m_ = L.length - i ∧ q = tk run0 (xA (strL s) L.length L i) ∧ t = (xA (strL s) L.length L i).length ∧ T = [(4, .s (.ptr 0 0 0)), (5, .s (.ptr 1 0 0)), (19, .s (ROWS L)), (20, .s (.int .i64 ((L.length : Nat) : Int))), (21, .s (.int .i64 ((i : Nat) : Int)))] ∧ H = [some ⟨true, [.ints .u8 32 (z 32)]⟩, some (RQ q t)]) (L.length) ⟨0, _, _, by omega, rfl, rfl, rfl, rfl, rfl⟩ (by rw [xA_0, Nat.zero_add]; exact wk hE [0, 1]) ?_
 rintro n_ T_ H_ ⟨i, q, t, hi, rfl, hq, ht, rfl, rfl⟩
 have hok : RunOk q := hq ▸ tk_ok run0_ok _
 have hle := xA_le (strL s) L.length L (fun i h => (hp i h).2) i hi
 rw [← ht, strL_len] at hle
 have hle2 : i * 900004 ≤ 1000 * 900004 := Nat.mul_le_mul_right _ (by omega)
 refine w_seq ?_
 refine g_reg hP hn ?_
 refine s_op k_lss ?_
 refine s_nil trivial ?_
 refine n_wp ?_
 refine w_seq ?_
 refine w_if rfl (fun h_t22 => ?_) (fun h_t22 => ?_)
 · skip
   refine w_skip ?_
   refine n_wp ?_
   refine w_seq ?_
   refine w_block ?_
   refine w_seq ?_
   refine g_reg hP hn ?_
   refine s_op k_ix ?_
   refine s_op (k_ld (by exact a_loadf (v := .fzi .u8 (L.getD i [])) rfl (by omega) (rows_at L h_t22))) ?_
   refine s_op k_as ?_
   refine s_nil trivial ?_
   refine n_wp ?_
   refine g_reg hP hn ?_
   refine s_op k_mv ?_
   refine s_op k_mv ?_
   refine s_op (k_call [] (con := pb_b (L.getD i []) (hp i h_t22).1 (hp i h_t22).2)) ?_
   refine s_op (k_bsz [.fzi .u8 (pbB (L.getD i []))]) ?_
   refine s_op (k_call [1] (con := takes1_n (pbB (L.getD i [])) q t hok (by rw [pbB_len]; have := hp i h_t22; omega)) (H' := [some ⟨true, [.ints .u8 32 (z 32)]⟩, some (RQ (tk q (pbB (L.getD i []))) (t + (pbB (L.getD i [])).length)), none]) (hH := rfl)) ?_
   refine s_nil trivial ?_
   refine n_blo ?_
   refine n_wp ?_
   refine g_reg hP hn ?_
   refine s_op k_add ?_
   refine s_op k_mv ?_
   refine s_nil trivial ?_
   exact n_round (L.length - (i + 1)) (by omega) ⟨i + 1, tk q (pbB (L.getD i [])), t + (pbB (L.getD i [])).length, by omega, rfl, by rw [xA_s, tk_append, hq], by rw [xA_s, List.length_append, ht], rfl, rfl⟩ (wk hE [])
 · skip
   have hiL : i = L.length := by omega
   subst hiL
   subst hq; subst ht
   refine w_exit ?_
   refine x_thn ?_
   refine x_thn ?_
   refine x_eq ?_
   refine n_wp ?_
   refine w_seq ?_
   refine g_reg hP hn ?_
   refine s_op k_mv ?_
   refine s_op (k_call [1] (con := sum_c (tk run0 (xA (strL s) L.length L L.length)) (xA (strL s) L.length L L.length).length hok (by omega)) (H' := [some ⟨true, [.ints .u8 32 (z 32)]⟩, some (RQ (tk run0 (xA (strL s) L.length L L.length)) (xA (strL s) L.length L L.length).length)]) (hH := rfl)) ?_
   refine s_st k_st ?_
   refine s_nil trivial ?_
   refine n_wp ?_
   rw [asB_def]
   refine w_ret ?_
   exact d_ret hP hn hE [] (r_cell Tryz.results24)

end Go.Proofs.X
end

section
open Go Go.Bx Go.Proofs
namespace Go.Proofs.X
attribute [local irreducible] tk rr sumL ws ls dnI gI be xA asB pbB strL wd gN asN nmB rwF
set_option maxRecDepth 100000 in
set_option maxHeartbeats 4000000 in
theorem num1_n (s : ByteArray) (L : List (List Int)) (v n : Nat) (hv : v < 256) (q : Nat → Nat → SV) (hLn : L.length = n) (hq : ∀ i, i < n → q i 0 = rwF L i 0) (hs : 0 < s.size) (hs2 : s.size ≤ 1000) (hL : L.length < 1000) (hp : ∀ i, i < L.length → 0 < (L.getD i []).length ∧ (L.getD i []).length ≤ 900000) : Con Tryz.prog 117 [.s (.int .u8 ((v : Nat) : Int)), .s (.ptr 0 0 0), .s (.ptr 1 0 0)] [some ⟨true, [.one (.val (.string s))]⟩, some ⟨true, [.one (.slice 2 0 0 n (n + 1))]⟩, some ⟨true, [.rows (n + 1) 1 (q)]⟩] (.agg [.ints .u64 4 (zs (wd (asN (strL s) L v)))]) [some ⟨true, [.one (.val (.string s))]⟩, some ⟨true, [.one (.slice 2 0 0 n (n + 1))]⟩, some ⟨true, [.rows (n + 1) 1 (rwF (L ++ [[(v : Int)]]))]⟩] := by
 refine con_in 21 Tryz.func117 rfl rfl (m := 3) rfl ?_
 intro E hP hn hE
 have hp2 : ∀ i, i < (L ++ [[(v : Int)]]).length → 0 < ((L ++ [[(v : Int)]]).getD i []).length ∧ ((L ++ [[(v : Int)]]).getD i []).length ≤ 900000 := fun i hi => by
   rcases Nat.lt_or_ge i L.length with h | h
   · rw [List.getD_eq_getElem?_getD, List.getElem?_append_left h, ← List.getD_eq_getElem?_getD]; exact hp i h
   · have : i = L.length := by simp at hi; omega
     subst this
     simp
 refine w_seq ?_
 refine g_reg hP hn ?_
 refine s_op k_al ?_
 refine s_nil trivial ?_
 refine n_wp ?_
 refine w_seq ?_
 refine g_any hP hn ?_
 refine s_op k_ld ?_
 refine s_op k_ld ?_
 refine s_op k_mv ?_
 refine s_op k_bsf ?_
 refine s_op (k_bsz [.fzi .u8 [(v : Int)]]) ?_
 refine s_op (k_apin (rwF (L ++ [[(v : Int)]])) (hg := fun i hi => by rw [← hLn, rwF_new L _ 0 hi]; exact row1_at _ hi) (hg2 := fun i h1 h2 => by rw [hq i (by omega)]; exact rwF_in L _ (by omega))) ?_
 refine s_op (k_tmp 2 (h := k_call [] (R := [2]) (hargs := by exact .cons (R1 := []) (R2 := [2]) rfl .same (.cons (R1 := [2]) (R2 := []) rfl (conv_rwF rfl (by simp [hLn]) (Nat.le_refl _) (Nat.le_refl _)) .nil)) (con := as_n s (L ++ [[(v : Int)]]) hs hs2 (by simp; omega) hp2))) ?_
 refine s_op k_al ?_
 refine s_st k_st ?_
 refine s_nil (by kernel_rfl) ?_
 refine n_wp ?_
 refine w_seq ?_
 refine w_weak (frz_ptr 5 32) ?_
 refine g_reg hP hn ?_
 refine s_op (k_slf (hl := asB_len _ _)) ?_
 refine s_op (k_call [] (con := gl_n (asB (strL s) (L ++ [[(v : Int)]])) (by rw [asB_len]; exact Nat.le_refl _) (U8'_asB _ _))) ?_
 refine s_op k_mv ?_
 refine s_op k_ex ?_
 refine s_op k_ex ?_
 refine s_op k_al ?_
 refine s_st k_st ?_
 refine s_op k_as ?_
 refine s_nil trivial ?_
 refine n_wp ?_
 refine w_seq ?_
 refine g_reg hP hn ?_
 refine s_op k_ld ?_
 refine s_st k_st ?_
 refine s_nil trivial ?_
 refine n_wp ?_
 rw [asN_def]
 refine w_ret ?_
 exact d_ret hP hn hE [0, 1, 2] (r_cell Tryz.results117)

set_option maxRecDepth 100000 in
set_option maxHeartbeats 4000000 in
theorem num_n (s : ByteArray) (L : List (List Int)) (m : Nat) (hm : m < 2 ^ 256) (hm0 : m ≠ 0) (hL0 : 0 < L.length) (hs : 0 < s.size) (hs2 : s.size ≤ 1000) (hL : L.length < 1000) (hp : ∀ i, i < L.length → 0 < (L.getD i []).length ∧ (L.getD i []).length ≤ 900000) : Con Tryz.prog 102 [.agg [.ints .u64 4 (zs (wd m))], .s (.val (.string s)), .s (ROWS L)] [] (.tup [.agg [.ints .u64 4 (zs (wd (nmB (strL s) L m)))], .s (.int .i64 0)]) [] := by
 refine con_in 28 Tryz.func102 rfl rfl (m := 0) rfl ?_
 intro E hP hn hE
 refine w_seq ?_
 refine g_reg hP hn ?_
 refine s_op k_bx ?_
 refine s_op k_bx ?_
 refine s_op k_al ?_
 refine s_op k_as ?_
 refine s_nil trivial ?_
 refine n_wp ?_
 refine w_seq ?_
 refine g_reg hP hn ?_
 refine s_op k_mv ?_
 refine s_op k_len ?_
 refine s_op k_mv ?_
 refine s_op k_len ?_
 refine s_op k_add ?_
 refine s_op (k_mkr (fun _ _ => .nils) (l := L.length) (c := L.length + 1)) ?_
 refine s_op k_al ?_
 refine s_st k_st ?_
 refine s_nil trivial ?_
 refine n_wp ?_
 refine w_seq ?_
 refine g_reg hP hn ?_
 refine s_op k_ld ?_
 refine s_op k_mv ?_
 refine s_op (k_cpr (rwF L) (h0 := hL0) (hg := by exact fun i _ => rwF_def L i 0) (hg2 := by exact fun i h1 h2 => rwF_out L h1)) ?_
 refine s_nil trivial ?_
 refine n_wp ?_
 refine w_seq ?_
 refine g_reg hP hn ?_
 refine s_op (k_fn [.ptr 1 0 0, .ptr 4 0 0]) ?_
 refine s_op k_as ?_
 refine s_nil trivial ?_
 refine n_wp ?_
 refine w_seq ?_
 refine g_any hP hn ?_
 refine s_op k_mv ?_
 refine s_op (k_callc [1, 4, 3] rfl (con := num1_n s L 1 L.length (by decide) (rwF L) rfl (fun _ _ => rfl) hs hs2 hL hp) (H' := [some ⟨true, [.ints .u64 4 (zs (wd m))]⟩, some ⟨true, [.one (.val (.string s))]⟩, some ⟨true, [.ints .u64 4 (zs (List.replicate 4 0))]⟩, some ⟨true, [.rows (L.length + 1) 1 (rwF (L ++ [[((1 : Nat) : Int)]]))]⟩, some ⟨true, [.one (.slice 3 0 0 L.length (L.length + 1))]⟩]) (hH := rfl)) ?_
 refine s_op k_mv ?_
 refine s_op (k_callc [1, 4, 3] rfl (con := num1_n s L 0 L.length (by decide) (rwF (L ++ [[((1 : Nat) : Int)]])) rfl (fun i hi => rwF_in L _ hi) hs hs2 hL hp) (H' := [some ⟨true, [.ints .u64 4 (zs (wd m))]⟩, some ⟨true, [.one (.val (.string s))]⟩, some ⟨true, [.ints .u64 4 (zs (List.replicate 4 0))]⟩, some ⟨true, [.rows (L.length + 1) 1 (rwF (L ++ [[((0 : Nat) : Int)]]))]⟩, some ⟨true, [.one (.slice 3 0 0 L.length (L.length + 1))]⟩]) (hH := rfl)) ?_
 refine s_op k_ld ?_
 refine s_op (k_call [] (con := wide_n (asN (strL s) L 1) (asN (strL s) L 0) m (asN_lt _ _ _) (asN_lt _ _ _) hm hm0)) ?_
 refine s_op k_ex ?_
 refine s_op k_ex ?_
 refine s_st k_st ?_
 refine s_op k_as ?_
 refine s_nil (by kernel_rfl) ?_
 refine n_wp ?_
 rw [nmB_def]
 refine w_ret ?_
 exact d_ret hP hn hE [] (ret2 Tryz.results102 r_cella (by first | exact ri_tmp rfl | exact ri_tmpa rfl))

end Go.Proofs.X
end

section
/- Types and functions of signatures, as instances. -/
open Go Go.Bx Go.Proofs
namespace Go.Proofs.X
instance : Clb Tryz.prog 63 := ⟨_, Tryz.func63, by kernel_rfl, rfl⟩
instance : Clb Tryz.prog 52 := ⟨_, Tryz.func52, by kernel_rfl, rfl⟩
instance : Clb Tryz.prog 89 := ⟨_, Tryz.func89, by kernel_rfl, rfl⟩
instance : Clb Tryz.prog 17 := ⟨_, Tryz.func17, by kernel_rfl, rfl⟩
instance : Clb Tryz.prog 23 := ⟨_, Tryz.func23, by kernel_rfl, rfl⟩
instance : Clb Tryz.prog 57 := ⟨_, Tryz.func57, by kernel_rfl, rfl⟩
instance : NoEq Tryz.prog 30 := ⟨by kernel_rfl⟩
instance : Und Tryz.prog 69 (.struct #[{ name := "C", type := 30, offset := 0, embedded := false, tag := "", pkgPath := "", byteOffset := 0 }, { name := "S", type := 30, offset := 4, embedded := false, tag := "", pkgPath := "", byteOffset := 32 }]) := ⟨Tryz.underlying69⟩
instance : Sz Tryz.prog 69 8 := ⟨Tryz.sizeOf69⟩
instance : Ag Tryz.prog 69 true := ⟨Tryz.isAgg69⟩
instance : Zv Tryz.prog 69 [.ints .u64 4 (zs (List.replicate 4 0)), .ints .u64 4 (zs (List.replicate 4 0))] := ⟨_, Tryz.zeroValue69, by kernel_rfl⟩
instance : FldC Tryz.prog 69 0 0 := ⟨_, _, _, Tryz.underlying69, rfl, Tryz.sizeOf30, by decide, rfl⟩
instance : FldC Tryz.prog 69 1 4 := ⟨_, _, _, Tryz.underlying69, rfl, Tryz.sizeOf30, by decide, rfl⟩
instance : Pl Tryz.prog 69 #[(0, 4), (4, 4)] := ⟨_, Tryz.underlying69, fun w => by kernel_rfl⟩
instance : Inf Tryz.prog 69 Tryz.t69 := ⟨by kernel_rfl⟩
end Go.Proofs.X
end

section
/- What may be a secret; keys. No program. -/
open Go Go.Bx
namespace Go.Proofs.X
/-- May it be a secret? -/
def secP (p q g a : Nat) : Bool := fineP p q g && (!decide (a = 0) && decide (a < q))
theorem fine_may {p q g : Nat} (h : fineP p q g = true) : mayP p g = true ∧ 1 < q := by
  simp only [fineP, inP, Bool.and_eq_true, decide_eq_true_eq] at h
  exact ⟨h.2.1, h.1.1⟩
theorem expE_0 {p a : Nat} (h : mayP p a = true) : expE p a = 0 := if_pos h
abbrev drawS : ByteArray := ⟨#[100, 114, 97, 119]⟩
abbrev signS : ByteArray := ⟨#[115, 105, 103, 110]⟩
def dr0 (q a : Nat) (B : List Int) : Nat := nmB (strL drawS) [be 32 a, B] q
def drP (q a : Nat) (B : List Int) : Nat := if dr0 q a B = 0 then 1 else dr0 q a B
def sg0 (q x y : Nat) (B : List Int) : Nat := nmB (strL signS) [be 32 x, be 32 y, B] q
theorem drP_1 {q a : Nat} {B : List Int} (h : dr0 q a B = 0) : wd 1 = wd (drP q a B) := by rw [drP, if_pos h]
theorem drP_2 {q a : Nat} {B : List Int} (h : ¬ dr0 q a B = 0) : wd (dr0 q a B) = wd (drP q a B) := by rw [drP, if_neg h]
theorem dr0_lt {q a : Nat} {B : List Int} (h : 1 < q) : dr0 q a B < q := nmB_lt _ _ (by omega)
theorem drP_lt {q a : Nat} {B : List Int} (h : 1 < q) : drP q a B < q := by
  unfold drP; split
  · exact h
  · exact dr0_lt h
theorem pow_ne {p q a n : Nat} (h : inP p q a = true) (hnq : n ≤ q) : a ^ n % p ≠ 0 := by
  simp only [inP, Bool.and_eq_true, decide_eq_true_eq] at h
  intro h0
  have h1 : a ^ q = a ^ n * a ^ (q - n) := by rw [← Nat.pow_add]; congr 1; omega
  have h2 := h.2
  rw [h1, Nat.mul_mod, h0, Nat.zero_mul, Nat.zero_mod] at h2
  cases h2
theorem expP_may {p q a n : Nat} (h : inP p q a = true) (hnq : n ≤ q) : mayP p (expP p a n) = true := by
  have h1 := pow_ne h hnq
  simp only [inP, Bool.and_eq_true, decide_eq_true_eq] at h
  have h3 := (mayP_iff p a).1 h.1
  rw [expP, if_pos h.1]
  exact (mayP_iff _ _).2 ⟨h3.1, h1, Nat.mod_lt _ (by omega)⟩
theorem in_may {p q a : Nat} (h : inP p q a = true) : mayP p a = true := by
  simp only [inP, Bool.and_eq_true, decide_eq_true_eq] at h
  exact h.1
theorem fine_in {p q g : Nat} (h : fineP p q g = true) : inP p q g = true := by
  simp only [fineP, Bool.and_eq_true, decide_eq_true_eq] at h
  exact h.2
/-- Is it signed? -/
def ckA (p q g k : Nat) (B : List Int) (c s : Nat) : Bool := decide (sg0 q k (expP p g s * expP p k (q - c) % p) B = c)
theorem ckA_def (p q g k : Nat) (B : List Int) (c s : Nat) : decide (sg0 q k (expP p g s * expP p k (q - c) % p) B = c) = ckA p q g k B c s := rfl
def ckB (p q g k : Nat) (B : List Int) (c s : Nat) : Bool := (((fineP p q g && inP p q k) && !decide (k = 1)) && (decide (c < q) && decide (s < q))) && ckA p q g k B c s
theorem sg0_lt {q x y : Nat} {B : List Int} (h : 1 < q) : sg0 q x y B < q := nmB_lt _ _ (by omega)
end Go.Proofs.X
end

section
open Go Go.Bx Go.Proofs
namespace Go.Proofs.X
attribute [local irreducible] bitsN wd dg be rr gN cmpI fineP inP expP expE
set_option maxRecDepth 100000 in
set_option maxHeartbeats 4000000 in
theorem below_n (m : Nat) : Con Tryz.prog 52 [.agg [.ints .u64 4 (zs (wd m))]] [] (.s (.noid (.clo 89 1 (capF [MP m])))) [] := by
 refine con_in 4 Tryz.func52 rfl rfl (m := 0) rfl ?_
 intro E hP hn hE
 refine w_seq ?_
 refine g_reg hP hn ?_
 refine s_op k_bxf ?_
 refine s_op k_as ?_
 refine s_nil trivial ?_
 refine n_wp ?_
 refine w_seq ?_
 refine g_reg hP hn ?_
 refine s_op (k_fnN [MP m]) ?_
 refine s_op k_as ?_
 refine s_nil trivial ?_
 refine n_wp ?_
 refine w_ret ?_
 exact d_ret hP hn hE [] (by first | exact r_tmp Tryz.results52 | exact r_tmpa Tryz.results52)

set_option maxRecDepth 100000 in
set_option maxHeartbeats 4000000 in
theorem bel_y (m : Nat) (L : List Nat) (hm : m < 2 ^ 256) (hL : ∀ i, i < L.length → L.getD i 0 < 2 ^ 256) (hLb : L.length ≤ 1000000) (hall : ∀ i, i < L.length → L.getD i 0 < m) : Con Tryz.prog 89 [.s (NUMS L), .s (MP m)] [] (.s (.bool true)) [] := by
 refine con_in 17 Tryz.func89 rfl rfl (m := 0) rfl ?_
 intro E hP hn hE
 refine w_seq ?_
 refine g_reg hP hn ?_
 refine s_op k_as ?_
 refine s_nil trivial ?_
 refine n_wp ?_
 refine w_seq ?_
 refine w_seq ?_
 refine g_reg hP hn ?_
 refine s_op k_mv ?_
 refine s_op k_len ?_
 refine s_op k_mv ?_
 refine s_nil trivial ?_
 refine n_wp ?_
 refine w_block ?_
 refine c_loop (fun m_ T H => ∃ i, i ≤ L.length ∧ m_ = L.length - i ∧ (∀ k, k < i → L.getD k 0 < m) ∧ T = [(1, .s (MP m)), (6, .s (NUMS L)), (7, .s (.int .i64 ((L.length : Nat) : Int))), (8, .s (.int .i64 ((i : Nat) : Int)))] ∧ H = []) (L.length) ⟨0, by omega, rfl, fun k hk => absurd hk (Nat.not_lt_zero k), rfl, rfl⟩ (wk hE []) ?_
 rintro n_ T_ H_ ⟨i, hi, rfl, hup, rfl, rfl⟩
 refine w_seq ?_
 refine g_reg hP hn ?_
 refine s_op k_lss ?_
 refine s_nil trivial ?_
 refine n_wp ?_
 refine w_seq ?_
 refine w_if rfl (fun h_t9 => ?_) (fun h_t9 => ?_)
 · skip
   have hlt := hall i h_t9
   refine w_skip ?_
   refine n_wp ?_
   refine w_seq ?_
   refine w_block ?_
   refine w_seq ?_
   refine g_reg hP hn ?_
   refine s_op k_ix ?_
   refine s_op (k_ld (by exact l_loadf_agg (segs := (L.map NR).getD i []) (sub := [.ints .u64 4 (zs (wd (L.getD i 0)))]) rfl (Nat.le_refl _) (nums_at L i h_t9) Ag.h Sz.h)) ?_
   refine s_op k_al ?_
   refine s_st k_st ?_
   refine s_nil trivial ?_
   refine n_wp ?_
   refine w_seq ?_
   refine g_reg hP hn ?_
   refine s_op k_ld ?_
   refine s_op k_ld ?_
   refine s_op (k_call [] (con := cmp_n (L.getD i 0) m (hL i h_t9) hm)) ?_
   refine s_op (k_ge0 (L.getD i 0) m) ?_
   refine s_nil trivial ?_
   refine n_wp ?_
   refine w_F rfl ?_ (decide_eq_false (by omega))
   refine w_skip ?_
   refine n_blo ?_
   refine n_wp ?_
   refine g_reg hP hn ?_
   refine s_op k_add ?_
   refine s_op k_mv ?_
   refine s_nil trivial ?_
   exact n_round (L.length - (i + 1)) (by omega) ⟨i + 1, by omega, rfl, fun k hk => (Nat.lt_succ_iff_lt_or_eq.1 hk).elim (hup k) (fun e => e ▸ hlt), rfl, rfl⟩ (wk hE [])
 · skip
   refine w_exit ?_
   refine x_thn ?_
   refine x_thn ?_
   refine x_eq ?_
   refine n_wp ?_
   refine w_seq ?_
   refine g_reg hP hn ?_
   refine s_op k_as ?_
   refine s_nil trivial ?_
   refine n_wp ?_
   refine w_ret ?_
   exact d_ret hP hn hE [] (by first | exact r_tmp Tryz.results89 | exact r_tmpa Tryz.results89)

set_option maxRecDepth 100000 in
set_option maxHeartbeats 4000000 in
theorem bel_no (m : Nat) (L : List Nat) (hm : m < 2 ^ 256) (hL : ∀ i, i < L.length → L.getD i 0 < 2 ^ 256) (hLb : L.length ≤ 1000000) (j : Nat) (hj : j < L.length) (hno : ¬ L.getD j 0 < m) : Con Tryz.prog 89 [.s (NUMS L), .s (MP m)] [] (.s (.bool false)) [] := by
 refine con_in 17 Tryz.func89 rfl rfl (m := 0) rfl ?_
 intro E hP hn hE
 refine w_seq ?_
 refine g_reg hP hn ?_
 refine s_op k_as ?_
 refine s_nil trivial ?_
 refine n_wp ?_
 refine w_seq ?_
 refine w_seq ?_
 refine g_reg hP hn ?_
 refine s_op k_mv ?_
 refine s_op k_len ?_
 refine s_op k_mv ?_
 refine s_nil trivial ?_
 refine n_wp ?_
 refine w_block ?_
 refine c_loop (fun m_ T H => ∃ i, i ≤ L.length ∧ m_ = L.length - i ∧ (∀ k, k < i → L.getD k 0 < m) ∧ T = [(1, .s (MP m)), (6, .s (NUMS L)), (7, .s (.int .i64 ((L.length : Nat) : Int))), (8, .s (.int .i64 ((i : Nat) : Int)))] ∧ H = []) (L.length) ⟨0, by omega, rfl, fun k hk => absurd hk (Nat.not_lt_zero k), rfl, rfl⟩ (wk hE []) ?_
 rintro n_ T_ H_ ⟨i, hi, rfl, hup, rfl, rfl⟩
 refine w_seq ?_
 refine g_reg hP hn ?_
 refine s_op k_lss ?_
 refine s_nil trivial ?_
 refine n_wp ?_
 refine w_seq ?_
 have h_t9 : i < L.length := by
  rcases Nat.lt_or_ge i L.length with h | h
  · exact h
  · exact absurd (hup j (by omega)) hno
 refine w_T rfl ?_ (decide_eq_true h_t9)
 refine w_skip ?_
 refine n_wp ?_
 refine w_seq ?_
 refine w_block ?_
 refine w_seq ?_
 refine g_reg hP hn ?_
 refine s_op k_ix ?_
 refine s_op (k_ld (by exact l_loadf_agg (segs := (L.map NR).getD i []) (sub := [.ints .u64 4 (zs (wd (L.getD i 0)))]) rfl (Nat.le_refl _) (nums_at L i h_t9) Ag.h Sz.h)) ?_
 refine s_op k_al ?_
 refine s_st k_st ?_
 refine s_nil trivial ?_
 refine n_wp ?_
 refine w_seq ?_
 refine g_reg hP hn ?_
 refine s_op k_ld ?_
 refine s_op k_ld ?_
 refine s_op (k_call [] (con := cmp_n (L.getD i 0) m (hL i h_t9) hm)) ?_
 refine s_op (k_ge0 (L.getD i 0) m) ?_
 refine s_nil trivial ?_
 refine n_wp ?_
 refine w_if rfl (fun h_t15 => ?_) (fun h_t15 => ?_)
 · skip
   refine w_seq ?_
   refine g_reg hP hn ?_
   refine s_op k_as ?_
   refine s_nil trivial ?_
   refine n_wp ?_
   refine w_ret ?_
   refine r_blo ?_
   refine r_thn ?_
   refine r_thn ?_
   refine r_blo ?_
   refine r_thn ?_
   exact d_ret hP hn hE [] (by first | exact r_tmp Tryz.results89 | exact r_tmpa Tryz.results89)
 · skip
   have hlt : L.getD i 0 < m := by omega
   refine w_skip ?_
   refine n_blo ?_
   refine n_wp ?_
   refine g_reg hP hn ?_
   refine s_op k_add ?_
   refine s_op k_mv ?_
   refine s_nil trivial ?_
   exact n_round (L.length - (i + 1)) (by omega) ⟨i + 1, by omega, rfl, fun k hk => (Nat.lt_succ_iff_lt_or_eq.1 hk).elim (hup k) (fun e => e ▸ hlt), rfl, rfl⟩ (wk hE [])

theorem bel1_n (m a : Nat) (hm : m < 2 ^ 256) (ha : a < 2 ^ 256) : Con Tryz.prog 89 [.s (NUMS [a]), .s (MP m)] [] (.s (.bool (decide (a < m)))) [] := by
 have hL : ∀ i, i < [a].length → [a].getD i 0 < 2 ^ 256 := fun i hi => by match i, hi with | 0, _ => exact ha
 by_cases h : a < m
 · rw [decide_eq_true h]; exact bel_y m [a] hm hL (Nat.le_of_ble_eq_true rfl) (fun i hi => by match i, hi with | 0, _ => exact h)
 · rw [decide_eq_false h]; exact bel_no m [a] hm hL (Nat.le_of_ble_eq_true rfl) 0 (Nat.le_of_ble_eq_true rfl) h
theorem bel2_n (m a b : Nat) (hm : m < 2 ^ 256) (ha : a < 2 ^ 256) (hb : b < 2 ^ 256) : Con Tryz.prog 89 [.s (NUMS [a, b]), .s (MP m)] [] (.s (.bool (decide (a < m) && decide (b < m)))) [] := by
 have hL : ∀ i, i < [a, b].length → [a, b].getD i 0 < 2 ^ 256 := fun i hi => by match i, hi with | 0, _ => exact ha | 1, _ => exact hb
 by_cases h : a < m
 · by_cases h2 : b < m
   · rw [decide_eq_true h, decide_eq_true h2]; exact bel_y m [a, b] hm hL (Nat.le_of_ble_eq_true rfl) (fun i hi => by match i, hi with | 0, _ => exact h | 1, _ => exact h2)
   · rw [decide_eq_false h2, Bool.and_false]; exact bel_no m [a, b] hm hL (Nat.le_of_ble_eq_true rfl) 1 (Nat.le_of_ble_eq_true rfl) h2
 · rw [decide_eq_false h, Bool.false_and]; exact bel_no m [a, b] hm hL (Nat.le_of_ble_eq_true rfl) 0 (Nat.le_of_ble_eq_true rfl) h

set_option maxRecDepth 100000 in
set_option maxHeartbeats 4000000 in
theorem key_y (p q g : Nat) (hp : p < 2 ^ 256) (hq : q < 2 ^ 256) (hg : g < 2 ^ 256) (a : Nat) (ha : a < 2 ^ 256) (hf : fineP p q g = true) (h0 : a ≠ 0) (haq : a < q) : Con Tryz.prog 17 [.agg (GRP p q g), .agg [.ints .u64 4 (zs (wd a))]] [] (.tup [.agg [.ints .u64 4 (zs (wd (expP p g a)))], .s (.int .i64 (expE p g))]) [] := by
 refine con_in 31 Tryz.func17 rfl rfl (m := 0) rfl ?_
 intro E hP hn hE
 refine w_seq ?_
 refine g_reg hP hn ?_
 refine s_op k_bx ?_
 refine s_op k_bx ?_
 refine s_op k_al ?_
 refine s_op k_as ?_
 refine s_nil trivial ?_
 refine n_wp ?_
 refine w_seq ?_
 refine w_seq ?_
 refine g_any hP hn ?_
 refine s_op k_ld ?_
 refine s_op (k_call [] (con := fine_n p q g hp hq hg)) ?_
 rw [hf]
 refine s_op k_not ?_
 refine s_op k_mv ?_
 refine s_on rfl rfl rfl k_ld ?_
 refine s_on rfl rfl rfl (k_call [] (con := of_n 0 (by omega))) ?_
 refine s_on rfl rfl rfl (k_eqN a 0 ha (by omega)) ?_
 rw [decide_eq_false h0]
 refine s_op k_pk ?_
 refine s_op k_mv ?_
 refine s_on rfl rfl rfl k_fa ?_
 refine s_on rfl rfl rfl k_ld ?_
 refine s_on rfl rfl rfl (k_call [] (con := below_n q)) ?_
 refine s_on rfl rfl rfl k_ld ?_
 refine s_on rfl rfl rfl (k_bsR [NR a]) ?_
 refine s_on rfl rfl rfl (k_callN [MP q] (con := bel1_n q a hq ha)) ?_
 rw [decide_eq_true haq]
 refine s_on rfl rfl rfl k_not ?_
 refine s_op k_pk ?_
 refine s_nil (by kernel_rfl) ?_
 refine n_wp ?_
 refine w_F rfl ?_ 
 refine w_skip ?_
 refine n_wp ?_
 refine w_seq ?_
 refine g_reg hP hn ?_
 refine s_op k_ld ?_
 refine s_op k_fa ?_
 refine s_op k_ld ?_
 refine s_op k_ld ?_
 refine s_op (k_call [] (con := gexp_n p q g hp hq hg g a hg ha)) ?_
 refine s_op k_ex ?_
 refine s_op k_ex ?_
 refine s_st k_st ?_
 refine s_op k_as ?_
 refine s_nil trivial ?_
 refine n_wp ?_
 refine w_ret ?_
 exact d_ret hP hn hE [] (ret2 Tryz.results17 r_cella (by first | exact ri_tmp rfl | exact ri_tmpa rfl))

end Go.Proofs.X
end

section
open Go Go.Bx Go.Proofs
namespace Go.Proofs.X
theorem take_map_s (L : List Nat) {i : Nat} (h : i < L.length) : (L.take (i + 1)).map (be 32) = (L.take i).map (be 32) ++ [be 32 (L.getD i 0)] := by
  have h2 : L.take (i + 1) = L.take i ++ [L.getD i 0] := by rw [List.take_add_one, List.getD_eq_getElem?_getD, List.getElem?_eq_getElem h]; rfl
  rw [h2, List.map_append]; rfl
theorem long_ok (L : List Nat) {B : List Int} (hB : B.length = 32) : ∀ i, i < (L.map (be 32) ++ [B]).length → 0 < ((L.map (be 32) ++ [B]).getD i []).length ∧ ((L.map (be 32) ++ [B]).getD i []).length ≤ 900000 := fun i hi => by
  have h : ∀ x ∈ L.map (be 32) ++ [B], x.length = 32 := fun x hx => by
    rcases List.mem_append.1 hx with h | h
    · obtain ⟨n, _, rfl⟩ := List.mem_map.1 h; exact be_len _ _
    · simp at h; subst h; exact hB
  have := h _ (List.getElem_mem hi)
  rw [List.getD_eq_getElem?_getD, List.getElem?_eq_getElem hi, Option.getD_some, this]
  exact ⟨by decide, by decide⟩
theorem conv_grR {H : Heap} {id n c : Nat} {L : List (List Int)} (hb : hget H id = some ⟨false, [.rows c 1 (rwF L)]⟩) (hc : n = c) (hn : L.length = n) : AConv [id] H (.s (.gro id 1 n)) (.s (ROWS L)) := by
  subst hc; subst hn
  exact conv_grz hb rfl rfl (Nat.le_refl _)
attribute [local irreducible] bitsN wd dg be rr gN cmpI fineP inP expP expE rwF nmB asN strL
theorem pl0_n (n : Nat) : Con Tryz.prog 72 [.s (.fzi .u8 []), .agg [.ints .u64 4 (zs (wd n))]] [] (.s (.fzi .u8 (be 32 n))) [] := pl_n [] n (by decide)

set_option maxRecDepth 100000 in
set_option maxHeartbeats 4000000 in
theorem number_n (p q g : Nat) (hp : p < 2 ^ 256) (hq : q < 2 ^ 256) (hg : g < 2 ^ 256) (s : ByteArray) (B : List Int) (L : List Nat) (hq0 : q ≠ 0) (hs : 0 < s.size) (hs2 : s.size ≤ 1000) (hB : B.length = 32) (hLb : L.length < 100) : Con Tryz.prog 63 [.agg (GRP p q g), .s (.val (.string s)), .agg [.ints .u8 32 B], .s (NUMS L)] [] (.agg [.ints .u64 4 (zs (wd (nmB (strL s) (L.map (be 32) ++ [B]) q)))]) [] := by
 refine con_in 42 Tryz.func63 rfl rfl (m := 0) rfl ?_
 intro E hP hn hE
 refine w_seq ?_
 refine g_reg hP hn ?_
 refine s_op k_bx ?_
 refine s_op k_bx ?_
 refine s_op k_al ?_
 refine s_nil trivial ?_
 refine n_wp ?_
 refine w_seq ?_
 refine g_reg hP hn ?_
 refine s_op k_mv ?_
 refine s_op k_len ?_
 refine s_op k_add ?_
 refine s_op (l_make_gro (l := 0) (c := L.length + 1) (segs := [.rows 0 1 (rwF [])]) rfl rfl rfl rfl rfl (by show 24 * _ ≤ _; omega) (by omega) Und.h Inf.h (by exact rfl) (by exact rfl) (by exact rfl) LenN.h rfl) ?_
 refine s_op k_as ?_
 refine s_nil trivial ?_
 refine n_wp ?_
 refine w_seq ?_
 refine w_seq ?_
 refine g_reg hP hn ?_
 refine s_op k_mv ?_
 refine s_op k_len ?_
 refine s_op k_mv ?_
 refine s_nil trivial ?_
 refine n_wp ?_
 refine w_block ?_
 refine c_loop (fun m_ T H => ∃ i, i ≤ L.length ∧ m_ = L.length - i ∧ T = [(1, .s (.val (.string s))), (4, .s (.ptr 0 0 0)), (6, .s (.ptr 1 0 0)), (8, .s (.ptr 2 0 0)), (9, .s (.gro 3 1 i)), (18, .s (NUMS L)), (19, .s (.int .i64 ((L.length : Nat) : Int))), (20, .s (.int .i64 ((i : Nat) : Int)))] ∧ H = [some ⟨true, GRP p q g⟩, some ⟨true, [.ints .u8 32 B]⟩, some ⟨true, [.ints .u64 4 (zs (List.replicate 4 0))]⟩, some ⟨true, [.rows i 1 (rwF ((L.take i).map (be 32)))]⟩]) (L.length) ⟨0, by omega, rfl, rfl, rfl⟩ (wk hE [0, 1, 2, 3]) ?_
 rintro n_ T_ H_ ⟨i, hi, rfl, rfl, rfl⟩
 refine w_seq ?_
 refine g_reg hP hn ?_
 refine s_op k_lss ?_
 refine s_nil trivial ?_
 refine n_wp ?_
 refine w_seq ?_
 refine w_if rfl (fun h_t21 => ?_) (fun h_t21 => ?_)
 · skip
   have hmi : ((L.take i).map (be 32)).length = i := by simp; omega
   refine w_skip ?_
   refine n_wp ?_
   refine w_seq ?_
   refine w_block ?_
   refine w_seq ?_
   refine g_reg hP hn ?_
   refine s_op k_ix ?_
   refine s_op (k_ld (by exact l_loadf_agg (segs := (L.map NR).getD i []) (sub := [.ints .u64 4 (zs (wd (L.getD i 0)))]) rfl (Nat.le_refl _) (nums_at L i h_t21) Ag.h Sz.h)) ?_
   refine s_op k_al ?_
   refine s_st k_st ?_
   refine s_nil trivial ?_
   refine n_wp ?_
   refine g_reg hP hn ?_
   refine s_op k_mv ?_
   refine s_op k_ld ?_
   refine s_op (k_call [] (con := pl0_n (L.getD i 0))) ?_
   refine s_op (k_bsz [.fzi .u8 (be 32 (L.getD i 0))]) ?_
   refine s_op (k_apr (rwF ((L.take i).map (be 32) ++ [be 32 (L.getD i 0)])) (hg := by exact fun a b h1 h2 => by rw [show b = 0 by omega]; exact rwF_in _ _ (by rw [hmi]; exact h1)) (hgn := by exact fun a b h1 h2 => by rw [show i + a = ((L.take i).map (be 32)).length + a by rw [hmi], rwF_new _ _ b h1]; exact row1_at _ h1)) ?_
   refine s_op k_as ?_
   refine s_nil trivial ?_
   refine n_blo ?_
   refine n_wp ?_
   refine g_reg hP hn ?_
   refine s_op k_add ?_
   refine s_op k_mv ?_
   refine s_nil trivial ?_
   exact n_round (L.length - (i + 1)) (by omega) ⟨i + 1, by omega, rfl, rfl, by rw [take_map_s L h_t21]⟩ (wk hE [0, 1, 2, 6])
 · skip
   have hiL : i = L.length := by omega
   subst hiL
   rw [List.take_length]
   have hml : (L.map (be 32)).length = L.length := by simp
   have hp2 := long_ok L hB
   refine w_exit ?_
   refine x_thn ?_
   refine x_thn ?_
   refine x_eq ?_
   refine n_wp ?_
   refine w_seq ?_
   refine w_weak (frz_ptr 6 32) ?_
   refine g_any hP hn ?_
   refine s_op k_fa ?_
   refine s_op k_ld ?_
   refine s_op k_mv ?_
   refine s_op k_mv ?_
   refine s_op k_slf ?_
   refine s_op (k_bsz [.fzi .u8 B]) ?_
   refine s_op (k_apr (rwF (L.map (be 32) ++ [B])) (H' := [some ⟨true, GRP p q g⟩, none, some ⟨true, [.ints .u64 4 (zs (List.replicate 4 0))]⟩, none, none, some ⟨true, [.rows (L.length + 1) 1 (rwF (L.map (be 32) ++ [B]))]⟩]) (hH := by exact rfl) (hg := by exact fun a b h1 h2 => by rw [show b = 0 by omega]; exact rwF_in _ _ (by rw [hml]; exact h1)) (hgn := by exact fun a b h1 h2 => by rw [show L.length + a = (L.map (be 32)).length + a by rw [hml], rwF_new _ _ b h1]; exact row1_at _ h1)) ?_
   refine s_op (k_tmp 5 (h := k_call [] (R := [5]) (hargs := by exact .cons (R1 := []) (R2 := [5]) rfl .same (.cons (R1 := []) (R2 := [5]) rfl .same (.cons (R1 := [5]) (R2 := []) rfl (conv_grR (L := L.map (be 32) ++ [B]) rfl rfl (by simp)) .nil))) (con := num_n s (L.map (be 32) ++ [B]) q hq hq0 (by simp) hs hs2 (by simp; omega) hp2))) ?_
   refine s_op k_mv ?_
   refine s_op k_ex ?_
   refine s_op k_ex ?_
   refine s_op k_al ?_
   refine s_st k_st ?_
   refine s_op k_as ?_
   refine s_nil (by kernel_rfl) ?_
   refine n_wp ?_
   refine w_seq ?_
   refine g_reg hP hn ?_
   refine s_op k_ld ?_
   refine s_st k_st ?_
   refine s_nil trivial ?_
   refine n_wp ?_
   refine w_ret ?_
   exact d_ret hP hn hE [] (r_cell Tryz.results63)

end Go.Proofs.X
end

section
open Go Go.Bx Go.Proofs
namespace Go.Proofs.X
theorem draw_n (p q g : Nat) (hp : p < 2 ^ 256) (hq : q < 2 ^ 256) (hg : g < 2 ^ 256) (a : Nat) (B : List Int) (hq0 : q ≠ 0) (hB : B.length = 32) : Con Tryz.prog 63 [.agg (GRP p q g), .s (.val (.string drawS)), .agg [.ints .u8 32 B], .s (NUMS [a])] [] (.agg [.ints .u64 4 (zs (wd (dr0 q a B)))]) [] := number_n p q g hp hq hg drawS B [a] hq0 (by decide) (by decide) hB (Nat.le_of_ble_eq_true rfl)
theorem sign2_n (p q g : Nat) (hp : p < 2 ^ 256) (hq : q < 2 ^ 256) (hg : g < 2 ^ 256) (x y : Nat) (B : List Int) (hq0 : q ≠ 0) (hB : B.length = 32) : Con Tryz.prog 63 [.agg (GRP p q g), .s (.val (.string signS)), .agg [.ints .u8 32 B], .s (NUMS [x, y])] [] (.agg [.ints .u64 4 (zs (wd (sg0 q x y B)))]) [] := number_n p q g hp hq hg signS B [x, y] hq0 (by decide) (by decide) hB (Nat.le_of_ble_eq_true rfl)
theorem key_f (p q g : Nat) (hp : p < 2 ^ 256) (hq : q < 2 ^ 256) (hg : g < 2 ^ 256) (a : Nat) (ha : a < 2 ^ 256) (hf : fineP p q g = true) (h0 : a ≠ 0) (haq : a < q) : Con Tryz.prog 17 [.agg (GRP p q g), .agg [.ints .u64 4 (zs (wd a))]] [] (.tup [.agg [.ints .u64 4 (zs (wd (expP p g a)))], .s (.int .i64 0)]) [] := by
 have h := key_y p q g hp hq hg a ha hf h0 haq
 rw [expE_0 (fine_may hf).1] at h
 exact h
theorem gexp_f (p q g : Nat) (hp : p < 2 ^ 256) (hq : q < 2 ^ 256) (hg : g < 2 ^ 256) (b n : Nat) (hb : b < 2 ^ 256) (hnn : n < 2 ^ 256) (hmay : mayP p b = true) : Con Tryz.prog 53 [.agg (GRP p q g), .agg [.ints .u64 4 (zs (wd b))], .agg [.ints .u64 4 (zs (wd n))]] [] (.tup [.agg [.ints .u64 4 (zs (wd (expP p b n)))], .s (.int .i64 0)]) [] := by
 have h := gexp_n p q g hp hq hg b n hb hnn
 rw [expE_0 hmay] at h
 exact h

attribute [local irreducible] bitsN wd dg be rr gN cmpI fineP mayP inP expP expE rwF nmB asN strL dr0 drP sg0
set_option maxRecDepth 100000 in
set_option maxHeartbeats 4000000 in
theorem sign_y (p q g : Nat) (hp : p < 2 ^ 256) (hq : q < 2 ^ 256) (hg : g < 2 ^ 256) (a : Nat) (B : List Int) (ha : a < 2 ^ 256) (hB : B.length = 32) (hf : fineP p q g = true) (h0 : a ≠ 0) (haq : a < q) : Con Tryz.prog 23 [.agg (GRP p q g), .agg [.ints .u64 4 (zs (wd a))], .agg [.ints .u8 32 B]] [] (.tup [.agg [.ints .u64 4 (zs (wd (sg0 q (expP p g a) (expP p g (drP q a B)) B))), .ints .u64 4 (zs (wd ((drP q a B + a * sg0 q (expP p g a) (expP p g (drP q a B)) B % q) % q)))], .s (.int .i64 0)]) [] := by
 refine con_in 70 Tryz.func23 rfl rfl (m := 0) rfl ?_
 intro E hP hn hE
 have hmay := (fine_may hf).1
 have hq1 := (fine_may hf).2
 have hq0 : q ≠ 0 := by omega
 have hdl := @drP_lt q a B hq1
 refine w_seq ?_
 refine g_reg hP hn ?_
 refine s_op k_bx ?_
 refine s_op k_bx ?_
 refine s_op k_bx ?_
 refine s_op k_al ?_
 refine s_op k_as ?_
 refine s_nil trivial ?_
 refine n_wp ?_
 refine w_seq ?_
 refine g_reg hP hn ?_
 refine s_op k_ld ?_
 refine s_op k_ld ?_
 refine s_op (k_call [] (con := key_f p q g hp hq hg a ha hf h0 haq)) ?_
 refine s_op k_mv ?_
 refine s_op k_ex ?_
 refine s_op k_ex ?_
 refine s_op k_al ?_
 refine s_st k_st ?_
 refine s_op k_as ?_
 refine s_nil trivial ?_
 refine n_wp ?_
 refine w_seq ?_
 refine w_seq ?_
 refine g_reg hP hn ?_
 refine s_op k_mv ?_
 refine s_op k_neq ?_
 refine s_nil trivial ?_
 refine n_wp ?_
 refine w_F rfl ?_ 
 refine w_skip ?_
 refine n_wp ?_
 refine w_seq ?_
 refine g_reg hP hn ?_
 refine s_op k_ld ?_
 refine s_op k_ld ?_
 refine s_op k_ld ?_
 refine s_op (k_bsR [NR a]) ?_
 refine s_op (k_call [] (con := draw_n p q g hp hq hg a B hq0 hB)) ?_
 refine s_op k_al ?_
 refine s_st k_st ?_
 refine s_nil trivial ?_
 refine n_wp ?_
 refine w_seq ?_
 refine w_seq ?_
 refine g_any hP hn ?_
 refine s_op k_ld ?_
 refine s_op (k_call [] (con := of_n 0 (by omega))) ?_
 refine s_op (k_eqN (dr0 q a B) 0 (by have := @dr0_lt q a B hq1; omega) (by omega)) ?_
 refine s_nil (by kernel_rfl) ?_
 refine n_wp ?_
 refine w_if rfl (fun h_t35 => ?_) (fun h_t35 => ?_)
 · skip
   have hd := drP_1 h_t35
   refine g_reg hP hn ?_
   refine s_op (k_call [] (con := of_n 1 (by omega))) ?_
   refine s_st k_st ?_
   refine s_nil trivial ?_
   refine n_wp ?_
   refine w_seq ?_
   rw [hd]
   refine g_reg hP hn ?_
   refine s_op k_ld ?_
   refine s_op k_fa ?_
   refine s_op k_ld ?_
   refine s_op k_ld ?_
   refine s_op (k_call [] (con := gexp_f p q g hp hq hg g (drP q a B) hg (by omega) hmay)) ?_
   refine s_op k_mv ?_
   refine s_op k_ex ?_
   refine s_op k_ex ?_
   refine s_op k_al ?_
   refine s_st k_st ?_
   refine s_op k_as ?_
   refine s_nil trivial ?_
   refine n_wp ?_
   refine w_seq ?_
   refine g_reg hP hn ?_
   refine s_op k_ld ?_
   refine s_op k_ld ?_
   refine s_op k_ld ?_
   refine s_op k_ld ?_
   refine s_op (k_bsR [NR (expP p g a), NR (expP p g (drP q a B))]) ?_
   refine s_op (k_call [] (con := sign2_n p q g hp hq hg (expP p g a) (expP p g (drP q a B)) B hq0 hB)) ?_
   refine s_op k_al ?_
   refine s_st k_st ?_
   refine s_nil trivial ?_
   refine n_wp ?_
   refine w_seq ?_
   refine g_reg hP hn ?_
   refine s_op k_ld ?_
   refine s_op k_ld ?_
   refine s_op k_fa ?_
   refine s_op k_ld ?_
   refine s_op (k_call [] (con := mmul_n a (sg0 q (expP p g a) (expP p g (drP q a B)) B) q haq (sg0_lt hq1) hq hq1)) ?_
   refine s_op k_mv ?_
   refine s_op k_ex ?_
   refine s_op k_ex ?_
   refine s_op k_al ?_
   refine s_st k_st ?_
   refine s_op k_as ?_
   refine s_nil trivial ?_
   refine n_wp ?_
   refine w_seq ?_
   refine g_reg hP hn ?_
   refine s_op k_ld ?_
   refine s_op k_ld ?_
   refine s_op k_fa ?_
   refine s_op k_ld ?_
   refine s_op (k_call [] (con := madd_n (drP q a B) (a * sg0 q (expP p g a) (expP p g (drP q a B)) B % q) q hdl (Nat.mod_lt _ (by omega)) hq hq1)) ?_
   refine s_op k_mv ?_
   refine s_op k_ex ?_
   refine s_op k_ex ?_
   refine s_op k_al ?_
   refine s_st k_st ?_
   refine s_op k_as ?_
   refine s_nil trivial ?_
   refine n_wp ?_
   refine w_seq ?_
   refine g_reg hP hn ?_
   refine s_op k_ld ?_
   refine s_op k_ld ?_
   refine s_op k_bd ?_
   refine s_st k_st ?_
   refine s_op k_as ?_
   refine s_nil trivial ?_
   refine n_wp ?_
   refine w_ret ?_
   exact d_ret hP hn hE [] (ret2 Tryz.results23 r_cella (by first | exact ri_tmp rfl | exact ri_tmpa rfl))
 · skip
   have hd := drP_2 h_t35
   refine w_skip ?_
   refine n_wp ?_
   refine w_seq ?_
   rw [hd]
   refine g_reg hP hn ?_
   refine s_op k_ld ?_
   refine s_op k_fa ?_
   refine s_op k_ld ?_
   refine s_op k_ld ?_
   refine s_op (k_call [] (con := gexp_f p q g hp hq hg g (drP q a B) hg (by omega) hmay)) ?_
   refine s_op k_mv ?_
   refine s_op k_ex ?_
   refine s_op k_ex ?_
   refine s_op k_al ?_
   refine s_st k_st ?_
   refine s_op k_as ?_
   refine s_nil trivial ?_
   refine n_wp ?_
   refine w_seq ?_
   refine g_reg hP hn ?_
   refine s_op k_ld ?_
   refine s_op k_ld ?_
   refine s_op k_ld ?_
   refine s_op k_ld ?_
   refine s_op (k_bsR [NR (expP p g a), NR (expP p g (drP q a B))]) ?_
   refine s_op (k_call [] (con := sign2_n p q g hp hq hg (expP p g a) (expP p g (drP q a B)) B hq0 hB)) ?_
   refine s_op k_al ?_
   refine s_st k_st ?_
   refine s_nil trivial ?_
   refine n_wp ?_
   refine w_seq ?_
   refine g_reg hP hn ?_
   refine s_op k_ld ?_
   refine s_op k_ld ?_
   refine s_op k_fa ?_
   refine s_op k_ld ?_
   refine s_op (k_call [] (con := mmul_n a (sg0 q (expP p g a) (expP p g (drP q a B)) B) q haq (sg0_lt hq1) hq hq1)) ?_
   refine s_op k_mv ?_
   refine s_op k_ex ?_
   refine s_op k_ex ?_
   refine s_op k_al ?_
   refine s_st k_st ?_
   refine s_op k_as ?_
   refine s_nil trivial ?_
   refine n_wp ?_
   refine w_seq ?_
   refine g_reg hP hn ?_
   refine s_op k_ld ?_
   refine s_op k_ld ?_
   refine s_op k_fa ?_
   refine s_op k_ld ?_
   refine s_op (k_call [] (con := madd_n (drP q a B) (a * sg0 q (expP p g a) (expP p g (drP q a B)) B % q) q hdl (Nat.mod_lt _ (by omega)) hq hq1)) ?_
   refine s_op k_mv ?_
   refine s_op k_ex ?_
   refine s_op k_ex ?_
   refine s_op k_al ?_
   refine s_st k_st ?_
   refine s_op k_as ?_
   refine s_nil trivial ?_
   refine n_wp ?_
   refine w_seq ?_
   refine g_reg hP hn ?_
   refine s_op k_ld ?_
   refine s_op k_ld ?_
   refine s_op k_bd ?_
   refine s_st k_st ?_
   refine s_op k_as ?_
   refine s_nil trivial ?_
   refine n_wp ?_
   refine w_ret ?_
   exact d_ret hP hn hE [] (ret2 Tryz.results23 r_cella (by first | exact ri_tmp rfl | exact ri_tmpa rfl))

end Go.Proofs.X
end

section
open Go Go.Bx Go.Proofs
namespace Go.Proofs.X
attribute [local irreducible] bitsN wd dg be rr gN cmpI subN fineP mayP inP expP expE rwF nmB asN strL dr0 drP sg0 ckA
set_option maxRecDepth 100000 in
set_option maxHeartbeats 4000000 in
theorem check_no1 (p q g : Nat) (hp : p < 2 ^ 256) (hq : q < 2 ^ 256) (hg : g < 2 ^ 256) (k : Nat) (B : List Int) (c s : Nat) (hk : k < 2 ^ 256) (hB : B.length = 32) (hc : c < 2 ^ 256) (hs : s < 2 ^ 256) (hf : fineP p q g = false)  : Con Tryz.prog 57 [.agg (GRP p q g), .agg [.ints .u64 4 (zs (wd k))], .agg [.ints .u8 32 B], .agg [.ints .u64 4 (zs (wd c)), .ints .u64 4 (zs (wd s))]] [] (.s (.bool false)) [] := by
 refine con_in 83 Tryz.func57 rfl rfl (m := 0) rfl ?_
 intro E hP hn hE
 refine w_seq ?_
 refine g_reg hP hn ?_
 refine s_op k_bx ?_
 refine s_op k_bx ?_
 refine s_op k_bx ?_
 refine s_op k_bx ?_
 refine s_op k_as ?_
 refine s_nil trivial ?_
 refine n_wp ?_
 refine w_seq ?_
 refine w_seq ?_
 refine g_any hP hn ?_
 refine s_op k_ld ?_
 refine s_op (k_call [] (con := fine_n p q g hp hq hg)) ?_
 rw [hf]
 refine s_op k_not ?_
 refine s_op k_mv ?_
 refine s_off rfl rfl rfl ?_
 refine s_off rfl rfl rfl ?_
 refine s_off rfl rfl rfl ?_
 refine s_off rfl rfl rfl ?_
 refine s_op k_pk ?_
 refine s_op k_mv ?_
 refine s_off rfl rfl rfl ?_
 refine s_off rfl rfl rfl ?_
 refine s_off rfl rfl rfl ?_
 refine s_op k_pk ?_
 refine s_op k_mv ?_
 refine s_off rfl rfl rfl ?_
 refine s_off rfl rfl rfl ?_
 refine s_off rfl rfl rfl ?_
 refine s_off rfl rfl rfl ?_
 refine s_off rfl rfl rfl ?_
 refine s_off rfl rfl rfl ?_
 refine s_off rfl rfl rfl ?_
 refine s_off rfl rfl rfl ?_
 refine s_off rfl rfl rfl ?_
 refine s_off rfl rfl rfl ?_
 refine s_op k_pk ?_
 refine s_nil (by kernel_rfl) ?_
 refine n_wp ?_
 refine w_T rfl ?_ 
 refine w_seq ?_
 refine g_reg hP hn ?_
 refine s_op k_as ?_
 refine s_nil trivial ?_
 refine n_wp ?_
 refine w_ret ?_
 refine r_thn ?_
 exact d_ret hP hn hE [] (by first | exact r_tmp Tryz.results57 | exact r_tmpa Tryz.results57)

set_option maxRecDepth 100000 in
set_option maxHeartbeats 4000000 in
theorem check_no2 (p q g : Nat) (hp : p < 2 ^ 256) (hq : q < 2 ^ 256) (hg : g < 2 ^ 256) (k : Nat) (B : List Int) (c s : Nat) (hk : k < 2 ^ 256) (hB : B.length = 32) (hc : c < 2 ^ 256) (hs : s < 2 ^ 256) (hf : fineP p q g = true) (hin : inP p q k = false)  : Con Tryz.prog 57 [.agg (GRP p q g), .agg [.ints .u64 4 (zs (wd k))], .agg [.ints .u8 32 B], .agg [.ints .u64 4 (zs (wd c)), .ints .u64 4 (zs (wd s))]] [] (.s (.bool false)) [] := by
 refine con_in 83 Tryz.func57 rfl rfl (m := 0) rfl ?_
 intro E hP hn hE
 refine w_seq ?_
 refine g_reg hP hn ?_
 refine s_op k_bx ?_
 refine s_op k_bx ?_
 refine s_op k_bx ?_
 refine s_op k_bx ?_
 refine s_op k_as ?_
 refine s_nil trivial ?_
 refine n_wp ?_
 refine w_seq ?_
 refine w_seq ?_
 refine g_any hP hn ?_
 refine s_op k_ld ?_
 refine s_op (k_call [] (con := fine_n p q g hp hq hg)) ?_
 rw [hf]
 refine s_op k_not ?_
 refine s_op k_mv ?_
 refine s_on rfl rfl rfl k_ld ?_
 refine s_on rfl rfl rfl k_ld ?_
 refine s_on rfl rfl rfl (k_call [] (con := in_n p q g hp hq hg k hk)) ?_
 rw [hin]
 refine s_on rfl rfl rfl k_not ?_
 refine s_op k_pk ?_
 refine s_op k_mv ?_
 refine s_off rfl rfl rfl ?_
 refine s_off rfl rfl rfl ?_
 refine s_off rfl rfl rfl ?_
 refine s_op k_pk ?_
 refine s_op k_mv ?_
 refine s_off rfl rfl rfl ?_
 refine s_off rfl rfl rfl ?_
 refine s_off rfl rfl rfl ?_
 refine s_off rfl rfl rfl ?_
 refine s_off rfl rfl rfl ?_
 refine s_off rfl rfl rfl ?_
 refine s_off rfl rfl rfl ?_
 refine s_off rfl rfl rfl ?_
 refine s_off rfl rfl rfl ?_
 refine s_off rfl rfl rfl ?_
 refine s_op k_pk ?_
 refine s_nil (by kernel_rfl) ?_
 refine n_wp ?_
 refine w_T rfl ?_ 
 refine w_seq ?_
 refine g_reg hP hn ?_
 refine s_op k_as ?_
 refine s_nil trivial ?_
 refine n_wp ?_
 refine w_ret ?_
 refine r_thn ?_
 exact d_ret hP hn hE [] (by first | exact r_tmp Tryz.results57 | exact r_tmpa Tryz.results57)

set_option maxRecDepth 100000 in
set_option maxHeartbeats 4000000 in
theorem check_no3 (p q g : Nat) (hp : p < 2 ^ 256) (hq : q < 2 ^ 256) (hg : g < 2 ^ 256) (k : Nat) (B : List Int) (c s : Nat) (hk : k < 2 ^ 256) (hB : B.length = 32) (hc : c < 2 ^ 256) (hs : s < 2 ^ 256) (hf : fineP p q g = true) (hin : inP p q k = true) (hk1 : decide (k = 1) = true)  : Con Tryz.prog 57 [.agg (GRP p q g), .agg [.ints .u64 4 (zs (wd k))], .agg [.ints .u8 32 B], .agg [.ints .u64 4 (zs (wd c)), .ints .u64 4 (zs (wd s))]] [] (.s (.bool false)) [] := by
 refine con_in 83 Tryz.func57 rfl rfl (m := 0) rfl ?_
 intro E hP hn hE
 refine w_seq ?_
 refine g_reg hP hn ?_
 refine s_op k_bx ?_
 refine s_op k_bx ?_
 refine s_op k_bx ?_
 refine s_op k_bx ?_
 refine s_op k_as ?_
 refine s_nil trivial ?_
 refine n_wp ?_
 refine w_seq ?_
 refine w_seq ?_
 refine g_any hP hn ?_
 refine s_op k_ld ?_
 refine s_op (k_call [] (con := fine_n p q g hp hq hg)) ?_
 rw [hf]
 refine s_op k_not ?_
 refine s_op k_mv ?_
 refine s_on rfl rfl rfl k_ld ?_
 refine s_on rfl rfl rfl k_ld ?_
 refine s_on rfl rfl rfl (k_call [] (con := in_n p q g hp hq hg k hk)) ?_
 rw [hin]
 refine s_on rfl rfl rfl k_not ?_
 refine s_op k_pk ?_
 refine s_op k_mv ?_
 refine s_on rfl rfl rfl k_ld ?_
 refine s_on rfl rfl rfl (k_call [] (con := of_n 1 (by omega))) ?_
 refine s_on rfl rfl rfl (k_eqN k 1 hk (by omega)) ?_
 rw [hk1]
 refine s_op k_pk ?_
 refine s_op k_mv ?_
 refine s_off rfl rfl rfl ?_
 refine s_off rfl rfl rfl ?_
 refine s_off rfl rfl rfl ?_
 refine s_off rfl rfl rfl ?_
 refine s_off rfl rfl rfl ?_
 refine s_off rfl rfl rfl ?_
 refine s_off rfl rfl rfl ?_
 refine s_off rfl rfl rfl ?_
 refine s_off rfl rfl rfl ?_
 refine s_off rfl rfl rfl ?_
 refine s_op k_pk ?_
 refine s_nil (by kernel_rfl) ?_
 refine n_wp ?_
 refine w_T rfl ?_ 
 refine w_seq ?_
 refine g_reg hP hn ?_
 refine s_op k_as ?_
 refine s_nil trivial ?_
 refine n_wp ?_
 refine w_ret ?_
 refine r_thn ?_
 exact d_ret hP hn hE [] (by first | exact r_tmp Tryz.results57 | exact r_tmpa Tryz.results57)

set_option maxRecDepth 100000 in
set_option maxHeartbeats 4000000 in
theorem check_no4 (p q g : Nat) (hp : p < 2 ^ 256) (hq : q < 2 ^ 256) (hg : g < 2 ^ 256) (k : Nat) (B : List Int) (c s : Nat) (hk : k < 2 ^ 256) (hB : B.length = 32) (hc : c < 2 ^ 256) (hs : s < 2 ^ 256) (hf : fineP p q g = true) (hin : inP p q k = true) (hk1 : decide (k = 1) = false) (hcs : (decide (c < q) && decide (s < q)) = false)  : Con Tryz.prog 57 [.agg (GRP p q g), .agg [.ints .u64 4 (zs (wd k))], .agg [.ints .u8 32 B], .agg [.ints .u64 4 (zs (wd c)), .ints .u64 4 (zs (wd s))]] [] (.s (.bool false)) [] := by
 refine con_in 83 Tryz.func57 rfl rfl (m := 0) rfl ?_
 intro E hP hn hE
 refine w_seq ?_
 refine g_reg hP hn ?_
 refine s_op k_bx ?_
 refine s_op k_bx ?_
 refine s_op k_bx ?_
 refine s_op k_bx ?_
 refine s_op k_as ?_
 refine s_nil trivial ?_
 refine n_wp ?_
 refine w_seq ?_
 refine w_seq ?_
 refine g_any hP hn ?_
 refine s_op k_ld ?_
 refine s_op (k_call [] (con := fine_n p q g hp hq hg)) ?_
 rw [hf]
 refine s_op k_not ?_
 refine s_op k_mv ?_
 refine s_on rfl rfl rfl k_ld ?_
 refine s_on rfl rfl rfl k_ld ?_
 refine s_on rfl rfl rfl (k_call [] (con := in_n p q g hp hq hg k hk)) ?_
 rw [hin]
 refine s_on rfl rfl rfl k_not ?_
 refine s_op k_pk ?_
 refine s_op k_mv ?_
 refine s_on rfl rfl rfl k_ld ?_
 refine s_on rfl rfl rfl (k_call [] (con := of_n 1 (by omega))) ?_
 refine s_on rfl rfl rfl (k_eqN k 1 hk (by omega)) ?_
 rw [hk1]
 refine s_op k_pk ?_
 refine s_op k_mv ?_
 refine s_on rfl rfl rfl k_fa ?_
 refine s_on rfl rfl rfl k_ld ?_
 refine s_on rfl rfl rfl (k_call [] (con := below_n q)) ?_
 refine s_on rfl rfl rfl k_fa ?_
 refine s_on rfl rfl rfl k_ld ?_
 refine s_on rfl rfl rfl k_fa ?_
 refine s_on rfl rfl rfl k_ld ?_
 refine s_on rfl rfl rfl (k_bsR [NR c, NR s]) ?_
 refine s_on rfl rfl rfl (k_callN [MP q] (con := bel2_n q c s hq hc hs) (H' := [some ⟨true, GRP p q g⟩, some ⟨true, [.ints .u64 4 (zs (wd k))]⟩, some ⟨true, [.ints .u8 32 B]⟩, some ⟨true, [.ints .u64 4 (zs (wd c)), .ints .u64 4 (zs (wd s))]⟩, none]) (hH := rfl)) ?_
 rw [hcs]
 refine s_on rfl rfl rfl k_not ?_
 refine s_op k_pk ?_
 refine s_nil (by kernel_rfl) ?_
 refine n_wp ?_
 refine w_T rfl ?_ 
 refine w_seq ?_
 refine g_reg hP hn ?_
 refine s_op k_as ?_
 refine s_nil trivial ?_
 refine n_wp ?_
 refine w_ret ?_
 refine r_thn ?_
 exact d_ret hP hn hE [] (by first | exact r_tmp Tryz.results57 | exact r_tmpa Tryz.results57)

set_option maxRecDepth 100000 in
set_option maxHeartbeats 4000000 in
theorem check_y (p q g : Nat) (hp : p < 2 ^ 256) (hq : q < 2 ^ 256) (hg : g < 2 ^ 256) (k : Nat) (B : List Int) (c s : Nat) (hk : k < 2 ^ 256) (hB : B.length = 32) (hc : c < 2 ^ 256) (hs : s < 2 ^ 256) (hf : fineP p q g = true) (hin : inP p q k = true) (hk1 : decide (k = 1) = false) (hcs : (decide (c < q) && decide (s < q)) = true)  : Con Tryz.prog 57 [.agg (GRP p q g), .agg [.ints .u64 4 (zs (wd k))], .agg [.ints .u8 32 B], .agg [.ints .u64 4 (zs (wd c)), .ints .u64 4 (zs (wd s))]] [] (.s (.bool (ckA p q g k B c s))) [] := by
 refine con_in 83 Tryz.func57 rfl rfl (m := 0) rfl ?_
 intro E hP hn hE
 have hmg := (fine_may hf).1
 have hq1 := (fine_may hf).2
 have hq0 : q ≠ 0 := by omega
 have hmk := in_may hin
 have hcs2 : c < q ∧ s < q := by simpa using hcs
 have hm1 := expP_may (n := s) (fine_in hf) (by omega)
 have hm2 := expP_may (n := q - c) hin (by omega)
 have hsub : subN q c = q - c := subN_le hq (by omega)
 refine w_seq ?_
 refine g_reg hP hn ?_
 refine s_op k_bx ?_
 refine s_op k_bx ?_
 refine s_op k_bx ?_
 refine s_op k_bx ?_
 refine s_op k_as ?_
 refine s_nil trivial ?_
 refine n_wp ?_
 refine w_seq ?_
 refine w_seq ?_
 refine g_any hP hn ?_
 refine s_op k_ld ?_
 refine s_op (k_call [] (con := fine_n p q g hp hq hg)) ?_
 rw [hf]
 refine s_op k_not ?_
 refine s_op k_mv ?_
 refine s_on rfl rfl rfl k_ld ?_
 refine s_on rfl rfl rfl k_ld ?_
 refine s_on rfl rfl rfl (k_call [] (con := in_n p q g hp hq hg k hk)) ?_
 rw [hin]
 refine s_on rfl rfl rfl k_not ?_
 refine s_op k_pk ?_
 refine s_op k_mv ?_
 refine s_on rfl rfl rfl k_ld ?_
 refine s_on rfl rfl rfl (k_call [] (con := of_n 1 (by omega))) ?_
 refine s_on rfl rfl rfl (k_eqN k 1 hk (by omega)) ?_
 rw [hk1]
 refine s_op k_pk ?_
 refine s_op k_mv ?_
 refine s_on rfl rfl rfl k_fa ?_
 refine s_on rfl rfl rfl k_ld ?_
 refine s_on rfl rfl rfl (k_call [] (con := below_n q)) ?_
 refine s_on rfl rfl rfl k_fa ?_
 refine s_on rfl rfl rfl k_ld ?_
 refine s_on rfl rfl rfl k_fa ?_
 refine s_on rfl rfl rfl k_ld ?_
 refine s_on rfl rfl rfl (k_bsR [NR c, NR s]) ?_
 refine s_on rfl rfl rfl (k_callN [MP q] (con := bel2_n q c s hq hc hs) (H' := [some ⟨true, GRP p q g⟩, some ⟨true, [.ints .u64 4 (zs (wd k))]⟩, some ⟨true, [.ints .u8 32 B]⟩, some ⟨true, [.ints .u64 4 (zs (wd c)), .ints .u64 4 (zs (wd s))]⟩, none]) (hH := rfl)) ?_
 rw [hcs]
 refine s_on rfl rfl rfl k_not ?_
 refine s_op k_pk ?_
 refine s_nil (by kernel_rfl) ?_
 refine n_wp ?_
 refine w_F rfl ?_ 
 refine w_skip ?_
 refine n_wp ?_
 refine w_seq ?_
 refine g_reg hP hn ?_
 refine s_op k_fa ?_
 refine s_op k_ld ?_
 refine s_op k_fa ?_
 refine s_op k_ld ?_
 refine s_op (k_call [] (con := sub_n q c hq hc)) ?_
 refine s_op k_mv ?_
 refine s_op k_ex ?_
 refine s_op k_ex ?_
 refine s_op k_al ?_
 refine s_st k_st ?_
 refine s_op k_as ?_
 refine s_nil trivial ?_
 refine n_wp ?_
 refine w_seq ?_
 rw [hsub]
 refine g_reg hP hn ?_
 refine s_op k_ld ?_
 refine s_op k_fa ?_
 refine s_op k_ld ?_
 refine s_op k_fa ?_
 refine s_op k_ld ?_
 refine s_op (k_call [] (con := gexp_f p q g hp hq hg g s hg hs hmg)) ?_
 refine s_op k_mv ?_
 refine s_op k_ex ?_
 refine s_op k_ex ?_
 refine s_op k_al ?_
 refine s_st k_st ?_
 refine s_op k_as ?_
 refine s_nil trivial ?_
 refine n_wp ?_
 refine w_seq ?_
 refine g_reg hP hn ?_
 refine s_op k_ld ?_
 refine s_op k_ld ?_
 refine s_op k_ld ?_
 refine s_op (k_call [] (con := gexp_f p q g hp hq hg k (q - c) hk (by omega) hmk)) ?_
 refine s_op k_mv ?_
 refine s_op k_ex ?_
 refine s_op k_ex ?_
 refine s_op k_al ?_
 refine s_st k_st ?_
 refine s_op k_as ?_
 refine s_nil trivial ?_
 refine n_wp ?_
 refine w_seq ?_
 refine g_reg hP hn ?_
 refine s_op k_ld ?_
 refine s_op k_ld ?_
 refine s_op k_ld ?_
 refine s_op (k_call [] (con := gmul_y p q g hp hq hg (expP p g s) (expP p k (q - c)) (expP_lt hp) (expP_lt hp) hm1 hm2)) ?_
 refine s_op k_mv ?_
 refine s_op k_ex ?_
 refine s_op k_ex ?_
 refine s_op k_al ?_
 refine s_st k_st ?_
 refine s_op k_as ?_
 refine s_nil trivial ?_
 refine n_wp ?_
 refine w_seq ?_
 refine g_any hP hn ?_
 refine s_op k_ld ?_
 refine s_op k_ld ?_
 refine s_op k_ld ?_
 refine s_op k_ld ?_
 refine s_op (k_bsR [NR k, NR (expP p g s * expP p k (q - c) % p)]) ?_
 refine s_op (k_call [] (con := sign2_n p q g hp hq hg k (expP p g s * expP p k (q - c) % p) B hq0 hB)) ?_
 refine s_op k_fa ?_
 refine s_op k_ld ?_
 refine s_op (k_eqN (sg0 q k (expP p g s * expP p k (q - c) % p) B) c (by have := @sg0_lt q k (expP p g s * expP p k (q - c) % p) B hq1; omega) hc) ?_
 refine s_op k_as ?_
 refine s_nil (by kernel_rfl) ?_
 refine n_wp ?_
 rw [ckA_def]
 refine w_ret ?_
 exact d_ret hP hn hE [] (by first | exact r_tmp Tryz.results57 | exact r_tmpa Tryz.results57)

theorem check_n (p q g : Nat) (hp : p < 2 ^ 256) (hq : q < 2 ^ 256) (hg : g < 2 ^ 256) (k : Nat) (B : List Int) (c s : Nat) (hk : k < 2 ^ 256) (hB : B.length = 32) (hc : c < 2 ^ 256) (hs : s < 2 ^ 256) : Con Tryz.prog 57 [.agg (GRP p q g), .agg [.ints .u64 4 (zs (wd k))], .agg [.ints .u8 32 B], .agg [.ints .u64 4 (zs (wd c)), .ints .u64 4 (zs (wd s))]] [] (.s (.bool (ckB p q g k B c s))) [] := by
 unfold ckB
 cases hf : fineP p q g with
 | false => simp only [Bool.false_and]; exact check_no1 p q g hp hq hg k B c s hk hB hc hs hf
 | true =>
 cases hin : inP p q k with
 | false => simp only [Bool.true_and, Bool.false_and]; exact check_no2 p q g hp hq hg k B c s hk hB hc hs hf hin
 | true =>
 cases hk1 : decide (k = 1) with
 | true => simp only [Bool.true_and, Bool.not_true, Bool.false_and]; exact check_no3 p q g hp hq hg k B c s hk hB hc hs hf hin hk1
 | false =>
 cases hcs : decide (c < q) && decide (s < q) with
 | false => simp only [Bool.true_and, Bool.not_false, Bool.false_and]; exact check_no4 p q g hp hq hg k B c s hk hB hc hs hf hin hk1 hcs
 | true => simp only [Bool.true_and, Bool.not_false]; exact check_y p q g hp hq hg k B c s hk hB hc hs hf hin hk1 hcs

end Go.Proofs.X
end

section
/- Slices compared with nil; what is empty, nil or not. No program. -/
namespace Go.Bx
theorem run_snil {P : Program} (w : World) (t e : TypeId) (a : Option Addr) (l c : Nat) (h : P.underlying t = some (.slice e)) : (binOp .eql t (.slice a l c) (.slice none 0 0)).run P w = .ok (.bool a.isNone) w := by
  have := Go.run_eql_slice_nil (P := P) w t e a l c h
  exact this
section
variable {P : Program} {T : Tm} {H : Heap} {d : Option Tmp} {ty : TypeId} {pos : String} {af : Array Edge} {g : Option (Nat × Bool)}
theorem k_snf {t e tyy : TypeId} {x : Operand} {k : IntKind} {l : List Int} [hu : Und P t (.slice e)] (hx : ev T x = .s (.fzi k l) := by rfl) (hl : 0 < l.length) : LOk P ⟨d, .binOp .eql t x (.const (.slice none 0 0)) tyy, ty, pos, af, g⟩ T H H (.s (.bool false)) [] [] :=
  lok_pure fun ρ a w ho => by
    have h1 : (ev T x).rep ρ (a.eval x) := ho x (by simp [Op.operands])
    rw [hx] at h1
    refine ⟨.bool false, ?_, rfl⟩
    have hy : a.eval (.const (.slice none 0 0)) = .slice none 0 0 := rfl
    rcases h1 with ⟨e1, _⟩ | ⟨b, o, c, cs, e1, _⟩
    · subst e1; simp at hl
    · simp [execOp, e1, hy, Sem.run_bind, eqGuard, run_snil w t e _ _ _ hu.h]
theorem k_snv {t e tyy : TypeId} {x : Operand} {ad : Option Addr} {l c : Nat} [hu : Und P t (.slice e)] (hx : ev T x = .s (.val (.slice ad l c)) := by rfl) : LOk P ⟨d, .binOp .eql t x (.const (.slice none 0 0)) tyy, ty, pos, af, g⟩ T H H (.s (.bool ad.isNone)) [] [] :=
  lok_pure fun ρ a w ho => by
    have h1 : (ev T x).rep ρ (a.eval x) := ho x (by simp [Op.operands])
    rw [hx] at h1
    refine ⟨.bool ad.isNone, ?_, rfl⟩
    have hy : a.eval (.const (.slice none 0 0)) = .slice none 0 0 := rfl
    simp [execOp, h1.1, hy, Sem.run_bind, eqGuard, run_snil w t e _ _ _ hu.h]
end
theorem con_e {P : Program} {f : FuncId} {k : IntKind} {r : List AV} {v : AV} {H H' : Heap} (h : ∀ a c, Con P f (.s (.val (.slice a 0 c)) :: r) H v H') : Con P f (.s (.fzi k []) :: r) H v H' := by
  refine ⟨(h none 0).len, fun W ρ vals w hH hn hW ha => ?_⟩
  have h0 := (ha.2 0 (.s (.fzi k [])) rfl)
  obtain ⟨a, c, e⟩ : ∃ a c, vals.getD 0 undef = .slice a 0 c := by
    rcases h0 with ⟨_, a, c, e⟩ | ⟨b, o, c, cs, e, _⟩
    · exact ⟨a, c, e⟩
    · exact ⟨_, c, e⟩
  refine (h a c).run W ρ vals w hH hn hW ⟨ha.1, fun i x hx => ?_⟩
  cases i with
  | zero =>
    have hx : AV.s (.val (.slice a 0 c)) = x := Option.some.inj hx
    subst hx
    exact ⟨e, rfl⟩
  | succ i => exact ha.2 (i + 1) x hx
end Go.Bx
end

section
/- Empty slices, made and put behind. No program. -/
namespace Go.Bx
theorem asrc_e {P : Program} {tx e : TypeId} {H : Heap} {k : IntKind} {ad : Option Addr} {cc : Nat} (hk : P.underlying tx = some (.slice e)) : ASrc P tx 1 [] H (.val (.slice ad 0 cc)) 0 [.ints k 0 []] :=
  ⟨by simp [sizeS, Seg.size], fun c W ρ w v _ hH h => by
    obtain ⟨rfl, _⟩ := h
    refine ⟨[], ?_, fun i x h => by obtain ⟨h, _⟩ := atS_ints1 h; omega, fun q hq => ?_⟩
    case refine_2 =>
      have : q = 0 := by simpa using hq
      subst this
      cases ad with
      | none => rw [run_firstCells_none]; simp
      | some a => have := run_firstCells_some (P := P) w 1 0 a 0 cc [] (by simp) (fun j u h => by simp at h); simpa using this
    cases ad with
    | none => exact .ofNil w hk cc
    | some a => exact .ofSlice w hk a 0 cc [] (by simp) (fun j u h => by simp at h) (fun u h => by cases h)⟩
section
variable {P : Program} {T : Tm} {H : Heap} {d : Option Tmp} {ty : TypeId} {pos : String} {af : Array Edge} {g : Option (Nat × Bool)}
theorem k_bs0 (k : IntKind) {t e : TypeId} {n0 : Nat} {H' : Heap} [hu : Und P t (.slice e)] [he : Sz P e 1] [hN : LenN H n0] (hH : H ++ [some (Blk.mk true [.ints k 0 []])] = H' := by repeat (first | exact happ_0 | apply happ_s)) : LOk P ⟨d, .buildSlice t 0 #[], ty, pos, af, g⟩ T H H' (.s (.gro n0 1 0)) [] [] := by
  subst hH
  refine lok_new [] (fun _ h => by cases h) fun H0 hl0 _ => ?_
  have hn := hN.h
  subst hn
  intro W ρ a w hH hf hW ho next Q hq
  have hrun : (execOp a.eval ⟨d, .buildSlice t 0 #[], ty, pos, af, g⟩).run P w = .ok (.value (.slice (some ⟨w.heap.size, 0, none⟩) 0 0)) (w.alloc (.cells #[] e)) := by
    simp only [execOp]
    simp [Instr.buildSlice, Sem.run_bind, run_underlying hu.h, he.h, Sem.run_pure, Instr.fill, newRow, show Array.range 0 = #[] from by decide]
  rw [hrun]
  obtain ⟨ρ', k3, k4, k5⟩ := nx_alloc (t := e) hH (hf _ (Nat.le_refl _) (by simp)) hW (cells := #[]) (segs := [.ints k 0 []]) (fun ρ' _ i z hz => by
    obtain ⟨h, _⟩ := atS_ints1 hz; omega)
  exact hq _ _ ⟨ρ', W, k3, .inr ⟨w.heap.size, 0, 0, 0, by rw [← hl0]; exact k4, rfl, Nat.le_refl _, k5, by omega⟩⟩
theorem k_ape {x y : Operand} {t tx e rt : TypeId} {id n0 : Nat} {k : IntKind} {ad : Option Addr} {cc : Nat} {inf : TypeInfo} {z : Value} {H' : Heap} [hu : Und P t (.slice e)] [hux : Und P tx (.slice e)] [hi : Inf P e inf] [hN : LenN H n0] (hx : ev T x = .s (.gro id 1 0) := by rfl) (hy : ev T y = .s (.val (.slice ad 0 cc)) := by rfl) (hb : hget H id = some ⟨true, [.ints k 0 []]⟩ := by rfl) (hsz : inf.size = 1 := by exact rfl) (hz : inf.zero = some z := by exact rfl) (hzs : z.cells.size = 1 := by exact rfl) (hb1 : 0 < inf.bytes := by exact Nat.le_of_ble_eq_true rfl) (hH : H.set id none ++ [some (Blk.mk true [.ints k 0 []])] = H' := by exact rfl) :
    LOk P ⟨d, .call ⟨.builtin .append, #[x, y], #[t, tx]⟩, rt, pos, af, g⟩ T H H' (.s (.gro n0 1 0)) [id] [id] :=
  a_app (m := 0) hx hy hb hsz hz hzs (asrc_e hux.h) (Nat.zero_le _) (Joins.ints (l2 := []) rfl (Nat.le_refl 0)) (by simp) hb1 (fun _ h => by cases h) hN.h hH
end
end Go.Bx
end
