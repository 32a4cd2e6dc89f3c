/- A part of the proofs of this claim: Bx11, Bx12, Bx13, Bx14, Bx15. No conditions. -/
import Derived.Test.YtokgpammicpahaaGreatDoorS1
import Derived.Laws.AppendOwn
import Derived.Deep.AppendSrc
import Derived.Laws.MakeOwn
import Derived.Laws.IdiomStrings
import Derived.Laws.BytesArg
import Derived.Laws.Strings
import Derived.Great.FillDense
import Derived.Laws.StructEq
set_option linter.unusedVariables false
set_option linter.unusedSimpArgs false
section
/- Slices: made, cut, copied, grown. No program. -/
namespace Go.Bx

def ASrc (P : Program) (tx : TypeId) (size : Nat) (R : List Nat) (H : Heap) (u : SV) (n : Nat) (sub : List Seg) : Prop :=
  sizeS sub = n * size ∧ ∀ (c : Nat → Option Blk) (W : Nat → Prop) (ρ : Rho) (w : World) (v : Value), (∀ id ∈ R, c id = hget H id) → HRep W ρ c w → u.rep ρ v → ∃ news, Src P size tx v n news w ∧ RowRep ρ sub (fun i => news[i]?) ∧ ∀ q, q ≤ n → (Builtin.firstCells size q v).run P w = .ok (news.take (q * size)).toArray w
theorem cells_list {ρ : Rho} {sub : List Seg} {cells : Array Value} {o n : Nat} (hs : sizeS sub = n) (hr : RowRep ρ sub (fun i => cells[o + i]?)) : ∃ news : List Value, news.length = n ∧ (∀ j u, news[j]? = some u → cells[o + j]? = some u) ∧ (∀ u ∈ news, u.oneCell' = true) ∧ RowRep ρ sub (fun i => news[i]?) := by
  have hin : ∀ j, j < n → ∃ v, cells[o + j]? = some v ∧ v.oneCell' = true := fun j hj => by
    obtain ⟨x, hx⟩ := atS_some (l := sub) (i := j) (by omega)
    obtain ⟨v, hv, hc⟩ := hr j x hx
    exact ⟨v, hv, hc.2⟩
  have hget : ∀ j, ((cells.toList.drop o).take n)[j]? = if j < n then cells[o + j]? else none := fun j => by
    rw [List.getElem?_take]
    by_cases h : j < n
    · rw [if_pos h, if_pos h, List.getElem?_drop]; simp
    · rw [if_neg h, if_neg h]
  refine ⟨(cells.toList.drop o).take n, ?_, fun j u hu => ?_, fun u hu => ?_, fun i x hx => ?_⟩
  · rcases Nat.eq_zero_or_pos n with h0 | h0
    · simp [h0]
    · obtain ⟨v, hv, _⟩ := hin (n - 1) (by omega)
      have := (Array.getElem?_eq_some_iff.1 hv).1
      simp; omega
  · rw [hget] at hu
    split at hu
    · exact hu
    · cases hu
  · obtain ⟨j, hj⟩ := List.getElem?_of_mem hu
    rw [hget] at hj
    split at hj
    · rename_i h
      obtain ⟨v, hv, hc⟩ := hin j h
      rw [hj] at hv; cases hv; exact hc
    · cases hj
  · obtain ⟨v, hv, hc⟩ := hr i x hx
    refine ⟨v, ?_, hc⟩
    show ((cells.toList.drop o).take n)[i]? = some v
    rw [hget, if_pos (by have := atS_lt hx; omega)]; exact hv
theorem asrc_blk {P : Program} {tx e : TypeId} {size n : Nat} {ρ : Rho} {w : World} {b o cap : Nat} {cells : Array Value} {t : TypeId} {fr : Nat × Nat} {sub : List Seg} (hk : P.underlying tx = some (.slice e)) (g1 : w.heap[b]? = some (.cells cells t fr)) (hs : sizeS sub = n * size) (hr : RowRep ρ sub (fun i => cells[o + i]?)) :
    ∃ news, Src P size tx (.slice (some ⟨b, o, none⟩) n cap) n news w ∧ RowRep ρ sub (fun i => news[i]?) ∧ ∀ q, q ≤ n → (Builtin.firstCells size q (.slice (some ⟨b, o, none⟩) n cap)).run P w = .ok (news.take (q * size)).toArray w := by
  obtain ⟨news, h1, h2, h3, h4⟩ := cells_list hs hr
  have hc : ∀ j u, news[j]? = some u → w.cell? ((⟨b, o, none⟩ : Addr).add j) = some u := fun j u hu => by
    rw [addr_add]
    simp [World.cell?, g1]
    exact h2 j u hu
  refine ⟨news, .ofSlice w hk _ n cap news h1 hc h3, h4, fun q hq => run_firstCells_some w size q _ n cap _ ?_ fun j u hu => hc j u ?_⟩
  · rw [List.length_take, h1]; exact Nat.min_eq_left (Nat.mul_le_mul_right size hq)
  · rw [List.getElem?_take] at hu
    split at hu
    · exact hu
    · cases hu
theorem asrc_sl {P : Program} {tx e : TypeId} {size n id base idx cap : Nat} {H : Heap} {k : Blk} {sub : List Seg} (hk : P.underlying tx = some (.slice e)) (hb : hget H id = some k) (hs : SubS k.segs (base + idx) (n * size) sub) : ASrc P tx size [id] H (.slice id base idx n cap) n sub :=
  ⟨hs.1, fun c W ρ w v hc hH ⟨b, o, h1, h2⟩ => by
    subst h2
    obtain ⟨cells, t, fr, g1, _, _, g4⟩ := (hH.rep id b o k h1 ((hc id (by simp)).trans hb)).1
    exact asrc_blk hk g1 hs.1 (by have := sub_row g4 hs; simpa [Nat.add_assoc] using this)⟩
theorem asrc_gro {P : Program} {tx e : TypeId} {size n id wd : Nat} {H : Heap} {k : Blk} {sub : List Seg} (hk : P.underlying tx = some (.slice e)) (hb : hget H id = some k) (hs : SubS k.segs 0 (n * size) sub) : ASrc P tx size [id] H (.gro id wd n) n sub :=
  ⟨hs.1, fun c W ρ w v hc hH h => by
    rcases h with ⟨rfl, rfl⟩ | ⟨b, o, cap, q, h1, h2, _⟩
    · exact ⟨[], .ofNil w hk 0, fun i x h => by have := atS_lt h; rw [hs.1] at this; omega, fun q _ => by rw [run_firstCells_none]; simp⟩
    · subst h2
      obtain ⟨cells, t, fr, g1, _, _, g4⟩ := (hH.rep id b o k h1 ((hc id (by simp)).trans hb)).1
      exact asrc_blk hk g1 hs.1 (by have := sub_row g4 hs; simpa using this)⟩
theorem asrc_fzi {P : Program} {tx e : TypeId} {H : Heap} {k : IntKind} {l : List Int} (hk : P.underlying tx = some (.slice e)) : ASrc P tx 1 [] H (.fzi k l) l.length [.ints k l.length l] :=
  ⟨by simp [sizeS, Seg.size], fun c W ρ w v _ hH h => by
    rcases h with ⟨rfl, a, cc, rfl⟩ | ⟨b, o, cc, cs, rfl, _, h3, h4⟩
    · refine ⟨[], ?_, fun i x h => by obtain ⟨h, _⟩ := atS_ints1 h; simp at h, fun q hq => ?_⟩
      case refine_2 =>
        have : q = 0 := by simpa using hq
        subst this
        cases a with
        | none => rw [run_firstCells_none]; simp
        | some a => have := run_firstCells_some (P := P) w 1 0 a 0 cc [] (by simp) (fun j u h => by simp at h); simpa using this
      cases a with
      | none => exact .ofNil w hk cc
      | some a => exact .ofSlice w hk a 0 cc [] (by simp) (fun j u h => by simp at h) (fun u h => by cases h)
    · obtain ⟨_, t, fr, g1⟩ := hH.fz b cs h3
      refine asrc_blk hk g1 (by simp [sizeS, Seg.size]) fun i x hx => ?_
      obtain ⟨hi, rfl⟩ := atS_ints1 hx
      exact ⟨_, h4 i hi, rfl, rfl⟩⟩
def strL (s : ByteArray) : List Int := s.data.toList.map fun b => (b.toNat : Int)
def Joins (l : List Seg) (n : Nat) (sub : List Seg) (m : Nat) (l' : List Seg) : Prop := sizeS l' = n + m ∧ ∀ i y, atS l' i = some y → (i < n → ∃ x, atS l i = some x ∧ (y = x ∨ (y = .noid x ∧ x.idB (fun _ => false) = true))) ∧ (n ≤ i → ∃ x, atS sub (i - n) = some x ∧ (y = x ∨ (y = .noid x ∧ x.idB (fun _ => false) = true)))
theorem joined {ρ : Rho} {x y : SV} {v : Value} (h : y = x ∨ (y = .noid x ∧ x.idB (fun _ => false) = true)) (hr : x.cell ρ v) : y.cell ρ v := by
  rcases h with rfl | ⟨rfl, h⟩
  · exact hr
  · exact ⟨⟨SV.to_noM h hr.1, hr.2⟩, hr.2⟩
theorem Joins.ints {k : IntKind} {n m q : Nat} {l l2 : List Int} (h : l.length = n) (hn : n ≤ q) : Joins [.ints k q l] n [.ints k m l2] m [.ints k (n + m) (l ++ l2)] := by
  refine ⟨by simp [sizeS, Seg.size], fun i y hy => ?_⟩
  obtain ⟨hi, rfl⟩ := atS_ints1 hy
  have hs : ∀ (q : Nat) (l : List Int) (i : Nat), i < q → atS [.ints k q l] i = some (.int k (l.getD i 0)) := fun q l i h => by
    have hs : (Seg.ints k q l).size = q := rfl
    simp only [atS]; rw [if_pos (by rw [hs]; exact h)]; rfl
  refine ⟨fun h1 => ⟨_, hs _ _ _ (by omega), .inl ?_⟩, fun h1 => ⟨_, hs _ _ _ (by omega), .inl ?_⟩⟩
  · rw [List.getD_eq_getElem?_getD, List.getD_eq_getElem?_getD, List.getElem?_append_left (by omega)]
  · rw [List.getD_eq_getElem?_getD, List.getD_eq_getElem?_getD, List.getElem?_append_right (by omega), h]
theorem Joins.int1 {k : IntKind} {n q : Nat} {l : List Int} {x : Int} (h : l.length = n) (hn : n ≤ q) : Joins [.ints k q l] n [.one (.int k x)] 1 [.ints k (n + 1) (l ++ [x])] := by
  obtain ⟨h1, h2⟩ := Joins.ints (k := k) (m := 1) (l2 := [x]) h hn
  refine ⟨h1, fun i y hy => ⟨(h2 i y hy).1, fun hi => ?_⟩⟩
  obtain ⟨z, hz, he⟩ := (h2 i y hy).2 hi
  obtain ⟨hi1, rfl⟩ := atS_ints1 hz
  have : i - n = 0 := by omega
  rw [this] at he ⊢
  exact ⟨_, rfl, he⟩
section rules
variable {P : Program} {T : Tm} {H : Heap} {d : Option Tmp} {ty : TypeId} {pos : String} {af : Array Edge} {g : Option (Nat × Bool)}

theorem l_app {x y : Operand} {t tx e rt : TypeId} {id len m size n0 : Nat} {u : SV} {segs sub segs' : List Seg} {inf : TypeInfo} {z : Value} {R : List Nat} {H' : Heap} (hx : ev T x = .s (.gro id size len)) (hy : ev T y = .s u) (hb : hget H id = some ⟨true, segs⟩) (hsrc : ASrc P tx size R H u m sub)
    (hu : P.underlying t = some (.slice e)) (hi : P.info? e = some inf) (hsz : inf.size = size) (hz : inf.zero = some z) (hzs : z.cells.size = size) (h1 : len * size ≤ sizeS segs) (hj : Joins segs (len * size) sub (m * size) segs') (hbig : (len + m) * inf.bytes ≤ 140737488355328) (hb1 : 0 < inf.bytes)
    (hRi : ∀ i ∈ R, i < H.length) (hn : H.length = n0) (hH : H.set id none ++ [some (Blk.mk true segs')] = H') :
    LOk P ⟨d, .call ⟨.builtin .append, #[x, y], #[t, tx]⟩, rt, pos, af, g⟩ T H H' (.s (.gro n0 size (len + m))) (id :: R) [id] := by
  subst hn; subst hH
  have hlt := hget_lt hb
  refine ⟨by simp, fun j hj1 hj2 => ?_, fun j hj1 => by simp at hj1; subst hj1; simp, fun j hj1 => ?_, ?_⟩
  · rw [hget_app, if_pos (by simpa using hj1), hget_set hlt, if_neg (by simpa using hj2)]
  · rcases List.mem_cons.1 hj1 with rfl | h
    · exact hlt
    · exact hRi j h
  have hmk : msk (id :: R) H.length (H.set id none ++ [some (Blk.mk true segs')]) = (msk (id :: R) H.length H).set id none ++ [some (Blk.mk true segs')] := by
    have := msk_app (id :: R) (H.set id none) [some (Blk.mk true segs')]
    rw [List.length_set] at this
    rw [this, msk_set _ _ _ (by simp)]
  rw [hmk]
  have hgm : ∀ j ∈ id :: R, hget (msk (id :: R) H.length H) j = hget H j := fun j hj => by rw [hget_msk, if_pos (.inl hj)]
  generalize hH0 : msk (id :: R) H.length H = H0 at *
  have hl0 : H0.length = H.length := by rw [← hH0, msk_len]
  intro W ρ a w hH hnone hW ho next Q hq
  have k1 : (ev T x).rep ρ (a.eval x) := ho x (by simp [Op.operands, Call.operands])
  have k2 : (ev T y).rep ρ (a.eval y) := ho y (by simp [Op.operands, Call.operands])
  rw [hx] at k1
  rw [hy] at k2
  obtain ⟨hss, hsrc⟩ := hsrc
  obtain ⟨news, hS, hnr, _⟩ := hsrc _ W ρ w _ (fun j hj => hgm j (List.mem_cons_of_mem _ hj)) hH k2
  have hnl : news.length = m * size := hS.newsLen
  have hb0 : hget H0 id = some ⟨true, segs⟩ := (hgm id (by simp)).trans hb
  have hnew : ρ.m H0.length = none := hnone _ (Nat.le_refl _) (by simp)
  have hget2 : ∀ (j : Nat) (k : Blk), hget (H0.set id none ++ [some (Blk.mk true segs')]) j = some k → (j = H0.length ∧ k = ⟨true, segs'⟩) ∨ (j ≠ id ∧ j ≠ H0.length ∧ hget H0 j = some k) := by
    intro j k hk
    rw [hget_app] at hk
    simp only [List.length_set] at hk
    split at hk
    · rename_i hj
      rw [hget_set (by omega)] at hk
      by_cases hji : j = id
      · rw [if_pos hji] at hk; cases hk
      · rw [if_neg hji] at hk; exact .inr ⟨hji, by omega, hk⟩
    · have := hget_lt hk
      simp at this
      have : j = H0.length := by omega
      subst this
      rw [Nat.sub_self] at hk
      exact .inl ⟨rfl, (Option.some.inj hk).symm⟩
  -- a new row
  have grows : ∀ (base : Option Addr) (sLen sCap : Nat) (olds : List Value), a.eval x = .slice base sLen sCap → sLen = len → sCap < sLen + m → (Builtin.firstCells size sLen (.slice base sLen sCap)).run P w.drew = .ok olds.toArray w.drew → olds.length = len * size → RowRep ρ segs (fun i => if i < len * size then olds[i]? else none) ∨ (∀ i x, i < len * size → atS segs i = some x → ∃ v, olds[i]? = some v ∧ x.cell ρ v) →
      Oper.upon P ⟨d, .call ⟨.builtin .append, #[x, y], #[t, tx]⟩, rt, pos, af, g⟩ a next Q ((execOp a.eval ⟨d, .call ⟨.builtin .append, #[x, y], #[t, tx]⟩, rt, pos, af, g⟩).run P w) := by
    intro base sLen sCap olds hev hsl hg hold holl hor
    subst hsl
    have hor' : ∀ i x, i < sLen * size → atS segs i = some x → ∃ v, olds[i]? = some v ∧ x.cell ρ v := by
      rcases hor with h | h
      · intro i x hi hx
        obtain ⟨v, hv, hc⟩ := h i x hx
        have hv : (if i < sLen * size then olds[i]? else none) = some v := hv
        rw [if_pos hi] at hv
        exact ⟨v, hv, hc⟩
      · exact h
    subst hsz
    have h63 : ((sLen + m : Nat) : Int) ≤ 9223372036854775807 := by
      have : sLen + m ≤ (sLen + m) * inf.bytes := Nat.le_mul_of_pos_right _ hb1
      omega
    have hr := run_append_grow_src (P := P) w t tx rt e inf z hu hi hz base sLen sCap olds hold _ m news hS hg h63 (growslice_fits hg hbig)
    generalize hcap : grownCap w (sLen + m) sCap e = cap at hr
    have hcap' : sLen + m ≤ cap := hcap ▸ grownCap_ge w _ _ _
    have hrun : (execOp a.eval ⟨d, .call ⟨.builtin .append, #[x, y], #[t, tx]⟩, rt, pos, af, g⟩).run P w = .ok (.value (.slice (some ⟨w.heap.size, 0, none⟩) (sLen + m) cap)) (w.drew.alloc (.cells ((olds ++ news).toArray ++ Builtin.zeroCells z.cells (cap - (sLen + m))) e)) := by
      simp only [execOp, resolve, invoke, builtin, List.map_toArray, List.map_cons, List.map_nil, hev]
      simp [Sem.run_bind, hr]
    rw [hrun]
    generalize hcells : (olds ++ news).toArray ++ Builtin.zeroCells z.cells (cap - (sLen + m)) = cells
    have hzc : z.cells.size = inf.size ∨ True := .inr trivial
    -- what the row holds
    have hrow : ∀ ρ', Rle ρ ρ' → RowRep ρ' segs' (fun i => cells[i]?) := by
      intro ρ' hle i q hqi
      have hil := atS_lt hqi
      rw [hj.1] at hil
      have hcell : ∀ v, (olds ++ news)[i]? = some v → cells[i]? = some v := fun v hv => by
        have hi' := (List.getElem?_eq_some_iff.1 hv).1
        rw [← hcells, Array.getElem?_append_left (by simpa using hi')]
        simpa using hv
      obtain ⟨c1, c2⟩ := hj.2 i q hqi
      rcases Nat.lt_or_ge i (sLen * inf.size) with h | h
      · obtain ⟨x0, hx0, he⟩ := c1 h
        obtain ⟨v, hv, hc⟩ := hor' i x0 h hx0
        refine ⟨v, hcell v (by rw [List.getElem?_append_left (by omega)]; exact hv), joined he ⟨SV.rep_le hle hc.1, hc.2⟩⟩
      · obtain ⟨x0, hx0, he⟩ := c2 h
        obtain ⟨v, hv, hc⟩ := hnr _ x0 hx0
        refine ⟨v, hcell v (by rw [List.getElem?_append_right (by omega), holl]; exact hv), joined he ⟨SV.rep_le hle hc.1, hc.2⟩⟩
    have hHd : HRep W ρ (hget (H0.set id none)) w.drew := (hH.sub fun j k hk => by
      rw [hget_set (by omega)] at hk
      split at hk
      · cases hk
      · exact hk).ext (.drew w)
    obtain ⟨ρ', k3, k4, k5⟩ := nx_alloc (t := e) (w := w.drew) (H0 := H0.set id none) hHd (by simpa using hnew) (fun b hb => hW b hb) hrow
    refine hq _ _ ⟨ρ', W, ?_, .inr ⟨w.heap.size, 0, cap, cells.size, ?_, rfl, hcap', k5, ?_⟩⟩
    · simp only [List.length_set] at k3
      exact ⟨k3.le, k3.old, k3.rep, ((Ext.drew w).fr W).trans k3.fr, k3.sub, k3.fresh, k3.fzn⟩
    · rw [← hl0]; simpa using k4
    · rw [← hcells]
      simp only [Array.size_append, List.size_toArray, List.length_append, holl, hnl, Builtin.zeroCells, Array.size_map, Array.size_range, Nat.zero_add]
      have e1 : (cap - (sLen + m)) * z.cells.size = (cap - (sLen + m)) * inf.size := by rw [hzs]
      have e2 : cap * inf.size = sLen * inf.size + m * inf.size + (cap - (sLen + m)) * inf.size := by
        rw [← Nat.add_mul, ← Nat.add_mul]; congr 1; omega
      omega
  rcases k1 with ⟨hl, hev⟩ | ⟨b, o, cap, q, hρ, hev, hlc, hszb, hroom⟩
  · -- nothing so far
    rcases Nat.eq_zero_or_pos m with hm | hm
    · -- nothing more
      have hl2 : news = [] := List.eq_nil_of_length_eq_zero (by rw [hnl, hm, Nat.zero_mul])
      have hrun : (execOp a.eval ⟨d, .call ⟨.builtin .append, #[x, y], #[t, tx]⟩, rt, pos, af, g⟩).run P w = .ok (.value (.slice none 0 0)) w := by
        simp only [execOp, resolve, invoke, builtin, List.map_toArray, List.map_cons, List.map_nil, hev]
        have hc := hS.cells
        rw [hm, hl2] at hc
        rcases hS.kind with ⟨e', hk⟩ | hk <;> (have hln := hS.len; rw [hm] at hln; simp [Builtin.append_, Sem.run_bind, run_underlying hu, run_underlying hk, sizeOf, typeInfo, hi, hsz, hln, hc])
      rw [hrun]
      let ρ' := ρ
      refine hq _ _ ⟨ρ, W, ⟨.refl _, fun _ _ h => .inl h, ⟨hH.lt, fun j b o k e1 e2 => ?_, fun j j' b o o' k k' hne e1 e2 e3 e4 => ?_, hH.fz, hH.sz⟩, .refl _ _, fun _ h => h, hW, fun _ _ h => .inl h⟩, .inl ⟨by rw [hl, hm], rfl⟩⟩
      · rcases hget2 j k e2 with ⟨rfl, _⟩ | ⟨_, _, h⟩
        · rw [hnew] at e1; cases e1
        · exact hH.rep j b o k e1 h
      · rcases hget2 j k e3 with ⟨rfl, _⟩ | ⟨_, _, h⟩
        · rw [hnew] at e1; cases e1
        · rcases hget2 j' k' e4 with ⟨rfl, _⟩ | ⟨_, _, h'⟩
          · rw [hnew] at e2; cases e2
          · exact hH.apart j j' b o o' k k' hne e1 e2 h h'
    · exact grows none 0 0 [] hev hl.symm (by omega) (by rw [run_firstCells_none]) (by simp [hl]) (.inr fun i x hi => by rw [hl, Nat.zero_mul] at hi; omega)
  · obtain ⟨⟨cells, tt, fr, g1, g2, _, g4⟩, hWb⟩ := hH.rep id b o _ hρ hb0
    have hfr := g2 rfl
    subst hfr
    have hWb := hWb rfl
    have hcs : cells.size = q := by
      obtain ⟨cs, t', fr', h2, h3⟩ := hH.sz b q hszb
      rw [g1] at h2
      cases h2; exact h3
    rcases Nat.lt_or_ge cap (len + m) with hg | hg
    · -- no room
      have hfit : o + len * size ≤ cells.size := by
        have := Nat.mul_le_mul_right size hlc
        omega
      have hget3 : ∀ i, ((cells.toList.drop o).take (len * size))[i]? = if i < len * size then cells[o + i]? else none := fun i => by
        rw [List.getElem?_take]
        by_cases h : i < len * size
        · rw [if_pos h, if_pos h, List.getElem?_drop]; simp
        · rw [if_neg h, if_neg h]
      refine grows (some ⟨b, o, none⟩) len cap ((cells.toList.drop o).take (len * size)) hev rfl hg ?_ (by simp; omega) (.inr fun i x0 hi2 hx0 => ?_)
      · refine run_firstCells_some w.drew size len ⟨b, o, none⟩ len cap _ (by simp; omega) fun i v hv => ?_
        rw [hget3] at hv
        split at hv
        · rw [addr_add]
          have g1' : w.drew.heap[b]? = some (.cells cells tt (0, 0)) := g1
          simp [World.cell?, g1']
          exact hv
        · cases hv
      · obtain ⟨v, hv, hc⟩ := g4 i x0 hx0
        exact ⟨v, by rw [hget3, if_pos hi2]; exact hv, hc⟩
    · -- there is room
      have hst := run_storeCells_at P b (o + len * size) tt news 0 cells w g1 (by
        have := Nat.mul_le_mul_right size hg
        rw [Nat.add_mul] at this
        simp; omega) hS.one
      rw [Nat.add_zero] at hst
      have hrun : (execOp a.eval ⟨d, .call ⟨.builtin .append, #[x, y], #[t, tx]⟩, rt, pos, af, g⟩).run P w = .ok (.value (.slice (some ⟨b, o, none⟩) (len + m) cap)) (w.setRow b (cells.toList.take (o + len * size) ++ news ++ cells.toList.drop (o + len * size + news.length)).toArray) := by
        simp only [execOp, resolve, invoke, builtin, List.map_toArray, List.map_cons, List.map_nil, hev]
        rcases hS.kind with ⟨e', hk⟩ | hk <;> (simp [Builtin.append_, Sem.run_bind, run_underlying hu, run_underlying hk, sizeOf, typeInfo, hi, hsz, hS.len, hS.cells, hg, addr_add]; rw [hst]; simp)
      rw [hrun]
      have hbl := hH.lt _ _ _ hρ
      have hsize : ((cells.toList.take (o + len * size) ++ news ++ cells.toList.drop (o + len * size + news.length)).toArray).size = cells.size := by
        have := Nat.mul_le_mul_right size hg
        rw [Nat.add_mul] at this
        simp; omega
      have hnewrow := setRow_heap w b cells (cells.toList.take (o + len * size) ++ news ++ cells.toList.drop (o + len * size + news.length)).toArray tt (0, 0) g1
      generalize hrw : (cells.toList.take (o + len * size) ++ news ++ cells.toList.drop (o + len * size + news.length)).toArray = row at *
      let ρ' : Rho := ⟨fun i => if i = H0.length then some (b, o) else ρ.m i, ρ.fz, ρ.sz⟩
      have hρ' : ∀ i x, ρ'.m i = some x → (i = H0.length ∧ x = (b, o)) ∨ (i ≠ H0.length ∧ ρ.m i = some x) := by
        intro i x hx
        have hx : (if i = H0.length then some (b, o) else ρ.m i) = some x := hx
        by_cases hi2 : i = H0.length
        · rw [if_pos hi2] at hx; exact .inl ⟨hi2, (Option.some.inj hx).symm⟩
        · rw [if_neg hi2] at hx; exact .inr ⟨hi2, hx⟩
      have hle : Rle ρ ρ' := by
        refine ⟨fun i x hx => ?_, fun _ _ h => h, fun _ _ h => h⟩
        show (if i = H0.length then some (b, o) else ρ.m i) = some x
        by_cases hi2 : i = H0.length
        · subst hi2; rw [hnew] at hx; cases hx
        · rw [if_neg hi2]; exact hx
      have hother : ∀ j b' o' k, j ≠ id → ρ.m j = some (b', o') → hget H0 j = some k → b' ≠ b := by
        intro j b' o' k hj e1 e2 e
        subst e
        have := (hH.apart j id b' o' o k _ hj e1 hρ e2 hb0).2
        cases this
      have hrowcell : ∀ i, (i < len * size → row[o + i]? = cells[o + i]?) ∧ (len * size ≤ i → i < len * size + news.length → row[o + i]? = news[i - len * size]?) := by
        have hle2 : o + len * size ≤ cells.size := by
          have := Nat.mul_le_mul_right size hlc
          omega
        intro i
        refine ⟨fun h => ?_, fun h h' => ?_⟩
        · rw [← hrw, List.getElem?_toArray, List.getElem?_append_left (by simp; omega), List.getElem?_append_left (by simp; omega), List.getElem?_take, if_pos (by omega)]
          simp
        · rw [← hrw, List.getElem?_toArray, List.getElem?_append_left (by simp; omega), List.getElem?_append_right (by simp; omega)]
          congr 1
          simp; omega
      refine hq _ _ ⟨ρ', W, ⟨hle, fun i x e => ?_, ⟨fun j b' o' e => ?_, fun j b' o' k e1 e2 => ?_, fun j j' b' o1 o2 k k' hne e1 e2 e3 e4 => ?_, fun b' cs e => ?_, fun b' n' e => ?_⟩, Fr.setRow _ hWb g1 hsize, fun _ h => h, fun b' hb' => hW b' (by simpa using hb'), fun _ _ h => .inl h⟩, .inr ⟨b, o, cap, q, ?_, rfl, hg, hszb, hroom⟩⟩
      · rcases hρ' i x e with ⟨rfl, rfl⟩ | ⟨_, h⟩
        · exact .inr ⟨Nat.le_refl _, by simp, hWb⟩
        · exact .inl h
      · rcases hρ' j _ e with ⟨rfl, h⟩ | ⟨_, h⟩
        · cases h; simpa using hbl
        · have := hH.lt _ _ _ h; simpa using this
      · rcases hget2 j k e2 with ⟨rfl, rfl⟩ | ⟨h1', h2', h3'⟩
        · rcases hρ' _ _ e1 with ⟨_, h⟩ | ⟨h, _⟩
          · cases h
            refine ⟨⟨row, tt, (0, 0), hnewrow, fun _ => rfl, fun h => (by cases h), fun i p hp => ?_⟩, fun _ => hWb⟩
            have hil := atS_lt hp
            rw [hj.1] at hil
            obtain ⟨c1, c2⟩ := hj.2 i p hp
            rcases Nat.lt_or_ge i (len * size) with h | h
            · obtain ⟨x0, hx0, he⟩ := c1 h
              obtain ⟨v, hv, hc⟩ := g4 i x0 hx0
              exact ⟨v, by show row[o + i]? = some v; rw [(hrowcell i).1 h]; exact hv, joined he ⟨SV.rep_le hle hc.1, hc.2⟩⟩
            · obtain ⟨x0, hx0, he⟩ := c2 h
              obtain ⟨v, hv, hc⟩ := hnr _ x0 hx0
              exact ⟨v, by show row[o + i]? = some v; rw [(hrowcell i).2 h (by rw [hnl]; exact hil)]; exact hv, joined he ⟨SV.rep_le hle hc.1, hc.2⟩⟩
          · exact absurd rfl h
        · rcases hρ' _ _ e1 with ⟨h, _⟩ | ⟨_, h⟩
          · exact absurd h h2'
          · have := hH.rep j b' o' k h h3'
            refine ⟨(this.1.world (setRow_other _ _ _ _ ?_)).le hle, this.2⟩
            exact fun e => (hother j b' o' k h1' h h3') e
      · rcases hget2 j k e3 with ⟨rfl, rfl⟩ | ⟨h1', h2', h3'⟩ <;> rcases hget2 j' k' e4 with ⟨rfl, rfl⟩ | ⟨h1'', h2'', h3''⟩
        · exact absurd rfl hne
        · rcases hρ' _ _ e1 with ⟨_, h⟩ | ⟨h, _⟩
          · cases h
            rcases hρ' _ _ e2 with ⟨h, _⟩ | ⟨_, h⟩
            · exact absurd h h2''
            · exact absurd rfl (hother j' b o2 k' h1'' h h3'')
          · exact absurd rfl h
        · rcases hρ' _ _ e2 with ⟨_, h⟩ | ⟨h, _⟩
          · cases h
            rcases hρ' _ _ e1 with ⟨h, _⟩ | ⟨_, h⟩
            · exact absurd h h2'
            · exact absurd rfl (hother j b o1 k h1' h h3')
          · exact absurd rfl h
        · rcases hρ' _ _ e1 with ⟨h, _⟩ | ⟨_, h⟩
          · exact absurd h h2'
          rcases hρ' _ _ e2 with ⟨h', _⟩ | ⟨_, h'⟩
          · exact absurd h' h2''
          exact hH.apart j j' b' o1 o2 k k' hne h h' h3' h3''
      · obtain ⟨q1, t', fr', q2⟩ := hH.fz b' cs e
        have hne : b' ≠ b := by intro e'; rw [e'] at q1; exact q1 hWb
        exact ⟨q1, t', fr', by rw [setRow_other _ _ _ _ hne]; exact q2⟩
      · exact sz_fr hH (Fr.setRow (W := W) row hWb g1 hsize) b' n' e
      · show (if H.length = H0.length then some (b, o) else ρ.m H.length) = some (b, o)
        rw [if_pos hl0.symm]
end rules
end Go.Bx
end

section
/- Slices made, cut, copied; closures; strings. No program. -/
namespace Go.Bx

theorem HRep.sub' {W : Nat → Prop} {ρ : Rho} {H nb : Heap} {w : World} (h : HRep W ρ (hget H) w) (hn : ∀ id, H.length ≤ id → ρ.m id = none) : HRep W ρ (hget (H ++ nb)) w := by
  have key : ∀ id b o k, ρ.m id = some (b, o) → hget (H ++ nb) id = some k → hget H id = some k := by
    intro id b o k e1 e2
    rw [hget_app] at e2
    split at e2
    · exact e2
    · rw [hn id (by omega)] at e1; cases e1
  exact ⟨h.lt, fun id b o k e1 e2 => h.rep id b o k e1 (key id b o k e1 e2), fun id id' b o o' k k' hne e1 e2 e3 e4 => h.apart id id' b o o' k k' hne e1 e2 (key _ _ _ _ e1 e3) (key _ _ _ _ e2 e4), h.fz, h.sz⟩

theorem weak_gro {E : Env} {T : Tm} {H H' : Heap} (t wd n0 : Nat) {segs : List Seg} (hx : look T t = .s .nils) (hn : H.length = n0) (hH : H ++ [some (Blk.mk true segs)] = H') : Weak E T H ((t, .s (.gro n0 wd 0)) :: T) H' := by
  subst hn; subst hH
  rintro a w ⟨ρ, W, p, hn, hT, hE⟩
  refine ⟨ρ, W, ⟨p.le, p.rep.sub' hn, p.size, p.defs, p.fr, p.sub, p.fresh, p.fzn, p.old⟩, fun id hid => hn id (by simp at hid; omega), fun i => ?_, by simp; omega⟩
  rw [look_cons]
  by_cases hi : t = i
  · subst hi
    rw [if_pos rfl]
    have := hT t
    rw [hx] at this
    exact .inl ⟨rfl, this⟩
  · rw [if_neg hi]; exact hT i

theorem conv_gro {H : Heap} {id len n : Nat} {k : Blk} {kk : IntKind} {l l' : List Int} (hb : hget H id = some k) (hro : k.rw = false) (hs : segAt k.segs 0 = some (.ints kk n l)) (hn : len ≤ n) (hl : l.length = n) (hl' : l.take len = l') :
    AConv [id] H (.s (.gro id 1 len)) (.s (.fzi kk l')) := by
  rintro c W ρ w u hcc hH (⟨rfl, rfl⟩ | ⟨b, o, cap, q, h1, rfl, h3, _⟩)
  · exact .inl ⟨by rw [← hl']; simp, none, 0, rfl⟩
  · refine conv_sl (base := 0) (idx := 0) (cap := cap) hb hro hs (by omega) h3 hl (by simpa using hl') c W ρ w _ hcc hH ⟨b, o, h1, rfl⟩
section rules
variable {P : Program} {T : Tm} {H : Heap} {d : Option Tmp} {ty : TypeId} {pos : String} {af : Array Edge} {g : Option (Nat × Bool)}

def Bnd (T : Tm) (x : Option Operand) (d n : Nat) : Prop := match x with
  | none => d = n
  | some y => ∃ k m, ev T y = .s (.int k m) ∧ m = (n : Int)
theorem bnd_val {x : Operand} {dd n : Nat} {ρ : Rho} {v : Value} (h : Bnd T (some x) dd n) (hr : (ev T x).rep ρ v) : ∃ k, v = .int k (n : Int) := by
  obtain ⟨k, m, h1, rfl⟩ := h
  rw [h1] at hr
  exact ⟨k, hr⟩
theorem run_bounds {b : Bool} {w : World} {len cap l h m : Nat} {lo hi mx : Option Operand} {a : Act} {ρ : Rho} (hlo : Bnd T lo 0 l) (hhi : Bnd T hi len h) (hmx : Bnd T mx cap m) (hho : mx.isSome = true → hi.isSome = true)
    (ho : ∀ x, (lo = some x ∨ hi = some x ∨ mx = some x) → (ev T x).rep ρ (a.eval x)) (h1 : l ≤ h) (h2 : h ≤ m) (h3 : m ≤ cap) :
    (Instr.sliceBounds b len cap (lo.map a.eval) (hi.map a.eval) (mx.map a.eval)).run P w = .ok (l, h, m) w := by
  have rb : ∀ (k : IntKind) (n y : Nat) (code : BoundsCode), n ≤ y → (Instr.sliceBound (.int k (n : Int)) y code).run P w = .ok n w := fun k n y code hy => by
    simp [Instr.sliceBound, asIntOf, Sem.run_bind]; omega
  cases mx with
  | none =>
    have hm : cap = m := hmx
    subst hm
    cases hi with
    | none =>
      have hh : len = h := hhi
      subst hh
      cases lo with
      | none => have hl : 0 = l := hlo
                subst hl
                simp [Instr.sliceBounds, Sem.run_bind]
      | some x => obtain ⟨k, e⟩ := bnd_val hlo (ho x (by simp))
                  simp [Instr.sliceBounds, Sem.run_bind, e, rb k l len _ h1]
    | some y =>
      obtain ⟨k, e⟩ := bnd_val hhi (ho y (by simp))
      cases lo with
      | none => have hl : 0 = l := hlo
                subst hl
                simp [Instr.sliceBounds, Sem.run_bind, e, rb k h cap _ h2]
      | some x => obtain ⟨k', e'⟩ := bnd_val hlo (ho x (by simp))
                  simp [Instr.sliceBounds, Sem.run_bind, e, e', rb k h cap _ h2, rb k' l h _ h1]
  | some z =>
    obtain ⟨k2, e2⟩ := bnd_val hmx (ho z (by simp))
    cases hi with
    | none => simp at hho
    | some y =>
      obtain ⟨k, e⟩ := bnd_val hhi (ho y (by simp))
      cases lo with
      | none => have hl : 0 = l := hlo
                subst hl
                simp [Instr.sliceBounds, Sem.run_bind, e, e2, rb k2 m cap _ h3, rb k h m _ h2]
      | some x => obtain ⟨k', e'⟩ := bnd_val hlo (ho x (by simp))
                  simp [Instr.sliceBounds, Sem.run_bind, e, e', e2, rb k2 m cap _ h3, rb k h m _ h2, rb k' l h _ h1]
theorem slice_ops {t : TypeId} {x : Operand} {lo hi mx : Option Operand} {ρ : Rho} {a : Act} (ho : Ops ⟨d, .slice t x lo hi mx, ty, pos, af, g⟩ T ρ a) : (ev T x).rep ρ (a.eval x) ∧ ∀ y, (lo = some y ∨ hi = some y ∨ mx = some y) → (ev T y).rep ρ (a.eval y) := by
  refine ⟨ho x ?_, fun y hy => ho y ?_⟩
  · cases lo <;> cases hi <;> cases mx <;> simp [Op.operands]
  · rcases hy with rfl | rfl | rfl
    · cases hi <;> cases mx <;> simp [Op.operands]
    · cases lo <;> cases mx <;> simp [Op.operands]
    · cases lo <;> cases hi <;> simp [Op.operands]
theorem run_slice {t e : TypeId} {w : World} {ad : Option Addr} {len cap l h m sz : Nat} {lo hi mx : Option Value} (hu : P.underlying t = some (.slice e)) (hs : ∀ w, (sizeOf e).run P w = .ok sz w) (hb : (Instr.sliceBounds true len cap lo hi mx).run P w = .ok (l, h, m) w) :
    (Instr.slice t (.slice ad len cap) lo hi mx).run P w = .ok (.slice (if m = l then ad else ad.map (·.add (l * sz))) (h - l) (m - l)) w := by
  simp [Instr.slice, Sem.run_bind, run_underlying hu, hb, hs]
theorem exec_slice {t : TypeId} {x : Operand} {lo hi mx : Option Operand} {a : Act} {w : World} : (execOp a.eval ⟨d, .slice t x lo hi mx, ty, pos, af, g⟩).run P w = ((Instr.sliceAt t (a.eval x) (lo.map a.eval) (hi.map a.eval) (mx.map a.eval)).run P w).andThen fun v w => .ok (.value v) w := by
  simp [execOp, Sem.run_bind]
theorem sliceAt_sl {t e : TypeId} {w : World} {ad : Option Addr} {len cap : Nat} {lo hi mx : Option Value} (hu : P.underlying t = some (.slice e)) : (Instr.sliceAt t (.slice ad len cap) lo hi mx).run P w = (Instr.slice t (.slice ad len cap) lo hi mx).run P w := by
  simp [Instr.sliceAt, Sem.run_bind, run_underlying hu]
theorem l_sl {t e : TypeId} {x : Operand} {lo hi mx : Option Operand} {id base idx len cap l h m sz r n c : Nat} (hx : ev T x = .s (.slice id base idx len cap)) (hlo : Bnd T lo 0 l) (hhi : Bnd T hi len h) (hmx : Bnd T mx cap m) (hho : (mx.isSome && hi.isNone) = false)
    (hu : P.underlying t = some (.slice e)) (hs : ∀ w, (sizeOf e).run P w = .ok sz w) (h1 : l ≤ h) (h2 : h ≤ m) (h3 : m ≤ cap) (hlm : l < m ∨ l = 0) (hr : idx + l * sz = r) (hn : h - l = n) (hc : m - l = c) :
    LOk P ⟨d, .slice t x lo hi mx, ty, pos, af, g⟩ T H H (.s (.slice id base r n c)) [] [] :=
  lok_pure fun ρ a w ho => by
    obtain ⟨k1, k2⟩ := slice_ops ho
    rw [hx] at k1
    obtain ⟨b, o, hρ, k1⟩ := k1
    have hb := run_bounds (P := P) (b := true) (w := w) hlo hhi hmx (fun e => by cases hi <;> simp_all) k2 h1 h2 h3
    have hr2 := run_slice (ad := some ⟨b, o + base + idx, none⟩) hu hs hb
    refine ⟨_, by rw [exec_slice, k1, sliceAt_sl hu, hr2]; rfl, b, o, hρ, ?_⟩
    subst hr; subst hn; subst hc
    rcases hlm with h4 | h4
    · rw [if_neg (by omega)]; simp [addr_add, Nat.add_assoc]
    · subst h4; split <;> simp [addr_add, Nat.add_assoc]
theorem l_sla {t e : TypeId} {x : Operand} {lo hi mx : Option Operand} {id base idx len l h m sz r n c : Nat} (hx : ev T x = .s (.ptr id base idx)) (hlo : Bnd T lo 0 l) (hhi : Bnd T hi len h) (hmx : Bnd T mx len m) (hho : (mx.isSome && hi.isNone) = false)
    (hu : P.underlying t = some (.array len e)) (hs : ∀ w, (sizeOf e).run P w = .ok sz w) (h1 : l ≤ h) (h2 : h ≤ m) (h3 : m ≤ len) (hlm : l < m ∨ l = 0) (hr : idx + l * sz = r) (hn : h - l = n) (hc : m - l = c) :
    LOk P ⟨d, .slice t x lo hi mx, ty, pos, af, g⟩ T H H (.s (.slice id base r n c)) [] [] :=
  lok_pure fun ρ a w ho => by
    obtain ⟨k1, k2⟩ := slice_ops ho
    rw [hx] at k1
    obtain ⟨b, o, hρ, k1⟩ := k1
    have hb := run_bounds (P := P) (b := false) (w := w) hlo hhi hmx (fun e => by cases hi <;> simp_all) k2 h1 h2 h3
    have hr2 : (Instr.sliceAt t (.pointer (some ⟨b, o + base + idx, none⟩)) (lo.map a.eval) (hi.map a.eval) (mx.map a.eval)).run P w = .ok (.slice (some (if m = l then ⟨b, o + base + idx, none⟩ else (⟨b, o + base + idx, none⟩ : Addr).add (l * sz))) (h - l) (m - l)) w := by
      simp [Instr.sliceAt, Instr.slice, Sem.run_bind, run_underlying hu, hb, hs, asAddr, Instr.sureAddr]
    refine ⟨_, by rw [exec_slice, k1, hr2]; rfl, b, o, hρ, ?_⟩
    subst hr; subst hn; subst hc
    rcases hlm with h4 | h4
    · rw [if_neg (by omega)]; simp [addr_add, Nat.add_assoc]
    · subst h4; split <;> simp [addr_add, Nat.add_assoc]
theorem l_sli {t e : TypeId} {x : Operand} {lo hi mx : Option Operand} {k : IntKind} {xs ys : List Int} {l h : Nat} (hx : ev T x = .s (.fzi k xs)) (hlo : Bnd T lo 0 l) (hhi : Bnd T hi xs.length h) (hmx : mx = none ∨ ∃ m, (∃ y, mx = some y ∧ ∃ k q, ev T y = .s (.int k q) ∧ q = ((m : Nat) : Int)) ∧ h ≤ m ∧ m ≤ xs.length) (hho : (mx.isSome && hi.isNone) = false)
    (hu : P.underlying t = some (.slice e)) (hs : ∀ w, (sizeOf e).run P w = .ok 1 w) (h1 : l ≤ h) (h2 : h ≤ xs.length) (hr : (xs.drop l).take (h - l) = ys) :
    LOk P ⟨d, .slice t x lo hi mx, ty, pos, af, g⟩ T H H (.s (.fzi k ys)) [] [] :=
  lok_pure fun ρ a w ho => by
    obtain ⟨k1, k2⟩ := slice_ops ho
    rw [hx] at k1
    have hyl : ys.length = h - l := by rw [← hr]; simp; omega
    obtain ⟨ad, cap, hev, hcap, hfz⟩ : ∃ ad cap, a.eval x = .slice ad xs.length cap ∧ xs.length ≤ cap ∧ (xs = [] ∨ ∃ b o cs, ad = some ⟨b, o, none⟩ ∧ ρ.fz b = some cs ∧ ∀ i, i < xs.length → cs[o + i]? = some (.int k (xs.getD i 0))) := by
      rcases k1 with ⟨e1, ad, c, e2⟩ | ⟨b, o, c, cs, e2, e3, e4, e5⟩
      · exact ⟨ad, c, by rw [e2, e1]; rfl, by rw [e1]; simp, .inl e1⟩
      · exact ⟨_, c, e2, e3, .inr ⟨b, o, cs, rfl, e4, e5⟩⟩
    obtain ⟨m, hm1, hm2, hm3⟩ : ∃ m, Bnd T mx cap m ∧ h ≤ m ∧ m ≤ cap := by
      rcases hmx with rfl | ⟨m, ⟨y, rfl, k', q, e1, e2⟩, e3, e4⟩
      · exact ⟨cap, rfl, by omega, Nat.le_refl _⟩
      · exact ⟨m, ⟨k', q, e1, e2⟩, e3, by omega⟩
    have hb := run_bounds (P := P) (b := true) (w := w) hlo hhi hm1 (fun e => by cases hi <;> simp_all) k2 h1 hm2 hm3
    have hr2 := run_slice (ad := ad) hu hs hb
    refine ⟨_, by rw [exec_slice, hev, sliceAt_sl hu, hr2]; rfl, ?_⟩
    rcases Nat.eq_zero_or_pos (h - l) with h0 | h0
    · exact .inl ⟨List.eq_nil_of_length_eq_zero (by rw [hyl]; exact h0), _, _, by rw [h0]⟩
    · rcases hfz with e | ⟨b, o, cs, rfl, e4, e5⟩
      · subst e; simp at h2; omega
      · refine .inr ⟨b, o + l, m - l, cs, ?_, by rw [hyl]; omega, e4, fun i hi => ?_⟩
        · rw [if_neg (by omega), hyl]; simp [addr_add]
        · rw [hyl] at hi
          rw [show o + l + i = o + (l + i) by omega, e5 (l + i) (by omega), ← hr]
          congr 2
          rw [List.getD_eq_getElem?_getD, List.getD_eq_getElem?_getD, List.getElem?_take_of_lt hi, List.getElem?_drop]
theorem l_slf {t e : TypeId} {x : Operand} {lo hi mx : Option Operand} {q : Nat} {f : Nat → SV} {k : IntKind} {xs ys : List Int} {base idx len l h m : Nat} (hx : ev T x = .s (.fptr q f base idx)) (hlo : Bnd T lo 0 l) (hhi : Bnd T hi len h) (hmx : Bnd T mx len m) (hho : (mx.isSome && hi.isNone) = false)
    (hu : P.underlying t = some (.array len e)) (hs : ∀ w, (sizeOf e).run P w = .ok 1 w) (h1 : l ≤ h) (h2 : h ≤ m) (h3 : m ≤ len) (hq : base + idx + len ≤ q) (hf : ∀ i, i < len → f (base + idx + i) = .int k (xs.getD i 0)) (hxl : xs.length = len) (hr : (xs.drop l).take (h - l) = ys) :
    LOk P ⟨d, .slice t x lo hi mx, ty, pos, af, g⟩ T H H (.s (.fzi k ys)) [] [] :=
  lok_pure fun ρ a w ho => by
    obtain ⟨k1, k2⟩ := slice_ops ho
    rw [hx] at k1
    obtain ⟨b, o, cs, k1, k3, k4⟩ := k1
    have hyl : ys.length = h - l := by rw [← hr]; simp; omega
    have hb := run_bounds (P := P) (b := false) (w := w) hlo hhi hmx (fun e => by cases hi <;> simp_all) k2 h1 h2 h3
    have hr2 : (Instr.sliceAt t (.pointer (some ⟨b, o + base + idx, none⟩)) (lo.map a.eval) (hi.map a.eval) (mx.map a.eval)).run P w = .ok (.slice (some (if m = l then ⟨b, o + base + idx, none⟩ else (⟨b, o + base + idx, none⟩ : Addr).add (l * 1))) (h - l) (m - l)) w := by
      simp [Instr.sliceAt, Instr.slice, Sem.run_bind, run_underlying hu, hb, hs, asAddr, Instr.sureAddr]
    refine ⟨_, by rw [exec_slice, k1, hr2]; rfl, ?_⟩
    rcases Nat.eq_zero_or_pos (h - l) with h0 | h0
    · exact .inl ⟨List.eq_nil_of_length_eq_zero (by rw [hyl]; exact h0), _, _, by rw [h0]⟩
    · refine .inr ⟨b, o + base + idx + l, m - l, cs, ?_, by rw [hyl]; omega, k3, fun i hi => ?_⟩
      · rw [if_neg (by omega), hyl]; simp [addr_add]
      · rw [hyl] at hi
        obtain ⟨u, hu', hr', _⟩ := k4 (base + idx + (l + i)) (by omega)
        rw [hf (l + i) (by omega)] at hr'
        have hr' : u = .int k (xs.getD (l + i) 0) := hr'
        subst hr'
        rw [show o + base + idx + l + i = o + (base + idx + (l + i)) by omega, hu', ← hr]
        congr 2
        rw [List.getD_eq_getElem?_getD, List.getD_eq_getElem?_getD, List.getElem?_take_of_lt hi, List.getElem?_drop]

theorem l_make {t e : TypeId} {x y : Operand} {l c n : Nat} {k k1 k2 : IntKind} {m1 m2 : Int} {inf : TypeInfo} (hx : ev T x = .s (.int k1 m1)) (hy : ev T y = .s (.int k2 m2)) (hm1 : m1 = (l : Int)) (hm2 : m2 = (c : Int)) (hlc : l ≤ c) (hc : inf.bytes * c ≤ 281474976710656) (hc2 : c ≤ 281474976710656)
    (hu : P.underlying t = some (.slice e)) (hi : P.info? e = some inf) (hs : inf.size = 1) (hz : inf.zero = some (.int k 0)) (hn : H.length = n) :
    LOk P ⟨d, .makeSlice t x y, ty, pos, af, g⟩ T H (H ++ [some (Blk.mk true [.ints k c (List.replicate c 0)])]) (.s (.slice n 0 0 l c)) [] [] :=
  lok_new [] (fun _ h => by cases h) fun H0 hl0 _ => by
    subst hn; subst hm1; subst hm2
    intro W ρ a w hH hf hW ho next Q hq
    obtain ⟨h1, h2⟩ := two (op := .makeSlice t x y) rfl ho hx hy
    simp only [AV.rep, AV.rep0, SV.rep] at h1 h2
    have hm := run_make (P := P) w t e inf (.int k 0) hu hi hz k1 k2 (l : Int) (c : Int) (by omega) (by omega) (by
      have h : ((inf.bytes * c : Nat) : Int) ≤ 281474976710656 := by omega
      rwa [Int.natCast_mul] at h) (by omega)
    simp only [Int.toNat_natCast, hs, Nat.mul_one] at hm
    have hrun : (execOp a.eval ⟨d, .makeSlice t x y, ty, pos, af, g⟩).run P w = .ok (.value (.slice (some ⟨w.heap.size, 0, none⟩) l c)) (w.alloc (.cells (madeCells (Value.int k 0).cells c) e)) := by
      simp [execOp, h1, h2, Sem.run_bind, hm]
    rw [hrun]
    obtain ⟨ρ', k3, k4, _⟩ := nx_alloc (t := e) hH (hf _ (Nat.le_refl _) (by simp)) hW (cells := madeCells (Value.int k 0).cells c) (segs := [.ints k c (List.replicate c 0)]) (fun ρ' _ i z hz => by
      obtain ⟨hi, rfl⟩ := atS_ints1 hz
      exact ⟨.int k 0, by simp [madeCells, Value.cells, hi, Nat.mod_one], by simp [SV.rep, List.getElem?_replicate, hi], rfl⟩)
    exact hq _ _ ⟨ρ', W, k3, w.heap.size, 0, by rw [← hl0]; exact k4, rfl⟩
theorem l_copy {x y : Operand} {t tx e rt : TypeId} {id base idx dl dc n m sz : Nat} {u : SV} {segs sub sub' segs' : List Seg} {R : List Nat} {H' : Heap} (hx : ev T x = .s (.slice id base idx dl dc)) (hy : ev T y = .s u) (hb : hget H id = some ⟨true, segs⟩) (hsrc : ASrc P tx sz R H u m sub) (hn : min m dl = n)
    (hu : P.underlying t = some (.slice e)) (hs : ∀ w, (sizeOf e).run P w = .ok sz w) (hsub : SubS sub 0 (n * sz) sub') (hp : PutS segs (base + idx) (n * sz) sub' segs') (hRi : ∀ i ∈ R, i < H.length) (hH : H.set id (some ⟨true, segs'⟩) = H') :
    LOk P ⟨d, .call ⟨.builtin .copy, #[x, y], #[t, tx]⟩, rt, pos, af, g⟩ T H H' (.s (.int .i64 (n : Int))) (id :: R) [id] := by
  subst hH; subst hn
  have hlt := hget_lt hb
  refine lok_set (id :: R) (fun j hj => ?_) (by simp) fun H0 hl hag => ?_
  · rcases List.mem_cons.1 hj with rfl | h
    · exact hlt
    · exact hRi j h
  intro W ρ a w hH hnn hW ho next Q hq
  have k1 : (ev T x).rep ρ (a.eval x) := ho x (by simp [Op.operands, Call.operands])
  have k2 : (ev T y).rep ρ (a.eval y) := ho y (by simp [Op.operands, Call.operands])
  rw [hx] at k1
  rw [hy] at k2
  obtain ⟨b, o, hρ, k1⟩ := k1
  obtain ⟨news, hS, hnr, hpre⟩ := hsrc.2 _ W ρ w _ (fun j hj => hag j (List.mem_cons_of_mem _ hj)) hH k2
  have hb0 : hget H0 id = some ⟨true, segs⟩ := (hag id (by simp)).trans hb
  obtain ⟨⟨cells, tt, fr, g1, g2, _, g4⟩, hWb⟩ := hH.rep id b o _ hρ hb0
  have hfr := g2 rfl
  subst hfr
  have hfit := fits g4 hp
  have hnl := hS.newsLen
  have hmn : min m dl * sz ≤ news.length := by rw [hnl]; exact Nat.mul_le_mul_right sz (Nat.min_le_left _ _)
  -- the cells that are copied
  have hf := hpre (min m dl) (Nat.min_le_left _ _)
  generalize hcs : news.take (min m dl * sz) = cs at *
  have hcl : cs.length = min m dl * sz := by rw [← hcs, List.length_take]; omega
  have hone : ∀ u ∈ cs, u.oneCell' = true := fun u hu => hS.one u (by rw [← hcs] at hu; exact List.mem_of_mem_take hu)
  have hst := run_storeCells_at P b (o + (base + idx)) tt cs 0 cells w g1 (by rw [hcl]; omega) hone
  rw [Nat.add_zero] at hst
  have hrun : (execOp a.eval ⟨d, .call ⟨.builtin .copy, #[x, y], #[t, tx]⟩, rt, pos, af, g⟩).run P w = .ok (.value (.int .i64 ((min m dl : Nat) : Int))) (w.setRow b (cells.toList.take (o + (base + idx)) ++ cs ++ cells.toList.drop (o + (base + idx) + cs.length)).toArray) := by
    simp only [execOp, resolve, invoke, builtin, List.map_toArray, List.map_cons, List.map_nil, k1]
    have hmin : Nat.min m dl = min m dl := rfl
    simp only [Builtin.copy_, Sem.run_bind, run_underlying hu, hS.len, hs, Result.andThen_ok]
    simp [Sem.run_bind, run_underlying hu, hS.len, hs, hmin, hf, goInt]
    rw [show o + base + idx = o + (base + idx) by omega, hst]
    simp
  rw [hrun]
  refine hq _ _ ⟨ρ, W, nx_write hH hW hρ hb0 g1 g4 hp hcl (fun i z hz => ?_) hfit, rfl⟩
  have hi : i < min m dl * sz := by rw [← hsub.1]; exact atS_lt hz
  obtain ⟨y', x', e1, e2, e3⟩ := hsub.2 i hi
  rw [hz] at e2
  cases e2
  rw [Nat.zero_add] at e1
  obtain ⟨v, hv, hc⟩ := hnr i y' e1
  refine ⟨v, ?_, e3.rep hc.1, hc.2⟩
  show cs[i]? = some v
  rw [← hcs, List.getElem?_take, if_pos hi]; exact hv

inductive CapL (T : Tm) (g : Nat → SV) : Nat → List Operand → Prop
  | nil {i} : CapL T g i []
  | cons {i x xs} (hx : ev T x = .s (g i)) (k : CapL T g (i + 1) xs) : CapL T g i (x :: xs)
theorem CapL.get {T : Tm} {q : Nat → SV} {i : Nat} {xs : List Operand} (h : CapL T q i xs) : ∀ (j : Nat) (x : Operand), xs[j]? = some x → ev T x = .s (q (i + j)) := by
  induction h with
  | nil => intro j x hx; simp at hx
  | @cons i x xs hx k ih =>
    intro j y hy
    cases j with
    | zero => simp at hy; subst hy; exact hx
    | succ j => have := ih j y (by simpa using hy); rw [show i + (j + 1) = i + 1 + j by omega]; exact this
theorem l_fn {f n : Nat} {caps : Array Operand} {l : List Operand} {q : Nat → SV} (hl : caps.toList = l) (hc : CapL T q 0 l) (hn : l.length = n) :
    LOk P ⟨d, .makeFunc (.func f) #[] caps, ty, pos, af, g⟩ T H H (.s (.clo f n q)) [] [] :=
  lok_pure fun ρ a w ho => by
    subst hl; subst hn
    refine ⟨.func (.func f) #[] (caps.map a.eval), by simp [execOp, Instr.makeFunc], caps.map a.eval, rfl, by simp, fun i hi => ?_⟩
    have hi' : i < caps.size := by simpa using hi
    have hx : caps.toList[i]? = some caps[i] := by simp [hi']
    have he := hc.get i _ hx
    rw [Nat.zero_add] at he
    have hm : caps[i] ∈ (Op.makeFunc (.func f) #[] caps).operands := by simp [Op.operands]
    have := ho _ hm
    rw [he] at this
    exact ⟨a.eval caps[i], by simp [hi'], this⟩

end rules
end Go.Bx
end

section
/- Structs and rows, built of parts; structs compared. No program. -/
namespace Go.Bx

def AV.row : AV → List Seg
  | .s v => [.one v]
  | .agg l => l
  | .tup _ => []
def AV.solid : AV → Bool
  | .s .junk => false
  | .tup _ => false
  | _ => true
theorem av_row {ρ : Rho} {x : AV} {u : Value} (hx : x.solid = true) (h : x.rep ρ u) : RowRep ρ x.row (fun i => u.cells[i]?) ∧ u.cells.size = sizeS x.row ∧ ∀ v ∈ u.cells.toList, v.oneCell' = true := by
  cases x with
  | s v =>
    have hj : v ≠ .junk := by rintro rfl; simp [AV.solid] at hx
    obtain ⟨h1, h2, h3⟩ := rep_cells_s h hj
    exact ⟨h2, h1, h3⟩
  | agg l =>
    obtain ⟨h1, h2, h3⟩ := rep_cells_agg h rfl
    exact ⟨h2, h1, h3⟩
  | tup l => simp [AV.solid] at hx
inductive PartL (T : Tm) : List (Nat × Operand) → List (Nat × AV) → Prop
  | nil : PartL T [] []
  | cons {i x a ps l} (hx : ev T x = a) (hs : a.solid = true) (k : PartL T ps l) : PartL T ((i, x) :: ps) ((i, a) :: l)
inductive PRep (ρ : Rho) : List (Nat × AV) → List (Nat × Value) → Prop
  | nil : PRep ρ [] []
  | cons {i a v l vs} (hs : a.solid = true) (h : a.rep ρ v) (k : PRep ρ l vs) : PRep ρ ((i, a) :: l) ((i, v) :: vs)
theorem PartL.rep {T : Tm} {ps : List (Nat × Operand)} {l : List (Nat × AV)} {ρ : Rho} {a : Act} (h : PartL T ps l) (ho : ∀ p ∈ ps, (ev T p.2).rep ρ (a.eval p.2)) : PRep ρ l (ps.map fun p => (p.1, a.eval p.2)) := by
  induction h with
  | nil => exact .nil
  | @cons i x v ps l hx hs k ih => exact .cons hs (by have := ho (i, x) (by simp); rwa [hx] at this) (ih fun p hp => ho p (by simp [hp]))
def fillS (place : Nat → Option (Nat × Nat)) : List Seg → List (Nat × AV) → Option (List Seg)
  | Z, [] => some Z
  | Z, (i, a) :: r => match place i with
    | none => none
    | some (off, size) => bif Nat.beq (sizeS a.row) size then (match putSegs Z off size a.row with | some Z' => fillS place Z' r | none => none) else none
theorem putSegs_len : ∀ {l : List Seg} {o n : Nat} {sub l' : List Seg}, putSegs l o n sub = some l' → sizeS sub = n → sizeS l' = sizeS l
  | l, 0, n, sub, l', h, hs => by
    have h : (dropS l n).map (sub ++ ·) = some l' := by cases l <;> exact h
    simp only [Option.map_eq_some_iff] at h
    obtain ⟨q, hq, rfl⟩ := h
    have : ∀ {l : List Seg} {n : Nat} {q : List Seg}, dropS l n = some q → n + sizeS q = sizeS l := by
      intro l
      induction l with
      | nil => intro n q hq; cases n with
        | zero => simp only [dropS, Option.some.injEq] at hq; subst hq; simp
        | succ n => simp [dropS] at hq
      | cons s r ih => intro n q hq; cases n with
        | zero =>
          have hq : some (s :: r) = some q := hq
          cases hq; simp
        | succ n =>
          simp only [dropS] at hq
          cases h1 : Nat.ble s.size (n + 1) with
          | false => rw [h1] at hq; simp at hq
          | true =>
            rw [h1] at hq
            simp only [cond_true] at hq
            cases h2 : Nat.beq s.size 0 with
            | true => rw [h2] at hq; simp at hq
            | false =>
              rw [h2] at hq
              have := ih hq
              have hle : s.size ≤ n + 1 := Nat.le_of_ble_eq_true h1
              simp [sizeS]; omega
    rw [sizeS_append, hs]; exact this hq
  | [], o + 1, n, sub, l', h, hs => by simp [putSegs] at h
  | s :: r, o + 1, n, sub, l', h, hs => by
    simp only [putSegs] at h
    cases h1 : Nat.ble s.size (o + 1) with
    | false => rw [h1] at h; simp at h
    | true =>
      rw [h1] at h
      simp only [cond_true] at h
      cases h2 : Nat.beq s.size 0 with
      | true => rw [h2] at h; simp at h
      | false =>
        rw [h2] at h
        simp only [cond_false, Option.map_eq_some_iff] at h
        obtain ⟨q, hq, rfl⟩ := h
        have := putSegs_len hq hs
        simp [sizeS, this]
theorem fill_rep {place : Nat → Option (Nat × Nat)} {ρ : Rho} {l : List (Nat × AV)} {vs : List (Nat × Value)} (hp : PRep ρ l vs) : ∀ {Z R : List Seg} {cells : Array Value}, fillS place Z l = some R → cells.size = sizeS Z → RowRep ρ Z (fun i => cells[i]?) →
    ∃ r, Instr.fill place cells vs = some r ∧ r.size = sizeS R ∧ RowRep ρ R (fun i => r[i]?) := by
  induction hp with
  | nil => intro Z R cells h hs hr; simp only [fillS, Option.some.injEq] at h; subst h; exact ⟨cells, rfl, hs, hr⟩
  | @cons i a v l vs hsol ha k ih =>
    intro Z R cells h hs hr
    simp only [fillS] at h
    cases hpl : place i with
    | none => rw [hpl] at h; cases h
    | some x =>
      obtain ⟨off, size⟩ := x
      rw [hpl] at h
      simp only at h
      cases hb : Nat.beq (sizeS a.row) size with
      | false => rw [hb] at h; simp at h
      | true =>
        rw [hb] at h
        simp only [cond_true] at h
        have hsz := Nat.eq_of_beq_eq_true hb
        cases hz : putSegs Z off size a.row with
        | none => rw [hz] at h; simp at h
        | some Z' =>
          rw [hz] at h
          simp only at h
          obtain ⟨r1, r2, _⟩ := av_row hsol ha
          have hle := putSegs_size hz
          obtain ⟨g1, g2⟩ := Great.foldl_set off v.cells.toList 0 cells
          have e : Instr.fill place cells ((i, v) :: vs) = Instr.fill place (v.cells.zipIdx.foldl (fun cs (c, j) => cs.setIfInBounds (off + j) c) cells) vs := by
            rw [Instr.fill, hpl]
            simp only
            rw [if_neg (by simp; omega)]
          rw [e]
          have ef : v.cells.zipIdx.foldl (fun cs (c, j) => cs.setIfInBounds (off + j) c) cells = (v.cells.toList.zipIdx 0).foldl (fun cs (p : Value × Nat) => cs.setIfInBounds (off + p.2) p.1) cells := by
            rw [← Array.foldl_toList, Array.toList_zipIdx]
          rw [ef]
          refine ih h (by rw [g1, hs, putSegs_len hz hsz]) fun j x hx => ?_
          have hput := putSegs_put hz hsz j x hx
          show ∃ u, (_ : Array Value)[j]? = some u ∧ _
          rw [g2 j]
          have hvl : v.cells.toList.length = size := by simp [r2, hsz]
          by_cases hj : off ≤ j ∧ j < off + size
          · rw [if_pos hj] at hput
            rw [if_pos ⟨by omega, by omega, by omega⟩]
            obtain ⟨u, hu, hc⟩ := r1 _ x hput
            exact ⟨u, by simpa using hu, hc⟩
          · rw [if_neg hj] at hput
            rw [if_neg (by rw [hvl]; omega)]
            exact hr j x hput

section rules
variable {P : Program} {T : Tm} {H : Heap} {d : Option Tmp} {ty : TypeId} {pos : String} {af : Array Edge} {g : Option (Nat × Bool)}
theorem eval_parts {parts : Array (Nat × Operand)} {l : List (Nat × AV)} {ρ : Rho} {a : Act} {ps : List (Nat × Operand)} (hps : parts.toList = ps) (hl : PartL T ps l) (ho : ∀ x ∈ (Op.build ty parts).operands, (ev T x).rep ρ (a.eval x)) : PRep ρ l (parts.map fun p => (p.1, a.eval p.2)).toList := by
  subst hps
  rw [Array.toList_map]
  exact hl.rep fun p hp => ho _ (by simp only [Op.operands]; simpa using ⟨p.1, Array.mem_toList_iff.1 hp⟩)
theorem l_build {t : TypeId} {fields : Array Field} {places : Array (Nat × Nat)} {z : Value} {parts : Array (Nat × Operand)} {ps : List (Nat × Operand)} {l : List (Nat × AV)} {Z segs : List Seg} (hps : parts.toList = ps) (hl : PartL T ps l) (hu : P.underlying t = some (.struct fields)) (hz : ∀ w, (zeroValue t).run P w = .ok z w)
    (hp : ∀ w, (fields.mapM fun f => do pure (f.offset, ← sizeOf f.type) : Sem (Array (Nat × Nat))).run P w = .ok places w) (hZ : rowOk Z z.cells = true) (hs : fillS (places[·]?) Z l = some segs) : LOk P ⟨d, .build t parts, ty, pos, af, g⟩ T H H (.agg segs) [] [] :=
  lok_pure fun ρ a w ho => by
    have hr := eval_parts (ty := t) hps hl ho
    obtain ⟨r, h1, h2, h3⟩ := fill_rep (place := (places[·]?)) hr hs (rowOk_rep hZ).1 ((rowOk_rep hZ).2 ρ)
    refine ⟨.agg r, ?_, r, rfl, h2, h3⟩
    simp only [execOp]
    simp only [Instr.build, Sem.run_bind, hz, Result.andThen_ok, run_underlying hu, hp, h1, Sem.run_pure]
def intsOf (k : IntKind) : List Seg → Option (List Int)
  | [] => some []
  | .one (.int k' x) :: r => bif k' == k then (intsOf k r).map (x :: ·) else none
  | .ints k' n l :: r => bif k' == k && Nat.beq l.length n then (intsOf k r).map (l ++ ·) else none
  | _ => none
theorem intsOf_at {k : IntKind} : ∀ {l : List Seg} {xs : List Int}, intsOf k l = some xs → sizeS l = xs.length ∧ ∀ i, i < xs.length → atS l i = some (.int k (xs.getD i 0))
  | [], xs, h => by simp only [intsOf, Option.some.injEq] at h; subst h; exact ⟨rfl, fun i hi => absurd hi (Nat.not_lt_zero i)⟩
  | .one v :: r, xs, h => by
    cases v with
    | int k' x =>
      simp only [intsOf] at h
      cases hk : k' == k with
      | false => rw [hk] at h; simp at h
      | true =>
        rw [hk] at h
        simp only [cond_true, Option.map_eq_some_iff] at h
        obtain ⟨q, hq, rfl⟩ := h
        have : k' = k := by simpa using hk
        subst this
        obtain ⟨i1, i2⟩ := intsOf_at hq
        refine ⟨by simp [sizeS, Seg.size, i1]; omega, fun i hi => ?_⟩
        cases i with
        | zero => simp [atS, Seg.size, Seg.at]
        | succ i => simp [atS, Seg.size, i2 i (by simpa using hi)]
    | _ => simp [intsOf] at h
  | .ints k' n l :: r, xs, h => by
    simp only [intsOf] at h
    cases hk : k' == k && Nat.beq l.length n with
    | false => rw [hk] at h; simp at h
    | true =>
      rw [hk] at h
      simp only [cond_true, Option.map_eq_some_iff] at h
      obtain ⟨q, hq, rfl⟩ := h
      simp only [Bool.and_eq_true, beq_iff_eq] at hk
      obtain ⟨rfl, hl⟩ := hk
      have hl := Nat.eq_of_beq_eq_true hl
      subst hl
      obtain ⟨i1, i2⟩ := intsOf_at hq
      have hs : (Seg.ints k' l.length l).size = l.length := rfl
      refine ⟨by simp [sizeS, hs, i1], fun i hi => ?_⟩
      simp only [atS, hs]
      by_cases h1 : i < l.length
      · rw [if_pos h1, List.getD_eq_getElem?_getD, List.getElem?_append_left h1]; rfl
      · rw [if_neg h1, i2 _ (by simp at hi; omega), List.getD_eq_getElem?_getD, List.getD_eq_getElem?_getD, List.getElem?_append_right (by omega)]
  | .rows .. :: r, xs, h => by simp [intsOf] at h
theorem rep_ints {ρ : Rho} {k : IntKind} {l : List Seg} {xs : List Int} {n : Nat} (h : intsOf k l = some xs) (hn : xs.length = n) {get : Nat → Option Value} (hr : RowRep ρ l get) : RowRep ρ [.ints k n xs] get := by
  subst hn
  obtain ⟨i1, i2⟩ := intsOf_at h
  intro i x hx
  obtain ⟨hi, rfl⟩ := atS_ints1 hx
  exact hr i _ (i2 i hi)
theorem l_buildI {t e : TypeId} {n : Nat} {k : IntKind} {xs : List Int} {z : Value} {parts : Array (Nat × Operand)} {ps : List (Nat × Operand)} {l : List (Nat × AV)} {Z segs : List Seg} (hps : parts.toList = ps) (hl : PartL T ps l) (hu : P.underlying t = some (.array n e)) (hz : ∀ w, (zeroValue t).run P w = .ok z w)
    (he : ∀ w, (sizeOf e).run P w = .ok 1 w) (hZ : rowOk Z z.cells = true) (hs : fillS (fun i => some (i * 1, 1)) Z l = some segs) (hi : intsOf k segs = some xs) (hn : xs.length = n) : LOk P ⟨d, .build t parts, ty, pos, af, g⟩ T H H (.agg [.ints k n xs]) [] [] :=
  lok_pure fun ρ a w ho => by
    have hr := eval_parts (ty := t) hps hl ho
    obtain ⟨r, h1, h2, h3⟩ := fill_rep (place := fun i => some (i * 1, 1)) hr hs (rowOk_rep hZ).1 ((rowOk_rep hZ).2 ρ)
    refine ⟨.agg r, ?_, r, rfl, by rw [h2, (intsOf_at hi).1, hn]; simp [sizeS, Seg.size], rep_ints hi hn h3⟩
    simp only [execOp]
    simp only [Instr.build, Sem.run_bind, hz, Result.andThen_ok, run_underlying hu, he, h1, Sem.run_pure]
theorem l_bsl {t e : TypeId} {n sz n0 : Nat} {z : Value} {parts : Array (Nat × Operand)} {ps : List (Nat × Operand)} {l : List (Nat × AV)} {Z segs segs' : List Seg} (hps : parts.toList = ps) (hl : PartL T ps l) (hu : P.underlying t = some (.slice e))
    (he : ∀ w, (sizeOf e).run P w = .ok sz w) (hbig : n * sz ≤ 16777216) (hz : ∀ w, (zeroValue e).run P w = .ok z w) (hZ : rowOk Z ((Array.range (n * sz)).map fun i => z.cells[i % z.cells.size]!) = true) (hs : fillS (fun i => some (i * sz, sz)) Z l = some segs)
    (h0 : 0 < n * sz) (hc : ∀ (ρ : Rho) (get : Nat → Option Value), RowRep ρ segs get → RowRep ρ segs' get) (hn : H.length = n0) {H' : Heap} (hH : H ++ [some (Blk.mk true segs')] = H') : LOk P ⟨d, .buildSlice t n parts, ty, pos, af, g⟩ T H H' (.s (.slice n0 0 0 n n)) [] [] := by
  subst hH
  refine lok_new [] (fun _ h => by cases h) fun H0 hl0 _ => ?_
  subst hn
  intro W ρ a w hH hf hW ho next Q hq
  have hr := eval_parts (ty := t) hps hl ho
  obtain ⟨r, h1, h2, h3⟩ := fill_rep (place := fun i => some (i * sz, sz)) hr hs (rowOk_rep hZ).1 ((rowOk_rep hZ).2 ρ)
  have hrun : (execOp a.eval ⟨d, .buildSlice t n parts, ty, pos, af, g⟩).run P w = .ok (.value (.slice (some ⟨w.heap.size, 0, none⟩) n n)) (w.alloc (.cells r e)) := by
    simp only [execOp]
    have e1 : ¬ (n * sz > 2 ^ 24) := by omega
    have e2 : ¬ (n * sz = 0) := by omega
    simp only [Instr.buildSlice, Sem.run_bind, run_underlying hu, Result.andThen_ok, he, if_neg e1, if_neg e2, hz, Sem.run_pure, h1, newRow]
    rfl
  rw [hrun]
  obtain ⟨ρ', k3, k4, _⟩ := nx_alloc (t := e) hH (hf _ (Nat.le_refl _) (by simp)) hW (cells := r) (segs := segs') (fun ρ' hle => hc ρ' _ (h3.le hle))
  exact hq _ _ ⟨ρ', W, k3, w.heap.size, 0, by rw [← hl0]; exact k4, rfl⟩
end rules
end Go.Bx
end

section
/- Arrays of integers compared. No program. -/
namespace Go.Bx
section
variable {P : Program} {w : World}
theorem run_equalIn_ints (d : Nat) {t e : TypeId} {n : Nat} {k : IntKind} {xs ys : Array Value} {l m : Nat → Int} (hu : P.underlying t = some (.array n e)) (he : P.underlying e = some (.int k)) (hs : ∀ w, (sizeOf e).run P w = .ok 1 w) (ha : ∀ w, (isAgg e).run P w = .ok false w)
    (hx : ∀ i, i < n → xs[i]? = some (.int k (l i))) (hy : ∀ i, i < n → ys[i]? = some (.int k (m i))) : (Op.equalIn (d + 2) t (.agg xs) (.agg ys)).run P w = .ok (decide (∀ i, i < n → l i = m i)) w := by
  have hpart : ∀ i, i < n → (part e xs (i * 1)).run P w = .ok (.int k (l i)) w := fun i hi => by simp [part, Sem.run_bind, ha, hx i hi]
  have hpart2 : ∀ i, i < n → (part e ys (i * 1)).run P w = .ok (.int k (m i)) w := fun i hi => by simp [part, Sem.run_bind, ha, hy i hi]
  rw [Op.equalIn]
  simp only [Sem.run_bind, run_underlying hu, Result.andThen_ok, hs]
  let body : Nat → Option Bool × Unit → Sem (ForInStep (Option Bool × Unit)) := fun i _ => do
    let a ← part e xs (i * 1)
    let b ← part e ys (i * 1)
    let c ← Op.equalIn (d + 1) e a b
    if (!c) = true then pure (ForInStep.done (some false, ())) else pure (ForInStep.yield (none, ()))
  have step : ∀ i, i < n → ∀ s, (body i s).run P w = .ok (if l i = m i then .yield (none, ()) else .done (some false, ())) w := by
    intro i hi s
    simp only [body, Sem.run_bind, hpart i hi, hpart2 i hi, Result.andThen_ok]
    rw [run_equalIn_int w d e k k _ _ he]
    simp only [Result.andThen_ok]
    by_cases h : l i = m i
    · simp [h]
    · have : (l i == m i) = false := by simpa using h
      simp [this, h]
  have key : ∀ (is : List Nat), (∀ i ∈ is, i < n) → (forIn is ((none : Option Bool), ()) body).run P w = .ok (if ∀ i ∈ is, l i = m i then (none, ()) else (some false, ())) w := by
    intro is
    induction is with
    | nil => intro _; simp
    | cons i r ih =>
      intro h
      rw [List.forIn_cons, Sem.run_bind, step i (h i (by simp)) (none, ())]
      simp only [Result.andThen_ok]
      by_cases hi : l i = m i
      · simp only [hi, if_true]
        rw [ih (fun j hj => h j (by simp [hj]))]
        simp [hi]
      · simp [hi]
  have h0 := key (List.range' 0 n) (fun i hi => by simp at hi; omega)
  rw [Std.Legacy.Range.forIn_eq_forIn_range']
  simp only [Std.Legacy.Range.size, Nat.sub_zero, Nat.add_sub_cancel, Nat.div_one]
  show ((Sem.run P (forIn (List.range' 0 n) ((none : Option Bool), ()) body) w).andThen _) = _
  rw [h0]
  simp only [Result.andThen_ok]
  by_cases hall : ∀ i, i < n → l i = m i
  · have : ∀ i ∈ List.range' 0 n, l i = m i := fun i hi => hall i (by simp at hi; omega)
    rw [if_pos this]
    show Result.ok true w = _
    rw [decide_eq_true hall]
  · have : ¬ ∀ i ∈ List.range' 0 n, l i = m i := fun h => hall fun i hi => h i (by simp [List.mem_range'_1]; omega)
    rw [if_neg this]
    show Result.ok false w = _
    rw [decide_eq_false hall]
end

section rules
variable {P : Program} {T : Tm} {H : Heap} {d : Option Tmp} {ty : TypeId} {pos : String} {af : Array Edge} {g : Option (Nat × Bool)}
theorem agg_ints_cells {ρ : Rho} {k : IntKind} {n : Nat} {l : List Int} {v : Value} (h : (AV.agg [.ints k n l]).rep ρ v) : ∃ cs : Array Value, v = .agg cs ∧ ∀ i, i < n → cs[i]? = some (.int k (l.getD i 0)) := by
  obtain ⟨cs, h1, h2, h3⟩ := h
  refine ⟨cs, h1, fun i hi => ?_⟩
  obtain ⟨u, hu, hr, _⟩ := h3 i (.int k (l.getD i 0)) (by
    have hs : (Seg.ints k n l).size = n := rfl
    simp only [atS]; rw [if_pos (by rw [hs]; exact hi)]; rfl)
  exact hu.trans (congrArg some hr)
theorem eq_getD {l m : List Int} {n : Nat} (hl : l.length = n) (hm : m.length = n) : (∀ i, i < n → l.getD i 0 = m.getD i 0) ↔ l = m := by
  refine ⟨fun h => List.ext_getElem (hl.trans hm.symm) fun i h1 h2 => ?_, fun h i _ => by rw [h]⟩
  have := h i (by omega)
  simpa [List.getD_eq_getElem?_getD, h1, h2] using this
theorem l_eqA {t e : TypeId} {x y : Operand} {tyy : TypeId} {n : Nat} {k : IntKind} {l m : List Int} (hx : ev T x = .agg [.ints k n l]) (hy : ev T y = .agg [.ints k n m]) (hu : P.underlying t = some (.array n e)) (he : P.underlying e = some (.int k)) (hs : ∀ w, (sizeOf e).run P w = .ok 1 w) (ha : ∀ w, (isAgg e).run P w = .ok false w)
    (hg : P.eqGuardType P.depth t = false) (hl : l.length = n) (hm : m.length = n) : LOk P ⟨d, .binOp .eql t x y tyy, ty, pos, af, g⟩ T H H (.s (.bool (decide (l = m)))) [] [] :=
  lok_pure fun ρ a w ho => by
    obtain ⟨h1, h2⟩ := two (op := .binOp .eql t x y tyy) rfl ho hx hy
    obtain ⟨xs, e1, c1⟩ := agg_ints_cells h1
    obtain ⟨ys, e2, c2⟩ := agg_ints_cells h2
    refine ⟨.bool (decide (l = m)), ?_, rfl⟩
    have := run_equalIn_ints (P := P) (w := w) 9998 hu he hs ha c1 c2
    simp only [execOp, e1, e2, Sem.run_bind, run_eqGuard_agg w .eql t x y xs ys hg, Result.andThen_ok, run_eql_struct w t xs ys]
    rw [show (Op.equalIn 10000 t (.agg xs) (.agg ys)).run P w = _ from this]
    simp only [Result.andThen_ok, Sem.run_pure, eq_getD hl hm]
theorem l_neA {t e : TypeId} {x y : Operand} {tyy : TypeId} {n : Nat} {k : IntKind} {l m : List Int} (hx : ev T x = .agg [.ints k n l]) (hy : ev T y = .agg [.ints k n m]) (hu : P.underlying t = some (.array n e)) (he : P.underlying e = some (.int k)) (hs : ∀ w, (sizeOf e).run P w = .ok 1 w) (ha : ∀ w, (isAgg e).run P w = .ok false w)
    (hg : P.eqGuardType P.depth t = false) (hl : l.length = n) (hm : m.length = n) : LOk P ⟨d, .binOp .neq t x y tyy, ty, pos, af, g⟩ T H H (.s (.bool (!decide (l = m)))) [] [] :=
  lok_pure fun ρ a w ho => by
    obtain ⟨h1, h2⟩ := two (op := .binOp .neq t x y tyy) rfl ho hx hy
    obtain ⟨xs, e1, c1⟩ := agg_ints_cells h1
    obtain ⟨ys, e2, c2⟩ := agg_ints_cells h2
    refine ⟨.bool (!decide (l = m)), ?_, rfl⟩
    have := run_equalIn_ints (P := P) (w := w) 9998 hu he hs ha c1 c2
    simp only [execOp, e1, e2, Sem.run_bind, run_eqGuard_agg w .neq t x y xs ys hg, Result.andThen_ok, run_neq_struct w t xs ys]
    rw [show (Op.equalIn 10000 t (.agg xs) (.agg ys)).run P w = _ from this]
    simp only [Result.andThen_ok, Sem.run_pure, eq_getD hl hm]

theorem ret_cell {P : Program} {fn : Func} {T : Tm} {H : Heap} {p id n : Nat} {ty : TypeId} {k : Blk} {segs : List Seg} (hr : fn.results = #[.cell p ty]) (hp : look T p = .s (.ptr id 0 0)) (hb : hget H id = some k) (hs : SubS k.segs 0 n segs)
    (ha : ∀ w, (isAgg ty).run P w = .ok true w) (hz : ∀ w, (sizeOf ty).run P w = .ok n w) : Ret P fn T H (.agg segs) := by
  intro W ρ a w hH hT
  have hx := hT p
  rw [hp] at hx
  obtain ⟨b, o, hρ, hx⟩ := hx
  obtain ⟨cells, t, fr, g1, _, _, g4⟩ := (hH.rep id b o k hρ hb).1
  obtain ⟨v', h3, h4⟩ := run_load_sub (P := P) (o := o) g1 hs.1 (by have := sub_row g4 hs; simpa using this) ha hz
  refine ⟨v', ?_, h4⟩
  have hx'' : a.tmps[p]?.getD undef = .pointer (some ⟨b, o, none⟩) := by simpa using hx
  simp [results, hr, Sem.run_bind, hx'', asAddr]
  simpa using h3
def resV (tmps : Array Value) : ResultVar → Sem Value
  | .tmp t => pure (tmps.getD t undef)
  | .cell a t => do loadVar t (← asAddr (tmps.getD a undef))
theorem results_eq (fn : Func) (tmps : Array Value) : results fn tmps = (do
    let vs ← fn.results.mapM (resV tmps)
    return (if h : vs.size = 1 then vs[0] else Value.tuple vs)) := by
  unfold results
  congr
def RetI (P : Program) (T : Tm) (H : Heap) (r : ResultVar) (v : AV) : Prop :=
  ∀ (W : Nat → Prop) (ρ : Rho) (a : Act) (w : World), HRep W ρ (hget H) w → TRep ρ T a → ∃ u, (match r with | .tmp t => pure (a.tmps.getD t undef) | .cell b t => do loadVar t (← asAddr (a.tmps.getD b undef)) : Sem Value).run P w = .ok u w ∧ v.rep0 ρ u
theorem ri_tmp {P : Program} {T : Tm} {H : Heap} {t : Nat} {v : SV} (hv : look T t = .s v) : RetI P T H (.tmp t) (.s v) := fun W ρ a w _ hT => ⟨_, rfl, by have := hT t; rw [hv] at this; exact this⟩
theorem ri_tmpa {P : Program} {T : Tm} {H : Heap} {t : Nat} {l : List Seg} (hv : look T t = .agg l) : RetI P T H (.tmp t) (.agg l) := fun W ρ a w _ hT => ⟨_, rfl, by have := hT t; rw [hv] at this; exact this⟩
theorem ri_cella {P : Program} {T : Tm} {H : Heap} {p id n : Nat} {ty : TypeId} {k : Blk} {segs : List Seg} (hp : look T p = .s (.ptr id 0 0)) (hb : hget H id = some k) (hs : SubS k.segs 0 n segs)
    (ha : ∀ w, (isAgg ty).run P w = .ok true w) (hz : ∀ w, (sizeOf ty).run P w = .ok n w) : RetI P T H (.cell p ty) (.agg segs) := by
  intro W ρ a w hH hT
  have hx := hT p
  rw [hp] at hx
  obtain ⟨b, o, hρ, hx⟩ := hx
  obtain ⟨cells, t, fr, g1, _, _, g4⟩ := (hH.rep id b o k hρ hb).1
  obtain ⟨v', h3, h4⟩ := run_load_sub (P := P) (o := o) g1 hs.1 (by have := sub_row g4 hs; simpa using this) ha hz
  refine ⟨v', ?_, h4⟩
  have hx'' : a.tmps[p]?.getD undef = .pointer (some ⟨b, o, none⟩) := by simpa using hx
  simp [Sem.run_bind, hx'', asAddr, h3]
theorem ret2 {P : Program} {fn : Func} {T : Tm} {H : Heap} {r0 r1 : ResultVar} {v0 v1 : AV} (hr : fn.results = #[r0, r1]) (h0 : RetI P T H r0 v0) (h1 : RetI P T H r1 v1) : Ret P fn T H (.tup [v0, v1]) := by
  intro W ρ a w hH hT
  obtain ⟨u0, e0, k0⟩ := h0 W ρ a w hH hT
  obtain ⟨u1, e1, k1⟩ := h1 W ρ a w hH hT
  refine ⟨.tuple #[u0, u1], ?_, #[u0, u1], rfl, fun i x hx => ?_⟩
  · have key : ∀ (r : ResultVar) (u : Value), (match r with | .tmp t => pure (a.tmps.getD t undef) | .cell b t => do loadVar t (← asAddr (a.tmps.getD b undef)) : Sem Value).run P w = .ok u w → (resV a.tmps r).run P w = .ok u w := fun r u h => by cases r <;> exact h
    rw [results_eq, hr]
    simp [Sem.run_bind, key _ _ e0, key _ _ e1]
  · match i, hx with
    | 0, hx => simp at hx; subst hx; exact ⟨u0, rfl, k0⟩
    | 1, hx => simp at hx; subst hx; exact ⟨u1, rfl, k1⟩
    | i + 2, hx => simp at hx
theorem ret4 {P : Program} {fn : Func} {T : Tm} {H : Heap} {r0 r1 r2 r3 : ResultVar} {v0 v1 v2 v3 : AV} (hr : fn.results = #[r0, r1, r2, r3]) (h0 : RetI P T H r0 v0) (h1 : RetI P T H r1 v1) (h2 : RetI P T H r2 v2) (h3 : RetI P T H r3 v3) : Ret P fn T H (.tup [v0, v1, v2, v3]) := by
  intro W ρ a w hH hT
  obtain ⟨u0, e0, k0⟩ := h0 W ρ a w hH hT
  obtain ⟨u1, e1, k1⟩ := h1 W ρ a w hH hT
  obtain ⟨u2, e2, k2⟩ := h2 W ρ a w hH hT
  obtain ⟨u3, e3, k3⟩ := h3 W ρ a w hH hT
  refine ⟨.tuple #[u0, u1, u2, u3], ?_, #[u0, u1, u2, u3], rfl, fun i x hx => ?_⟩
  · have key : ∀ (r : ResultVar) (u : Value), (match r with | .tmp t => pure (a.tmps.getD t undef) | .cell b t => do loadVar t (← asAddr (a.tmps.getD b undef)) : Sem Value).run P w = .ok u w → (resV a.tmps r).run P w = .ok u w := fun r u h => by cases r <;> exact h
    rw [results_eq, hr]
    simp [Sem.run_bind, key _ _ e0, key _ _ e1, key _ _ e2, key _ _ e3]
  · match i, hx with
    | 0, hx => simp at hx; subst hx; exact ⟨u0, rfl, k0⟩
    | 1, hx => simp at hx; subst hx; exact ⟨u1, rfl, k1⟩
    | 2, hx => simp at hx; subst hx; exact ⟨u2, rfl, k2⟩
    | 3, hx => simp at hx; subst hx; exact ⟨u3, rfl, k3⟩
    | i + 4, hx => simp at hx
end rules
end Go.Bx
end

section
/- Facts found by their types; numbers that stay natural. No program. -/
namespace Go.Bx

class Und (P : Program) (t : TypeId) (d : outParam TypeDesc) : Prop where
  h : P.underlying t = some d
class Sz (P : Program) (t : TypeId) (n : outParam Nat) : Prop where
  h : ∀ w, (sizeOf t).run P w = .ok n w
class Ag (P : Program) (t : TypeId) (b : outParam Bool) : Prop where
  h : ∀ w, (isAgg t).run P w = .ok b w
class Zv (P : Program) (t : TypeId) (Z : outParam (List Seg)) : Prop where
  h : ∃ z : Value, (∀ w, (zeroValue t).run P w = .ok z w) ∧ rowOk Z z.cells = true
class Zi (P : Program) (t : TypeId) (k : outParam IntKind) : Prop where
  h : ∀ w, (zeroValue t).run P w = .ok (.int k 0) w
class Inf (P : Program) (t : TypeId) (i : outParam TypeInfo) : Prop where
  h : P.info? t = some i
class Clb (P : Program) (f : FuncId) : Prop where
  h : Callable P f
class Mix (P : Program) : Prop where
  h : P.follows .mixedOrders = true

class IsN (n : Int) (m : outParam Nat) : Prop where
  h : n = (m : Int)
instance isN_cast (m : Nat) : IsN (m : Int) m := ⟨rfl⟩
instance : IsN 0 0 := ⟨rfl⟩
instance : IsN 1 1 := ⟨rfl⟩
instance : IsN 2 2 := ⟨rfl⟩
instance : IsN 3 3 := ⟨rfl⟩
instance : IsN 4 4 := ⟨rfl⟩
instance : IsN 5 5 := ⟨rfl⟩
instance : IsN 6 6 := ⟨rfl⟩
instance : IsN 7 7 := ⟨rfl⟩
instance : IsN 8 8 := ⟨rfl⟩
instance : IsN 9 9 := ⟨rfl⟩
instance : IsN 10 10 := ⟨rfl⟩
instance : IsN 11 11 := ⟨rfl⟩
instance : IsN 12 12 := ⟨rfl⟩
instance : IsN 13 13 := ⟨rfl⟩
instance : IsN 14 14 := ⟨rfl⟩
instance : IsN 15 15 := ⟨rfl⟩
instance : IsN 16 16 := ⟨rfl⟩
instance : IsN 17 17 := ⟨rfl⟩
instance : IsN 18 18 := ⟨rfl⟩
instance : IsN 19 19 := ⟨rfl⟩
instance : IsN 20 20 := ⟨rfl⟩
instance : IsN 21 21 := ⟨rfl⟩
instance : IsN 22 22 := ⟨rfl⟩
instance : IsN 23 23 := ⟨rfl⟩
instance : IsN 24 24 := ⟨rfl⟩
instance : IsN 25 25 := ⟨rfl⟩
instance : IsN 26 26 := ⟨rfl⟩
instance : IsN 27 27 := ⟨rfl⟩
instance : IsN 28 28 := ⟨rfl⟩
instance : IsN 29 29 := ⟨rfl⟩
instance : IsN 30 30 := ⟨rfl⟩
instance : IsN 31 31 := ⟨rfl⟩
instance : IsN 32 32 := ⟨rfl⟩
instance : IsN 33 33 := ⟨rfl⟩
instance : IsN 40 40 := ⟨rfl⟩
instance : IsN 41 41 := ⟨rfl⟩
instance : IsN 48 48 := ⟨rfl⟩
instance : IsN 50 50 := ⟨rfl⟩
instance : IsN 54 54 := ⟨rfl⟩
instance : IsN 60 60 := ⟨rfl⟩
instance : IsN 63 63 := ⟨rfl⟩
instance : IsN 64 64 := ⟨rfl⟩
instance : IsN 65 65 := ⟨rfl⟩
instance : IsN 73 73 := ⟨rfl⟩
instance : IsN 77 77 := ⟨rfl⟩
instance : IsN 92 92 := ⟨rfl⟩
instance : IsN 97 97 := ⟨rfl⟩
instance : IsN 98 98 := ⟨rfl⟩
instance : IsN 99 99 := ⟨rfl⟩
instance : IsN 100 100 := ⟨rfl⟩
instance : IsN 101 101 := ⟨rfl⟩
instance : IsN 108 108 := ⟨rfl⟩
instance : IsN 110 110 := ⟨rfl⟩
instance : IsN 112 112 := ⟨rfl⟩
instance : IsN 114 114 := ⟨rfl⟩
instance : IsN 117 117 := ⟨rfl⟩
instance : IsN 119 119 := ⟨rfl⟩
instance : IsN 122 122 := ⟨rfl⟩
instance : IsN 128 128 := ⟨rfl⟩
instance : IsN 192 192 := ⟨rfl⟩
instance : IsN 255 255 := ⟨rfl⟩
instance : IsN 256 256 := ⟨rfl⟩
instance : IsN 257 257 := ⟨rfl⟩
instance : IsN 300 300 := ⟨rfl⟩
instance : IsN 321 321 := ⟨rfl⟩
instance : IsN 513 513 := ⟨rfl⟩
instance : IsN 705 705 := ⟨rfl⟩
instance : IsN 897 897 := ⟨rfl⟩
instance : IsN 961 961 := ⟨rfl⟩
instance : IsN 1000 1000 := ⟨rfl⟩
instance : IsN 2019 2019 := ⟨rfl⟩
instance : IsN 2048 2048 := ⟨rfl⟩
instance : IsN 3000 3000 := ⟨rfl⟩
instance : IsN 6000 6000 := ⟨rfl⟩
instance : IsN 8000 8000 := ⟨rfl⟩
instance : IsN 8160 8160 := ⟨rfl⟩
instance : IsN 61505 61505 := ⟨rfl⟩
instance : IsN 61697 61697 := ⟨rfl⟩
instance : IsN 65535 65535 := ⟨rfl⟩
instance : IsN 65536 65536 := ⟨rfl⟩
instance : IsN 1048576 1048576 := ⟨rfl⟩
instance : IsN 4294967295 4294967295 := ⟨rfl⟩
instance : IsN 4294967296 4294967296 := ⟨rfl⟩
def zs (l : List Nat) : List Int := l.map Int.ofNat
theorem zs_len (l : List Nat) : (zs l).length = l.length := by simp [zs]
theorem zs_getD (l : List Nat) (i : Nat) : (zs l).getD i 0 = ((l.getD i 0 : Nat) : Int) := by
  simp only [zs, List.getD_eq_getElem?_getD, List.getElem?_map]
  cases l[i]? <;> rfl
theorem zs_set (l : List Nat) (i n : Nat) : (zs l).set i (n : Int) = zs (l.set i n) := by simp [zs, List.map_set]
instance isN_zs (l : List Nat) (i : Nat) : IsN ((zs l).getD i 0) (l.getD i 0) := ⟨zs_getD l i⟩

class AddN (a b : Nat) (c : outParam Nat) : Prop where
  h : a + b = c
instance (priority := 1100) addN_0l (b : Nat) : AddN 0 b b := ⟨Nat.zero_add b⟩
instance (priority := 1050) addN_0r (a : Nat) : AddN a 0 a := ⟨rfl⟩
instance (priority := 100) addN_any (a b : Nat) : AddN a b (a + b) := ⟨rfl⟩
/- sums of small literals are told as literals where they are made -/
class MulN (a b : Nat) (c : outParam Nat) : Prop where
  h : a * b = c
instance (priority := 1100) mulN_1 (a : Nat) : MulN a 1 a := ⟨Nat.mul_one a⟩
instance (priority := 1050) mulN_0 (b : Nat) : MulN 0 b 0 := ⟨Nat.zero_mul b⟩
instance (priority := 100) mulN_any (a b : Nat) : MulN a b (a * b) := ⟨rfl⟩
class SubN (a b : Nat) (c : outParam Nat) : Prop where
  h : a - b = c
instance (priority := 1050) subN_0 (a : Nat) : SubN a 0 a := ⟨rfl⟩
instance (priority := 1040) subN_self (a : Nat) : SubN a a 0 := ⟨Nat.sub_self a⟩
instance (priority := 1030) subN_addl (a b : Nat) : SubN (a + b) a b := ⟨Nat.add_sub_cancel_left ..⟩
instance (priority := 1020) subN_addr (a b : Nat) : SubN (a + b) b a := ⟨Nat.add_sub_cancel ..⟩
instance (priority := 100) subN_any (a b : Nat) : SubN a b (a - b) := ⟨rfl⟩

def top : IntKind → Nat
  | .i8 => 128 | .i16 => 32768 | .i32 => 2147483648 | .i64 => 9223372036854775808
  | .u8 => 256 | .u16 => 65536 | .u32 => 4294967296 | .u64 => 18446744073709551616
theorem wrap_n (k : IntKind) {c : Nat} (h : c < top k) : k.wrap (c : Int) = (c : Int) := by
  cases k <;> simp only [top] at h <;> (unfold IntKind.wrap; simp [IntKind.bits, IntKind.signed]; omega)
theorem n_add {k : IntKind} {m n : Int} {a b c : Nat} (hm : IsN m a) (hn : IsN n b) (hc : AddN a b c) (h : c < top k) : k.wrap (m + n) = ((c : Nat) : Int) := by
  rw [hm.h, hn.h, ← hc.h, ← Int.natCast_add]; exact wrap_n k (by rw [hc.h]; exact h)
theorem n_sub {k : IntKind} {m n : Int} {a b c : Nat} (hm : IsN m a) (hn : IsN n b) (hc : SubN a b c) (hle : b ≤ a) (h : a < top k) : k.wrap (m - n) = ((c : Nat) : Int) := by
  rw [hm.h, hn.h, ← hc.h, ← Int.ofNat_sub hle]; exact wrap_n k (by omega)
theorem n_mul {k : IntKind} {m n : Int} {a b c : Nat} (hm : IsN m a) (hn : IsN n b) (hc : MulN a b c) (h : c < top k) : k.wrap (m * n) = ((c : Nat) : Int) := by
  rw [hm.h, hn.h, ← hc.h, ← Int.natCast_mul]; exact wrap_n k (by rw [hc.h]; exact h)
theorem n_quo {k : IntKind} {m n : Int} {a b : Nat} (hm : IsN m a) (hn : IsN n b) (h : a < top k) : k.wrap (m.tdiv n) = ((a / b : Nat) : Int) := by
  rw [hm.h, hn.h]
  have : ((a : Int).tdiv (b : Int)) = ((a / b : Nat) : Int) := rfl
  rw [this]; exact wrap_n k (Nat.lt_of_le_of_lt (Nat.div_le_self a b) h)
theorem n_rem {m n : Int} {a b : Nat} (hm : IsN m a) (hn : IsN n b) : m.tmod n = ((a % b : Nat) : Int) := by
  rw [hm.h, hn.h]; rfl
theorem n_ne0 {n : Int} {b : Nat} (hn : IsN n b) (h : 0 < b) : n ≠ 0 := by rw [hn.h]; omega
theorem n_conv {k : IntKind} {m : Int} {a : Nat} (hm : IsN m a) (h : a < top k) : k.wrap m = ((a : Nat) : Int) := by
  rw [hm.h]; exact wrap_n k h
theorem n_lss {m n : Int} {a b : Nat} (hm : IsN m a) (hn : IsN n b) : decide (m < n) = decide (a < b) := by rw [hm.h, hn.h]; simp
theorem n_leq {m n : Int} {a b : Nat} (hm : IsN m a) (hn : IsN n b) : decide (m ≤ n) = decide (a ≤ b) := by rw [hm.h, hn.h]; simp
theorem n_gtr {m n : Int} {a b : Nat} (hm : IsN m a) (hn : IsN n b) : decide (n < m) = decide (b < a) := by rw [hm.h, hn.h]; simp
theorem n_geq {m n : Int} {a b : Nat} (hm : IsN m a) (hn : IsN n b) : decide (n ≤ m) = decide (b ≤ a) := by rw [hm.h, hn.h]; simp
theorem n_eql {m n : Int} {a b : Nat} (hm : IsN m a) (hn : IsN n b) : decide (m = n) = decide (a = b) := by
  rw [hm.h, hn.h]; simp only [decide_eq_decide]; omega
theorem n_neq {m n : Int} {a b : Nat} (hm : IsN m a) (hn : IsN n b) : decide (m ≠ n) = !decide (a = b) := by
  rw [hm.h, hn.h]
  by_cases h : a = b
  · simp [h]
  · have : (a : Int) ≠ (b : Int) := by omega
    simp [h, this]
theorem n_shr {k : IntKind} {m n : Int} {a b : Nat} (hm : IsN m a) (hn : IsN n b) (h : b ≤ k.bits) : shrK k m n = ((a / 2 ^ b : Nat) : Int) := by
  rw [hm.h, hn.h]
  unfold shrK
  rw [Int.toNat_natCast, Nat.min_eq_left h]
  have : ((2 : Int) ^ b) = ((2 ^ b : Nat) : Int) := by simp
  rw [this, Int.fdiv_eq_ediv_of_nonneg _ (Int.natCast_nonneg _)]
  rfl
theorem top_le (k : IntKind) : top k ≤ 2 ^ k.bits := by cases k <;> decide
theorem ofInt_nat (w a : Nat) : BitVec.ofInt w (a : Int) = BitVec.ofNat w a := by
  apply BitVec.eq_of_toInt_eq
  simp [BitVec.toInt_ofNat]
theorem n_and {k : IntKind} {m n : Int} {a b : Nat} (hm : IsN m a) (hn : IsN n b) (ha : a < top k) (hb : b < top k) : andK k m n = ((a &&& b : Nat) : Int) := by
  rw [hm.h, hn.h]
  unfold andK
  have h := top_le k
  rw [ofInt_nat, ofInt_nat, BitVec.toNat_and, BitVec.toNat_ofNat, BitVec.toNat_ofNat, Nat.mod_eq_of_lt (by omega), Nat.mod_eq_of_lt (by omega)]
  exact wrap_n k (Nat.lt_of_le_of_lt Nat.and_le_left ha)
theorem top_pow' (k : IntKind) : top k = 2 ^ (match k with | .i8 => 7 | .i16 => 15 | .i32 => 31 | .i64 => 63 | .u8 => 8 | .u16 => 16 | .u32 => 32 | .u64 => 64) := by cases k <;> rfl
theorem n_or {k : IntKind} {m n : Int} {a b : Nat} (hm : IsN m a) (hn : IsN n b) (ha : a < top k) (hb : b < top k) : orK k m n = ((a ||| b : Nat) : Int) := by
  rw [hm.h, hn.h]
  unfold orK
  have h := top_le k
  rw [ofInt_nat, ofInt_nat, BitVec.toNat_or, BitVec.toNat_ofNat, BitVec.toNat_ofNat, Nat.mod_eq_of_lt (by omega), Nat.mod_eq_of_lt (by omega)]
  refine wrap_n k ?_
  rw [top_pow'] at *
  exact Nat.or_lt_two_pow ha hb
theorem n_xor {k : IntKind} {m n : Int} {a b : Nat} (hm : IsN m a) (hn : IsN n b) (ha : a < top k) (hb : b < top k) : xorK k m n = ((a ^^^ b : Nat) : Int) := by
  rw [hm.h, hn.h]
  unfold xorK
  have h := top_le k
  rw [ofInt_nat, ofInt_nat, BitVec.toNat_xor, BitVec.toNat_ofNat, BitVec.toNat_ofNat, Nat.mod_eq_of_lt (by omega), Nat.mod_eq_of_lt (by omega)]
  refine wrap_n k ?_
  rw [top_pow'] at *
  exact Nat.xor_lt_two_pow ha hb

section rules
variable {P : Program} {T : Tm} {H : Heap} {d : Option Tmp} {ty : TypeId} {pos : String} {af : Array Edge} {g : Option (Nat × Bool)}
theorem a_conv {src dst : TypeId} {x : Operand} {k k' : IntKind} {m r : Int} {ds : TypeDesc} (hx : ev T x = .s (.int k m)) [hs : Und P src ds] [hd : Und P dst (.int k')] (hr : k'.wrap m = r) :
    LOk P ⟨d, .convert src dst x, ty, pos, af, g⟩ T H H (.s (.int k' r)) [] [] := l_conv hx hs.h hd.h hr
theorem a_len {x : Operand} {u : SV} {n : Nat} {t e rt : TypeId} (hx : ev T x = .s u) (hn : u.len = some n) [hu : Und P t (.slice e)] : LOk P ⟨d, .call ⟨.builtin .len, #[x], #[t]⟩, rt, pos, af, g⟩ T H H (.s (.int .i64 (n : Int))) [] [] := l_len hx hn hu.h
theorem a_cap {x : Operand} {id base idx len cap : Nat} {t e rt : TypeId} (hx : ev T x = .s (.slice id base idx len cap)) [hu : Und P t (.slice e)] : LOk P ⟨d, .call ⟨.builtin .cap, #[x], #[t]⟩, rt, pos, af, g⟩ T H H (.s (.int .i64 (cap : Int))) [] [] := l_cap hx hu.h
theorem a_ixp {t e : TypeId} {x i : Operand} {id base idx n sz r j' q : Nat} {k : IntKind} {j : Int} (hx : ev T x = .s (.ptr id base idx)) (hi : ev T i = .s (.int k j)) [hu : Und P t (.array n e)] [hs : Sz P e sz] [hj : IsN j j'] [hq : MulN j' sz q] [hr : AddN idx q r] (h1 : j' < n) :
    LOk P ⟨d, .indexAddr t x i, ty, pos, af, g⟩ T H H (.s (.ptr id base r)) [] [] :=
  l_ixp hx hi hu.h hs.h (by rw [hj.h]; omega) (by rw [hj.h]; omega) (by rw [hj.h, Int.toNat_natCast, hq.h, hr.h])
theorem a_ixf {t e : TypeId} {x i : Operand} {m base idx n sz r j' q : Nat} {f : Nat → SV} {k : IntKind} {j : Int} (hx : ev T x = .s (.fptr m f base idx)) (hi : ev T i = .s (.int k j)) [hu : Und P t (.array n e)] [hs : Sz P e sz] [hj : IsN j j'] [hq : MulN j' sz q] [hr : AddN idx q r] (h1 : j' < n) :
    LOk P ⟨d, .indexAddr t x i, ty, pos, af, g⟩ T H H (.s (.fptr m f base r)) [] [] :=
  l_ixf hx hi hu.h hs.h (by rw [hj.h]; omega) (by rw [hj.h]; omega) (by rw [hj.h, Int.toNat_natCast, hq.h, hr.h])
theorem a_ixs {t e : TypeId} {x i : Operand} {id base idx len cap sz r j' q : Nat} {k : IntKind} {j : Int} (hx : ev T x = .s (.slice id base idx len cap)) (hi : ev T i = .s (.int k j)) [hu : Und P t (.slice e)] [hs : Sz P e sz] [hj : IsN j j'] [hq : MulN j' sz q] [hr : AddN idx q r] (h1 : j' < len) :
    LOk P ⟨d, .indexAddr t x i, ty, pos, af, g⟩ T H H (.s (.ptr id base r)) [] [] :=
  l_ixs hx hi hu.h hs.h (by rw [hj.h]; omega) (by rw [hj.h]; omega) (by rw [hj.h, Int.toNat_natCast, hq.h, hr.h])
theorem a_ixx {t e : TypeId} {x i : Operand} {id base idx len cap sz r j' q : Nat} {k : IntKind} {j : Int} (hx : ev T x = .s (.slx id base idx len cap)) (hi : ev T i = .s (.int k j)) [hu : Und P t (.slice e)] [hs : Sz P e sz] [hj : IsN j j'] [hq : MulN j' sz q] [hr : AddN idx q r] (h1 : j' < len) :
    LOk P ⟨d, .indexAddr t x i, ty, pos, af, g⟩ T H H (.s (.ptr id base r)) [] [] :=
  l_ixx hx hi hu.h hs.h (by rw [hj.h]; omega) (by rw [hj.h]; omega) (by rw [hj.h, Int.toNat_natCast, hq.h, hr.h])
theorem l_ixg {t e : TypeId} {x i : Operand} {id wd len sz r : Nat} {k : IntKind} {j : Int} (hx : ev T x = .s (.gro id wd len)) (hi : ev T i = .s (.int k j))
    (hu : P.underlying t = some (.slice e)) (hs : ∀ w, (sizeOf e).run P w = .ok sz w) (h0 : 0 ≤ j) (h1 : j < len) (hr : j.toNat * sz = r) :
    LOk P ⟨d, .indexAddr t x i, ty, pos, af, g⟩ T H H (.s (.ptr id 0 r)) [] [] :=
  lok_pure fun ρ a w ho => by
    obtain ⟨ha, hb⟩ := two (op := .indexAddr t x i) rfl ho hx hi
    have hb : a.eval i = .int k j := hb
    rcases ha with ⟨e, _⟩ | ⟨b, o, c, q, hρ, ha, _⟩
    · omega
    refine ⟨.pointer (some ⟨b, o + 0 + r, none⟩), ?_, b, o, hρ, rfl⟩
    simp [execOp, ha, hb, Instr.indexAt, asIntOf, Sem.run_bind, run_underlying hu, h0, h1, hs, addr_add, ← hr]
theorem a_ixg {t e : TypeId} {x i : Operand} {id wd len sz r j' : Nat} {k : IntKind} {j : Int} (hx : ev T x = .s (.gro id wd len)) (hi : ev T i = .s (.int k j)) [hu : Und P t (.slice e)] [hs : Sz P e sz] [hj : IsN j j'] [hq : MulN j' sz r] (h1 : j' < len) :
    LOk P ⟨d, .indexAddr t x i, ty, pos, af, g⟩ T H H (.s (.ptr id 0 r)) [] [] :=
  l_ixg hx hi hu.h hs.h (by rw [hj.h]; omega) (by rw [hj.h]; omega) (by rw [hj.h, Int.toNat_natCast, hq.h])
theorem a_ixi {t e : TypeId} {x i : Operand} {l : List Int} {k k' : IntKind} {j : Int} {j' : Nat} (hx : ev T x = .s (.fzi k l)) (hi : ev T i = .s (.int k' j)) [hu : Und P t (.slice e)] [hs : Sz P e 1] [hj : IsN j j'] (h1 : j' < l.length) :
    LOk P ⟨d, .indexAddr t x i, ty, pos, af, g⟩ T H H (.s (.fptr 1 (fun _ => .int k (l.getD j' 0)) 0 0)) [] [] := by
  have := l_ixi (d := d) (ty := ty) (pos := pos) (af := af) (g := g) (H := H) hx hi hu.h hs.h (by rw [hj.h]; omega) (by rw [hj.h]; omega)
  rwa [hj.h, Int.toNat_natCast] at this
theorem a_ixz {t e : TypeId} {x i : Operand} {n wd : Nat} {f : Nat → Nat → SV} {k : IntKind} {j : Int} {j' : Nat} (hx : ev T x = .s (.fz n wd f)) (hi : ev T i = .s (.int k j)) [hu : Und P t (.slice e)] [hs : Sz P e wd] [hj : IsN j j'] (h1 : j' < n) :
    LOk P ⟨d, .indexAddr t x i, ty, pos, af, g⟩ T H H (.s (.fptr wd (f j') 0 0)) [] [] := by
  have := l_ixz (d := d) (ty := ty) (pos := pos) (af := af) (g := g) (H := H) hx hi hu.h hs.h (by rw [hj.h]; omega) (by rw [hj.h]; omega)
  rwa [hj.h, Int.toNat_natCast] at this
theorem a_alloc {t : TypeId} {Z : List Seg} {n : Nat} {H' : Heap} [hz : Zv P t Z] (hn : H.length = n) (hH : H ++ [some (Blk.mk true Z)] = H') : LOk P ⟨d, .alloc t, ty, pos, af, g⟩ T H H' (.s (.ptr n 0 0)) [] [] := let ⟨_, h1, h2⟩ := hz.h; hH ▸ l_alloc h1 h2 hn
theorem a_box {t : TypeId} {x : Operand} {v : SV} {n : Nat} {H' : Heap} (hx : ev T x = .s v) (hj : v ≠ .junk) (hn : H.length = n) (hH : H ++ [some (Blk.mk true [.one v])] = H') : LOk P ⟨d, .box t x, ty, pos, af, g⟩ T H H' (.s (.ptr n 0 0)) [] [] := hH ▸ l_box hx hj hn
theorem a_boxa {t : TypeId} {x : Operand} {l : List Seg} {n : Nat} {H' : Heap} (hx : ev T x = .agg l) (hn : H.length = n) (hH : H ++ [some (Blk.mk true l)] = H') : LOk P ⟨d, .box t x, ty, pos, af, g⟩ T H H' (.s (.ptr n 0 0)) [] [] := hH ▸ l_box_agg hx hn
theorem a_load_ints {t : TypeId} {x : Operand} {id base idx n : Nat} {kk : IntKind} {l : List Int} {k : Blk} (hx : ev T x = .s (.ptr id base idx)) (hb : hget H id = some k) (hs : segAt k.segs base = some (.ints kk n l)) (hi : idx < n) [ha : Ag P t false] :
    LOk P ⟨d, .load t x, ty, pos, af, g⟩ T H H (.s (.int kk (l.getD idx 0))) [id] [] := l_load_ints hx hb hs hi ha.h
theorem a_load_one {t : TypeId} {x : Operand} {id base : Nat} {v : SV} {k : Blk} (hx : ev T x = .s (.ptr id base 0)) (hb : hget H id = some k) (hs : segAt k.segs base = some (.one v)) [ha : Ag P t false] : LOk P ⟨d, .load t x, ty, pos, af, g⟩ T H H (.s v) [id] [] := l_load_one hx hb hs ha.h
theorem a_load_row {t : TypeId} {x : Operand} {id base i j n wd : Nat} {f : Nat → Nat → SV} {k : Blk} (hx : ev T x = .s (.ptr id base (i * wd + j))) (hb : hget H id = some k) (hs : segAt k.segs base = some (.rows n wd f)) (hi : i < n) (hj : j < wd) [ha : Ag P t false] : LOk P ⟨d, .load t x, ty, pos, af, g⟩ T H H (.s (f i j)) [id] [] := l_load_row hx rfl hb hs hi hj ha.h
theorem a_load_row0 {t : TypeId} {x : Operand} {id base i n wd : Nat} {f : Nat → Nat → SV} {k : Blk} (hx : ev T x = .s (.ptr id base (i * wd))) (hb : hget H id = some k) (hs : segAt k.segs base = some (.rows n wd f)) (hi : i < n) (hj : 0 < wd) [ha : Ag P t false] : LOk P ⟨d, .load t x, ty, pos, af, g⟩ T H H (.s (f i 0)) [id] [] := l_load_row hx rfl hb hs hi hj ha.h
theorem a_load_rowA {t : TypeId} {x : Operand} {id base i n wd : Nat} {rows : Nat → List Seg} {k : Blk} (hx : ev T x = .s (.ptr id base (i * wd))) (hb : hget H id = some k) (hs : segAt k.segs base = some (.rows n wd (rowsF rows))) (hi : i < n) (hw : sizeS (rows i) = wd) [ha : Ag P t true] [hz : Sz P t wd] : LOk P ⟨d, .load t x, ty, pos, af, g⟩ T H H (.agg (rows i)) [id] [] := l_load_agg hx hb (SubS.row hs hi hw) ha.h hz.h
theorem a_load_agg {t : TypeId} {x : Operand} {id base n : Nat} {r sub : List Seg} {k : Blk} (hx : ev T x = .s (.ptr id base 0)) (hb : hget H id = some k) [ha : Ag P t true] [hz : Sz P t n] (hd : dropS k.segs base = some r) (ht : takeS r n = some sub) : LOk P ⟨d, .load t x, ty, pos, af, g⟩ T H H (.agg sub) [id] [] := l_load_agg hx hb (SubS.part hd ht) ha.h hz.h
theorem a_load_aggI {t : TypeId} {x : Operand} {id base i n m : Nat} {kk : IntKind} {l : List Int} {k : Blk} (hx : ev T x = .s (.ptr id base i)) (hb : hget H id = some k) [ha : Ag P t true] [hz : Sz P t n] (hs : segAt k.segs base = some (.ints kk m l)) (hn : i + n ≤ m) : LOk P ⟨d, .load t x, ty, pos, af, g⟩ T H H (.agg [.ints kk n ((l.drop i).take n)]) [id] [] := l_load_agg hx hb (SubS.ints hs hn) ha.h hz.h
theorem a_loadf {t : TypeId} {x : Operand} {m base idx : Nat} {f : Nat → SV} {v : SV} (hx : ev T x = .s (.fptr m f base idx)) [ha : Ag P t false] (hi : base + idx < m) (hv : f (base + idx) = v) : LOk P ⟨d, .load t x, ty, pos, af, g⟩ T H H (.s v) [] [] := l_loadf hx hi hv ha.h
theorem a_loadf_ints {t : TypeId} {x : Operand} {m base idx n : Nat} {segs : List Seg} {k : IntKind} {l : List Int} (hx : ev T x = .s (.fptr m (cellsF segs) base idx)) [ha : Ag P t false] (hs : segAt segs base = some (.ints k n l)) (hi : idx < n) (hm : base + n ≤ m) : LOk P ⟨d, .load t x, ty, pos, af, g⟩ T H H (.s (.int k (l.getD idx 0))) [] [] :=
  l_loadf hx (by omega) (by unfold cellsF; rw [segAt_at hs idx hi]; rfl) ha.h
theorem a_loadf_agg {t : TypeId} {x : Operand} {m base n : Nat} {segs r sub : List Seg} (hx : ev T x = .s (.fptr m (cellsF segs) base 0)) [ha : Ag P t true] [hz : Sz P t n] (hm : base + n ≤ m) (hd : dropS segs base = some r) (ht : takeS r n = some sub) : LOk P ⟨d, .load t x, ty, pos, af, g⟩ T H H (.agg sub) [] [] := l_loadf_agg hx hm (SubS.part hd ht) ha.h hz.h
theorem a_store_int {t : TypeId} {x y : Operand} {id base idx m : Nat} {segs : List Seg} {k : IntKind} {n : Int} {xs : List Int} {r : Heap} (hx : ev T x = .s (.ptr id base idx)) (hy : ev T y = .s (.int k n)) (hb : hget H id = some ⟨true, segs⟩) (hs : segAt segs base = some (.ints k m xs)) [hz : Sz P t 1] (hi : idx < m) (hl : xs.length = m) (hr : H.set id (some ⟨true, segSet segs base (.ints k m (xs.set idx n))⟩) = r) :
    LOk P ⟨d, .store t x y, ty, pos, af, g⟩ T H r (.s .junk) [id] [id] := l_store_int hx hy hb hs hi hl hz.h hr
theorem a_store_nat {t : TypeId} {x y : Operand} {id base idx m n' : Nat} {segs : List Seg} {k : IntKind} {n : Int} {xs : List Nat} {r : Heap} (hx : ev T x = .s (.ptr id base idx)) (hy : ev T y = .s (.int k n)) (hb : hget H id = some ⟨true, segs⟩) (hs : segAt segs base = some (.ints k m (zs xs))) [hz : Sz P t 1] [hn : IsN n n'] (hi : idx < m) (hl : xs.length = m) (hr : H.set id (some ⟨true, segSet segs base (.ints k m (zs (xs.set idx n')))⟩) = r) :
    LOk P ⟨d, .store t x y, ty, pos, af, g⟩ T H r (.s .junk) [id] [id] := l_store_int hx hy hb hs hi (by rw [zs_len, hl]) hz.h (by rw [hn.h, zs_set]; exact hr)
theorem a_store_one {t : TypeId} {x y : Operand} {id base : Nat} {segs : List Seg} {v u : SV} {r : Heap} (hx : ev T x = .s (.ptr id base 0)) (hy : ev T y = .s v) (hj : v ≠ .junk) (hb : hget H id = some ⟨true, segs⟩) (hs : segAt segs base = some (.one u)) [hz : Sz P t 1] (hr : H.set id (some ⟨true, segSet segs base (.one v)⟩) = r) :
    LOk P ⟨d, .store t x y, ty, pos, af, g⟩ T H r (.s .junk) [id] [id] := l_store_one hx hy hj hb hs hz.h hr
theorem a_store_agg {t : TypeId} {x y : Operand} {id base n : Nat} {segs sub segs' : List Seg} {r : Heap} (hx : ev T x = .s (.ptr id base 0)) (hy : ev T y = .agg sub) (hb : hget H id = some ⟨true, segs⟩) [hz : Sz P t n] (hp : putSegs segs base n sub = some segs') (h0 : 0 < n) (hn : sizeS sub = n) (hr : H.set id (some ⟨true, segs'⟩) = r) :
    LOk P ⟨d, .store t x y, ty, pos, af, g⟩ T H r (.s .junk) [id] [id] := l_store_agg hx hy hb (PutS.segs (o := base + 0) h0 hp hn) hz.h hn hr
theorem a_store_aggI {t : TypeId} {x y : Operand} {id base i n m : Nat} {k : IntKind} {xs ys : List Int} {segs : List Seg} {r : Heap} (hx : ev T x = .s (.ptr id base i)) (hy : ev T y = .agg [.ints k n ys]) (hb : hget H id = some ⟨true, segs⟩) [hz : Sz P t n] (hs : segAt segs base = some (.ints k m xs)) (h0 : 0 < n) (hn : i + n ≤ m) (hr : H.set id (some ⟨true, segSet segs base (.ints k m (spl xs ys i n m))⟩) = r) :
    LOk P ⟨d, .store t x y, ty, pos, af, g⟩ T H r (.s .junk) [id] [id] := l_store_agg hx hy hb (PutS.ints h0 hs hn) hz.h (by simp [sizeS, Seg.size]) hr
theorem a_eqn {t e tyy : TypeId} {x y : Operand} {u : SV} {b : Bool} (hx : ev T x = .s u) (hy : ev T y = .s .nilp) (hu1 : u.isPtr = some b) [hu : Und P t (.pointer e)] : LOk P ⟨d, .binOp .eql t x y tyy, ty, pos, af, g⟩ T H H (.s (.bool (!b))) [] [] := l_eqn hx hu1 hy hu.h
theorem a_nen {t e tyy : TypeId} {x y : Operand} {u : SV} {b : Bool} (hx : ev T x = .s u) (hy : ev T y = .s .nilp) (hu1 : u.isPtr = some b) [hu : Und P t (.pointer e)] : LOk P ⟨d, .binOp .neq t x y tyy, ty, pos, af, g⟩ T H H (.s (.bool b)) [] [] := l_nen hx hu1 hy hu.h
theorem a_eqlb {t tyy : TypeId} {x y : Operand} {p q : Bool} (hx : ev T x = .s (.bool p)) (hy : ev T y = .s (.bool q)) [hu : Und P t .bool] : LOk P ⟨d, .binOp .eql t x y tyy, ty, pos, af, g⟩ T H H (.s (.bool (p == q))) [] [] := l_eqlb hx hy hu.h
theorem a_neqb {t tyy : TypeId} {x y : Operand} {p q : Bool} (hx : ev T x = .s (.bool p)) (hy : ev T y = .s (.bool q)) [hu : Und P t .bool] : LOk P ⟨d, .binOp .neq t x y tyy, ty, pos, af, g⟩ T H H (.s (.bool (p != q))) [] [] := l_neqb hx hy hu.h
class NoEq (P : Program) (t : TypeId) : Prop where
  h : P.eqGuardType P.depth t = false
theorem a_eqA {t e : TypeId} {x y : Operand} {tyy : TypeId} {n : Nat} {k : IntKind} {l m : List Int} (hx : ev T x = .agg [.ints k n l]) (hy : ev T y = .agg [.ints k n m]) [hu : Und P t (.array n e)] [he : Und P e (.int k)] [hs : Sz P e 1] [ha : Ag P e false] [hg : NoEq P t] (hl : l.length = n) (hm : m.length = n) : LOk P ⟨d, .binOp .eql t x y tyy, ty, pos, af, g⟩ T H H (.s (.bool (decide (l = m)))) [] [] := l_eqA hx hy hu.h he.h hs.h ha.h hg.h hl hm
theorem a_neA {t e : TypeId} {x y : Operand} {tyy : TypeId} {n : Nat} {k : IntKind} {l m : List Int} (hx : ev T x = .agg [.ints k n l]) (hy : ev T y = .agg [.ints k n m]) [hu : Und P t (.array n e)] [he : Und P e (.int k)] [hs : Sz P e 1] [ha : Ag P e false] [hg : NoEq P t] (hl : l.length = n) (hm : m.length = n) : LOk P ⟨d, .binOp .neq t x y tyy, ty, pos, af, g⟩ T H H (.s (.bool (!decide (l = m)))) [] [] := l_neA hx hy hu.h he.h hs.h ha.h hg.h hl hm
theorem bnd_some {x : Operand} {dd n : Nat} {k : IntKind} {m : Int} (hx : ev T x = .s (.int k m)) [hm : IsN m n] : Bnd T (some x) dd n := ⟨k, m, hx, hm.h⟩
theorem bnd_none {dd : Nat} : Bnd T none dd dd := rfl
theorem a_sl {t e : TypeId} {x : Operand} {lo hi mx : Option Operand} {id base idx len cap l h m sz q r n c : Nat} (hx : ev T x = .s (.slice id base idx len cap)) (hlo : Bnd T lo 0 l) (hhi : Bnd T hi len h) (hmx : Bnd T mx cap m) (hho : (mx.isSome && hi.isNone) = false) [hu : Und P t (.slice e)] [hs : Sz P e sz] [hq : MulN l sz q] [hr : AddN idx q r] [hn : SubN h l n] [hc : SubN m l c] (h1 : l ≤ h) (h2 : h ≤ m) (h3 : m ≤ cap) (hlm : l < m ∨ l = 0) :
    LOk P ⟨d, .slice t x lo hi mx, ty, pos, af, g⟩ T H H (.s (.slice id base r n c)) [] [] := l_sl hx hlo hhi hmx hho hu.h hs.h h1 h2 h3 hlm (by rw [hq.h, hr.h]) hn.h hc.h
theorem a_sla {t e : TypeId} {x : Operand} {lo hi mx : Option Operand} {id base idx len l h m sz q r n c : Nat} (hx : ev T x = .s (.ptr id base idx)) [hu : Und P t (.array len e)] [hs : Sz P e sz] (hlo : Bnd T lo 0 l) (hhi : Bnd T hi len h) (hmx : Bnd T mx len m) (hho : (mx.isSome && hi.isNone) = false) [hq : MulN l sz q] [hr : AddN idx q r] [hn : SubN h l n] [hc : SubN m l c] (h1 : l ≤ h) (h2 : h ≤ m) (h3 : m ≤ len) (hlm : l < m ∨ l = 0) :
    LOk P ⟨d, .slice t x lo hi mx, ty, pos, af, g⟩ T H H (.s (.slice id base r n c)) [] [] := l_sla hx hlo hhi hmx hho hu.h hs.h h1 h2 h3 hlm (by rw [hq.h, hr.h]) hn.h hc.h
theorem a_sli {t e : TypeId} {x : Operand} {lo hi : Option Operand} {k : IntKind} {xs : List Int} {l h n : Nat} (hx : ev T x = .s (.fzi k xs)) (hlo : Bnd T lo 0 l) (hhi : Bnd T hi xs.length h) [hu : Und P t (.slice e)] [hs : Sz P e 1] [hn : SubN h l n] (h1 : l ≤ h) (h2 : h ≤ xs.length) :
    LOk P ⟨d, .slice t x lo hi none, ty, pos, af, g⟩ T H H (.s (.fzi k ((xs.drop l).take n))) [] [] := l_sli hx hlo hhi (.inl rfl) rfl hu.h hs.h h1 h2 (by rw [hn.h])
theorem a_slim {t e : TypeId} {x y : Operand} {lo hi : Option Operand} {k k' : IntKind} {xs : List Int} {l h m n : Nat} {q : Int} (hx : ev T x = .s (.fzi k xs)) (hlo : Bnd T lo 0 l) (hhi : Bnd T hi xs.length h) (hho : hi.isNone = false) (hy : ev T y = .s (.int k' q)) [hm : IsN q m] [hu : Und P t (.slice e)] [hs : Sz P e 1] [hn : SubN h l n] (h1 : l ≤ h) (h2 : h ≤ m) (h3 : m ≤ xs.length) :
    LOk P ⟨d, .slice t x lo hi (some y), ty, pos, af, g⟩ T H H (.s (.fzi k ((xs.drop l).take n))) [] [] := l_sli hx hlo hhi (.inr ⟨m, ⟨y, rfl, k', q, hy, hm.h⟩, h2, h3⟩) (by simp [hho]) hu.h hs.h h1 (by omega) (by rw [hn.h])
theorem a_make {t e : TypeId} {x y : Operand} {l c n : Nat} {k k1 k2 : IntKind} {m1 m2 : Int} {inf : TypeInfo} {H' : Heap} (hx : ev T x = .s (.int k1 m1)) (hy : ev T y = .s (.int k2 m2)) [hm1 : IsN m1 l] [hm2 : IsN m2 c] [hu : Und P t (.slice e)] [hi : Inf P e inf] (hs : inf.size = 1) (hz : inf.zero = some (.int k 0)) (hlc : l ≤ c) (hc : inf.bytes * c ≤ 281474976710656) (hc2 : c ≤ 281474976710656) (hn : H.length = n) (hH : H ++ [some (Blk.mk true [.ints k c (List.replicate c 0)])] = H') :
    LOk P ⟨d, .makeSlice t x y, ty, pos, af, g⟩ T H H' (.s (.slice n 0 0 l c)) [] [] := hH ▸ l_make hx hy hm1.h hm2.h hlc hc hc2 hu.h hi.h hs hz hn
end rules
end Go.Bx
end
