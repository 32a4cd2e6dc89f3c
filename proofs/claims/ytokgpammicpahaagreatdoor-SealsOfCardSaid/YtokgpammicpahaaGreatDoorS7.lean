/- A part of the proofs of this claim: Bx50, BR5T, BKmtT, BSealT, BByte1, BSeal1, BAes5, BRShaP, BRShaQ, BR51, BR52, BR53, BSealM. No conditions. -/
import Derived.Test.YtokgpammicpahaaGreatDoorS6
import Derived.Test.YtokgpammicpahaaGreatDoorS4
import Derived.Test.YtokgpammicpahaaGreatDoorS5
set_option linter.unusedVariables false
set_option linter.unusedSimpArgs false
section
/- Values put behind nothing. No program. -/
namespace Go.Bx
section
variable {P : Program} {T : Tm} {H : Heap} {d : Option Tmp} {ty : TypeId} {pos : String} {af : Array Edge} {g : Option (Nat × Bool)}
theorem l_appN {x y : Operand} {t tx e rt : TypeId} {id len m size n0 : Nat} {u : SV} {segs sub segs' : List Seg} {inf : TypeInfo} {z : Value} {R : List Nat} {H' : Heap} (hx : ∀ (ρ : Rho) (v : Value), (ev T x).rep ρ v → (SV.gro id size len).rep ρ v) (hy : ev T y = .s u) (hb : hget H id = some ⟨true, segs⟩) (hsrc : ASrc P tx size R H u m sub)
    (hu : P.underlying t = some (.slice e)) (hi : P.info? e = some inf) (hsz : inf.size = size) (hz : inf.zero = some z) (hzs : z.cells.size = size) (h1 : len * size ≤ sizeS segs) (hj : Joins segs (len * size) sub (m * size) segs') (hbig : (len + m) * inf.bytes ≤ 140737488355328) (hb1 : 0 < inf.bytes)
    (hRi : ∀ i ∈ R, i < H.length) (hn : H.length = n0) (hH : H.set id none ++ [some (Blk.mk true segs')] = H') :
    LOk P ⟨d, .call ⟨.builtin .append, #[x, y], #[t, tx]⟩, rt, pos, af, g⟩ T H H' (.s (.gro n0 size (len + m))) (id :: R) [id] := by
  subst hn; subst hH
  have hlt := hget_lt hb
  refine ⟨by simp, fun j hj1 hj2 => ?_, fun j hj1 => by simp at hj1; subst hj1; simp, fun j hj1 => ?_, ?_⟩
  · rw [hget_app, if_pos (by simpa using hj1), hget_set hlt, if_neg (by simpa using hj2)]
  · rcases List.mem_cons.1 hj1 with rfl | h
    · exact hlt
    · exact hRi j h
  have hmk : msk (id :: R) H.length (H.set id none ++ [some (Blk.mk true segs')]) = (msk (id :: R) H.length H).set id none ++ [some (Blk.mk true segs')] := by
    have := msk_app (id :: R) (H.set id none) [some (Blk.mk true segs')]
    rw [List.length_set] at this
    rw [this, msk_set _ _ _ (by simp)]
  rw [hmk]
  have hgm : ∀ j ∈ id :: R, hget (msk (id :: R) H.length H) j = hget H j := fun j hj => by rw [hget_msk, if_pos (.inl hj)]
  generalize hH0 : msk (id :: R) H.length H = H0 at *
  have hl0 : H0.length = H.length := by rw [← hH0, msk_len]
  intro W ρ a w hH hnone hW ho next Q hq
  have k1 : (ev T x).rep ρ (a.eval x) := ho x (by simp [Op.operands, Call.operands])
  have k2 : (ev T y).rep ρ (a.eval y) := ho y (by simp [Op.operands, Call.operands])
  replace k1 := hx _ _ k1
  rw [hy] at k2
  obtain ⟨hss, hsrc⟩ := hsrc
  obtain ⟨news, hS, hnr, _⟩ := hsrc _ W ρ w _ (fun j hj => hgm j (List.mem_cons_of_mem _ hj)) hH k2
  have hnl : news.length = m * size := hS.newsLen
  have hb0 : hget H0 id = some ⟨true, segs⟩ := (hgm id (by simp)).trans hb
  have hnew : ρ.m H0.length = none := hnone _ (Nat.le_refl _) (by simp)
  have hget2 : ∀ (j : Nat) (k : Blk), hget (H0.set id none ++ [some (Blk.mk true segs')]) j = some k → (j = H0.length ∧ k = ⟨true, segs'⟩) ∨ (j ≠ id ∧ j ≠ H0.length ∧ hget H0 j = some k) := by
    intro j k hk
    rw [hget_app] at hk
    simp only [List.length_set] at hk
    split at hk
    · rename_i hj
      rw [hget_set (by omega)] at hk
      by_cases hji : j = id
      · rw [if_pos hji] at hk; cases hk
      · rw [if_neg hji] at hk; exact .inr ⟨hji, by omega, hk⟩
    · have := hget_lt hk
      simp at this
      have : j = H0.length := by omega
      subst this
      rw [Nat.sub_self] at hk
      exact .inl ⟨rfl, (Option.some.inj hk).symm⟩
  -- a new row
  have grows : ∀ (base : Option Addr) (sLen sCap : Nat) (olds : List Value), a.eval x = .slice base sLen sCap → sLen = len → sCap < sLen + m → (Builtin.firstCells size sLen (.slice base sLen sCap)).run P w.drew = .ok olds.toArray w.drew → olds.length = len * size → RowRep ρ segs (fun i => if i < len * size then olds[i]? else none) ∨ (∀ i x, i < len * size → atS segs i = some x → ∃ v, olds[i]? = some v ∧ x.cell ρ v) →
      Oper.upon P ⟨d, .call ⟨.builtin .append, #[x, y], #[t, tx]⟩, rt, pos, af, g⟩ a next Q ((execOp a.eval ⟨d, .call ⟨.builtin .append, #[x, y], #[t, tx]⟩, rt, pos, af, g⟩).run P w) := by
    intro base sLen sCap olds hev hsl hg hold holl hor
    subst hsl
    have hor' : ∀ i x, i < sLen * size → atS segs i = some x → ∃ v, olds[i]? = some v ∧ x.cell ρ v := by
      rcases hor with h | h
      · intro i x hi hx
        obtain ⟨v, hv, hc⟩ := h i x hx
        have hv : (if i < sLen * size then olds[i]? else none) = some v := hv
        rw [if_pos hi] at hv
        exact ⟨v, hv, hc⟩
      · exact h
    subst hsz
    have h63 : ((sLen + m : Nat) : Int) ≤ 9223372036854775807 := by
      have : sLen + m ≤ (sLen + m) * inf.bytes := Nat.le_mul_of_pos_right _ hb1
      omega
    have hr := run_append_grow_src (P := P) w t tx rt e inf z hu hi hz base sLen sCap olds hold _ m news hS hg h63 (growslice_fits hg hbig)
    generalize hcap : grownCap w (sLen + m) sCap e = cap at hr
    have hcap' : sLen + m ≤ cap := hcap ▸ grownCap_ge w _ _ _
    have hrun : (execOp a.eval ⟨d, .call ⟨.builtin .append, #[x, y], #[t, tx]⟩, rt, pos, af, g⟩).run P w = .ok (.value (.slice (some ⟨w.heap.size, 0, none⟩) (sLen + m) cap)) (w.drew.alloc (.cells ((olds ++ news).toArray ++ Builtin.zeroCells z.cells (cap - (sLen + m))) e)) := by
      simp only [execOp, resolve, invoke, builtin, List.map_toArray, List.map_cons, List.map_nil, hev]
      simp [Sem.run_bind, hr]
    rw [hrun]
    generalize hcells : (olds ++ news).toArray ++ Builtin.zeroCells z.cells (cap - (sLen + m)) = cells
    have hzc : z.cells.size = inf.size ∨ True := .inr trivial
    -- what the row holds
    have hrow : ∀ ρ', Rle ρ ρ' → RowRep ρ' segs' (fun i => cells[i]?) := by
      intro ρ' hle i q hqi
      have hil := atS_lt hqi
      rw [hj.1] at hil
      have hcell : ∀ v, (olds ++ news)[i]? = some v → cells[i]? = some v := fun v hv => by
        have hi' := (List.getElem?_eq_some_iff.1 hv).1
        rw [← hcells, Array.getElem?_append_left (by simpa using hi')]
        simpa using hv
      obtain ⟨c1, c2⟩ := hj.2 i q hqi
      rcases Nat.lt_or_ge i (sLen * inf.size) with h | h
      · obtain ⟨x0, hx0, he⟩ := c1 h
        obtain ⟨v, hv, hc⟩ := hor' i x0 h hx0
        refine ⟨v, hcell v (by rw [List.getElem?_append_left (by omega)]; exact hv), joined he ⟨SV.rep_le hle hc.1, hc.2⟩⟩
      · obtain ⟨x0, hx0, he⟩ := c2 h
        obtain ⟨v, hv, hc⟩ := hnr _ x0 hx0
        refine ⟨v, hcell v (by rw [List.getElem?_append_right (by omega), holl]; exact hv), joined he ⟨SV.rep_le hle hc.1, hc.2⟩⟩
    have hHd : HRep W ρ (hget (H0.set id none)) w.drew := (hH.sub fun j k hk => by
      rw [hget_set (by omega)] at hk
      split at hk
      · cases hk
      · exact hk).ext (.drew w)
    obtain ⟨ρ', k3, k4, k5⟩ := nx_alloc (t := e) (w := w.drew) (H0 := H0.set id none) hHd (by simpa using hnew) (fun b hb => hW b hb) hrow
    refine hq _ _ ⟨ρ', W, ?_, .inr ⟨w.heap.size, 0, cap, cells.size, ?_, rfl, hcap', k5, ?_⟩⟩
    · simp only [List.length_set] at k3
      exact ⟨k3.le, k3.old, k3.rep, ((Ext.drew w).fr W).trans k3.fr, k3.sub, k3.fresh, k3.fzn⟩
    · rw [← hl0]; simpa using k4
    · rw [← hcells]
      simp only [Array.size_append, List.size_toArray, List.length_append, holl, hnl, Builtin.zeroCells, Array.size_map, Array.size_range, Nat.zero_add]
      have e1 : (cap - (sLen + m)) * z.cells.size = (cap - (sLen + m)) * inf.size := by rw [hzs]
      have e2 : cap * inf.size = sLen * inf.size + m * inf.size + (cap - (sLen + m)) * inf.size := by
        rw [← Nat.add_mul, ← Nat.add_mul]; congr 1; omega
      omega
  rcases k1 with ⟨hl, hev⟩ | ⟨b, o, cap, q, hρ, hev, hlc, hszb, hroom⟩
  · -- nothing so far
    rcases Nat.eq_zero_or_pos m with hm | hm
    · -- nothing more
      have hl2 : news = [] := List.eq_nil_of_length_eq_zero (by rw [hnl, hm, Nat.zero_mul])
      have hrun : (execOp a.eval ⟨d, .call ⟨.builtin .append, #[x, y], #[t, tx]⟩, rt, pos, af, g⟩).run P w = .ok (.value (.slice none 0 0)) w := by
        simp only [execOp, resolve, invoke, builtin, List.map_toArray, List.map_cons, List.map_nil, hev]
        have hc := hS.cells
        rw [hm, hl2] at hc
        rcases hS.kind with ⟨e', hk⟩ | hk <;> (have hln := hS.len; rw [hm] at hln; simp [Builtin.append_, Sem.run_bind, run_underlying hu, run_underlying hk, sizeOf, typeInfo, hi, hsz, hln, hc])
      rw [hrun]
      let ρ' := ρ
      refine hq _ _ ⟨ρ, W, ⟨.refl _, fun _ _ h => .inl h, ⟨hH.lt, fun j b o k e1 e2 => ?_, fun j j' b o o' k k' hne e1 e2 e3 e4 => ?_, hH.fz, hH.sz⟩, .refl _ _, fun _ h => h, hW, fun _ _ h => .inl h⟩, .inl ⟨by rw [hl, hm], rfl⟩⟩
      · rcases hget2 j k e2 with ⟨rfl, _⟩ | ⟨_, _, h⟩
        · rw [hnew] at e1; cases e1
        · exact hH.rep j b o k e1 h
      · rcases hget2 j k e3 with ⟨rfl, _⟩ | ⟨_, _, h⟩
        · rw [hnew] at e1; cases e1
        · rcases hget2 j' k' e4 with ⟨rfl, _⟩ | ⟨_, _, h'⟩
          · rw [hnew] at e2; cases e2
          · exact hH.apart j j' b o o' k k' hne e1 e2 h h'
    · exact grows none 0 0 [] hev hl.symm (by omega) (by rw [run_firstCells_none]) (by simp [hl]) (.inr fun i x hi => by rw [hl, Nat.zero_mul] at hi; omega)
  · obtain ⟨⟨cells, tt, fr, g1, g2, _, g4⟩, hWb⟩ := hH.rep id b o _ hρ hb0
    have hfr := g2 rfl
    subst hfr
    have hWb := hWb rfl
    have hcs : cells.size = q := by
      obtain ⟨cs, t', fr', h2, h3⟩ := hH.sz b q hszb
      rw [g1] at h2
      cases h2; exact h3
    rcases Nat.lt_or_ge cap (len + m) with hg | hg
    · -- no room
      have hfit : o + len * size ≤ cells.size := by
        have := Nat.mul_le_mul_right size hlc
        omega
      have hget3 : ∀ i, ((cells.toList.drop o).take (len * size))[i]? = if i < len * size then cells[o + i]? else none := fun i => by
        rw [List.getElem?_take]
        by_cases h : i < len * size
        · rw [if_pos h, if_pos h, List.getElem?_drop]; simp
        · rw [if_neg h, if_neg h]
      refine grows (some ⟨b, o, none⟩) len cap ((cells.toList.drop o).take (len * size)) hev rfl hg ?_ (by simp; omega) (.inr fun i x0 hi2 hx0 => ?_)
      · refine run_firstCells_some w.drew size len ⟨b, o, none⟩ len cap _ (by simp; omega) fun i v hv => ?_
        rw [hget3] at hv
        split at hv
        · rw [addr_add]
          have g1' : w.drew.heap[b]? = some (.cells cells tt (0, 0)) := g1
          simp [World.cell?, g1']
          exact hv
        · cases hv
      · obtain ⟨v, hv, hc⟩ := g4 i x0 hx0
        exact ⟨v, by rw [hget3, if_pos hi2]; exact hv, hc⟩
    · -- there is room
      have hst := run_storeCells_at P b (o + len * size) tt news 0 cells w g1 (by
        have := Nat.mul_le_mul_right size hg
        rw [Nat.add_mul] at this
        simp; omega) hS.one
      rw [Nat.add_zero] at hst
      have hrun : (execOp a.eval ⟨d, .call ⟨.builtin .append, #[x, y], #[t, tx]⟩, rt, pos, af, g⟩).run P w = .ok (.value (.slice (some ⟨b, o, none⟩) (len + m) cap)) (w.setRow b (cells.toList.take (o + len * size) ++ news ++ cells.toList.drop (o + len * size + news.length)).toArray) := by
        simp only [execOp, resolve, invoke, builtin, List.map_toArray, List.map_cons, List.map_nil, hev]
        rcases hS.kind with ⟨e', hk⟩ | hk <;> (simp [Builtin.append_, Sem.run_bind, run_underlying hu, run_underlying hk, sizeOf, typeInfo, hi, hsz, hS.len, hS.cells, hg, addr_add]; rw [hst]; simp)
      rw [hrun]
      have hbl := hH.lt _ _ _ hρ
      have hsize : ((cells.toList.take (o + len * size) ++ news ++ cells.toList.drop (o + len * size + news.length)).toArray).size = cells.size := by
        have := Nat.mul_le_mul_right size hg
        rw [Nat.add_mul] at this
        simp; omega
      have hnewrow := setRow_heap w b cells (cells.toList.take (o + len * size) ++ news ++ cells.toList.drop (o + len * size + news.length)).toArray tt (0, 0) g1
      generalize hrw : (cells.toList.take (o + len * size) ++ news ++ cells.toList.drop (o + len * size + news.length)).toArray = row at *
      let ρ' : Rho := ⟨fun i => if i = H0.length then some (b, o) else ρ.m i, ρ.fz, ρ.sz⟩
      have hρ' : ∀ i x, ρ'.m i = some x → (i = H0.length ∧ x = (b, o)) ∨ (i ≠ H0.length ∧ ρ.m i = some x) := by
        intro i x hx
        have hx : (if i = H0.length then some (b, o) else ρ.m i) = some x := hx
        by_cases hi2 : i = H0.length
        · rw [if_pos hi2] at hx; exact .inl ⟨hi2, (Option.some.inj hx).symm⟩
        · rw [if_neg hi2] at hx; exact .inr ⟨hi2, hx⟩
      have hle : Rle ρ ρ' := by
        refine ⟨fun i x hx => ?_, fun _ _ h => h, fun _ _ h => h⟩
        show (if i = H0.length then some (b, o) else ρ.m i) = some x
        by_cases hi2 : i = H0.length
        · subst hi2; rw [hnew] at hx; cases hx
        · rw [if_neg hi2]; exact hx
      have hother : ∀ j b' o' k, j ≠ id → ρ.m j = some (b', o') → hget H0 j = some k → b' ≠ b := by
        intro j b' o' k hj e1 e2 e
        subst e
        have := (hH.apart j id b' o' o k _ hj e1 hρ e2 hb0).2
        cases this
      have hrowcell : ∀ i, (i < len * size → row[o + i]? = cells[o + i]?) ∧ (len * size ≤ i → i < len * size + news.length → row[o + i]? = news[i - len * size]?) := by
        have hle2 : o + len * size ≤ cells.size := by
          have := Nat.mul_le_mul_right size hlc
          omega
        intro i
        refine ⟨fun h => ?_, fun h h' => ?_⟩
        · rw [← hrw, List.getElem?_toArray, List.getElem?_append_left (by simp; omega), List.getElem?_append_left (by simp; omega), List.getElem?_take, if_pos (by omega)]
          simp
        · rw [← hrw, List.getElem?_toArray, List.getElem?_append_left (by simp; omega), List.getElem?_append_right (by simp; omega)]
          congr 1
          simp; omega
      refine hq _ _ ⟨ρ', W, ⟨hle, fun i x e => ?_, ⟨fun j b' o' e => ?_, fun j b' o' k e1 e2 => ?_, fun j j' b' o1 o2 k k' hne e1 e2 e3 e4 => ?_, fun b' cs e => ?_, fun b' n' e => ?_⟩, Fr.setRow _ hWb g1 hsize, fun _ h => h, fun b' hb' => hW b' (by simpa using hb'), fun _ _ h => .inl h⟩, .inr ⟨b, o, cap, q, ?_, rfl, hg, hszb, hroom⟩⟩
      · rcases hρ' i x e with ⟨rfl, rfl⟩ | ⟨_, h⟩
        · exact .inr ⟨Nat.le_refl _, by simp, hWb⟩
        · exact .inl h
      · rcases hρ' j _ e with ⟨rfl, h⟩ | ⟨_, h⟩
        · cases h; simpa using hbl
        · have := hH.lt _ _ _ h; simpa using this
      · rcases hget2 j k e2 with ⟨rfl, rfl⟩ | ⟨h1', h2', h3'⟩
        · rcases hρ' _ _ e1 with ⟨_, h⟩ | ⟨h, _⟩
          · cases h
            refine ⟨⟨row, tt, (0, 0), hnewrow, fun _ => rfl, fun h => (by cases h), fun i p hp => ?_⟩, fun _ => hWb⟩
            have hil := atS_lt hp
            rw [hj.1] at hil
            obtain ⟨c1, c2⟩ := hj.2 i p hp
            rcases Nat.lt_or_ge i (len * size) with h | h
            · obtain ⟨x0, hx0, he⟩ := c1 h
              obtain ⟨v, hv, hc⟩ := g4 i x0 hx0
              exact ⟨v, by show row[o + i]? = some v; rw [(hrowcell i).1 h]; exact hv, joined he ⟨SV.rep_le hle hc.1, hc.2⟩⟩
            · obtain ⟨x0, hx0, he⟩ := c2 h
              obtain ⟨v, hv, hc⟩ := hnr _ x0 hx0
              exact ⟨v, by show row[o + i]? = some v; rw [(hrowcell i).2 h (by rw [hnl]; exact hil)]; exact hv, joined he ⟨SV.rep_le hle hc.1, hc.2⟩⟩
          · exact absurd rfl h
        · rcases hρ' _ _ e1 with ⟨h, _⟩ | ⟨_, h⟩
          · exact absurd h h2'
          · have := hH.rep j b' o' k h h3'
            refine ⟨(this.1.world (setRow_other _ _ _ _ ?_)).le hle, this.2⟩
            exact fun e => (hother j b' o' k h1' h h3') e
      · rcases hget2 j k e3 with ⟨rfl, rfl⟩ | ⟨h1', h2', h3'⟩ <;> rcases hget2 j' k' e4 with ⟨rfl, rfl⟩ | ⟨h1'', h2'', h3''⟩
        · exact absurd rfl hne
        · rcases hρ' _ _ e1 with ⟨_, h⟩ | ⟨h, _⟩
          · cases h
            rcases hρ' _ _ e2 with ⟨h, _⟩ | ⟨_, h⟩
            · exact absurd h h2''
            · exact absurd rfl (hother j' b o2 k' h1'' h h3'')
          · exact absurd rfl h
        · rcases hρ' _ _ e2 with ⟨_, h⟩ | ⟨h, _⟩
          · cases h
            rcases hρ' _ _ e1 with ⟨h, _⟩ | ⟨_, h⟩
            · exact absurd h h2'
            · exact absurd rfl (hother j b o1 k h1' h h3')
          · exact absurd rfl h
        · rcases hρ' _ _ e1 with ⟨h, _⟩ | ⟨_, h⟩
          · exact absurd h h2'
          rcases hρ' _ _ e2 with ⟨h', _⟩ | ⟨_, h'⟩
          · exact absurd h' h2''
          exact hH.apart j j' b' o1 o2 k k' hne h h' h3' h3''
      · obtain ⟨q1, t', fr', q2⟩ := hH.fz b' cs e
        have hne : b' ≠ b := by intro e'; rw [e'] at q1; exact q1 hWb
        exact ⟨q1, t', fr', by rw [setRow_other _ _ _ _ hne]; exact q2⟩
      · exact sz_fr hH (Fr.setRow (W := W) row hWb g1 hsize) b' n' e
      · show (if H.length = H0.length then some (b, o) else ρ.m H.length) = some (b, o)
        rw [if_pos hl0.symm]
theorem k_apn (id : Nat) {x y : Operand} {t tx e rt : TypeId} {m n0 : Nat} {k : IntKind} {l2 : List Int} {segs : List Seg} {inf : TypeInfo} {z : Value} {H1 H' : Heap} [hu : Und P t (.slice e)] [hux : Und P tx (.slice e)] [hi : Inf P e inf] [hN : LenN H n0] (hx : ev T x = .s .nils := by rfl) (hy : ev T y = .s (.fzi k l2) := by rfl) (hb : hget H id = some ⟨true, segs⟩ := by rfl) (hsz : inf.size = 1 := by exact rfl) (hz : inf.zero = some z := by exact rfl) (hzs : z.cells.size = 1 := by exact rfl) (hm : l2.length = m := by rfl) (hbig : m ≤ 1000000 := by omega) (hbb : Nat.ble (1000000 * inf.bytes) 140737488355328 = true := by exact rfl) (hb1 : 0 < inf.bytes := by exact Nat.le_of_ble_eq_true rfl) (hH1 : H.set id none = H1 := by repeat (first | exact hset_0 | apply hset_s)) (hH : H1 ++ [some (Blk.mk true [.ints k m l2])] = H' := by repeat (first | exact happ_0 | apply happ_s)) :
    LOk P ⟨d, .call ⟨.builtin .append, #[x, y], #[t, tx]⟩, rt, pos, af, g⟩ T H H' (.s (.gro n0 1 m)) [id] [id] := by
  subst hm; subst hH1
  have h := l_appN (P := P) (T := T) (H := H) (d := d) (rt := rt) (pos := pos) (af := af) (g := g) (x := x) (y := y) (t := t) (tx := tx) (id := id) (len := 0) (m := l2.length) (size := 1) (segs := segs) (sub := [.ints k l2.length l2]) (segs' := [.ints k l2.length l2]) (H' := H') (fun ρ v hv => by rw [hx] at hv; exact .inl ⟨rfl, hv⟩) hy hb (asrc_fzi hux.h) hu.h hi.h hsz hz hzs (by omega) ?_ (big_ok (n := 0) (m := l2.length) (by omega) hbb) hb1 (fun _ h => by cases h) hN.h hH
  · rwa [Nat.zero_add] at h
  · refine ⟨by simp [sizeS, Seg.size], fun i y hy => ⟨fun hi => by omega, fun _ => ⟨y, ?_, .inl rfl⟩⟩⟩
    rw [Nat.zero_mul, Nat.sub_zero]; exact hy
end
end Go.Bx
end

section
/- Types and functions of the document's sums, as instances. -/
open Go Go.Bx Go.Proofs
namespace Go.Proofs.X
instance : Clb Tryz.prog 156 := ⟨_, Tryz.func156, by kernel_rfl, rfl⟩
instance : Clb Tryz.prog 168 := ⟨_, Tryz.func168, by kernel_rfl, rfl⟩
instance : Clb Tryz.prog 169 := ⟨_, Tryz.func169, by kernel_rfl, rfl⟩
instance : Clb Tryz.prog 173 := ⟨_, Tryz.func173, by kernel_rfl, rfl⟩
instance : Clb Tryz.prog 95 := ⟨_, Tryz.func95, by kernel_rfl, rfl⟩
instance : Clb Tryz.prog 96 := ⟨_, Tryz.func96, by kernel_rfl, rfl⟩
instance : Clb Tryz.prog 157 := ⟨_, Tryz.func157, by kernel_rfl, rfl⟩
instance : Clb Tryz.prog 158 := ⟨_, Tryz.func158, by kernel_rfl, rfl⟩
instance : Clb Tryz.prog 94 := ⟨_, Tryz.func94, by kernel_rfl, rfl⟩
instance : Und Tryz.prog 248 (.array 8 62) := ⟨Tryz.underlying248⟩
instance : Sz Tryz.prog 248 8 := ⟨Tryz.sizeOf248⟩
instance : Ag Tryz.prog 248 true := ⟨Tryz.isAgg248⟩
instance : Zv Tryz.prog 248 [.ints .u32 8 (zs (List.replicate 8 0))] := ⟨_, Tryz.zeroValue248, by kernel_rfl⟩
instance : Zb Tryz.prog 248 .u32 8 := ⟨_, Tryz.zeroValue248, by kernel_rfl⟩
instance : Inf Tryz.prog 248 Tryz.t248 := ⟨by kernel_rfl⟩
end Go.Proofs.X
end

section
/- Types and functions of layer 10, as instances. -/
open Go Go.Bx Go.Proofs
namespace Go.Proofs.X
instance : Clb Tryz.prog 17 := ⟨_, Tryz.func17, by kernel_rfl, rfl⟩
instance : Clb Tryz.prog 19 := ⟨_, Tryz.func19, by kernel_rfl, rfl⟩
instance : Clb Tryz.prog 16 := ⟨_, Tryz.func16, by kernel_rfl, rfl⟩
instance : Clb Tryz.prog 18 := ⟨_, Tryz.func18, by kernel_rfl, rfl⟩
instance : Clb Tryz.prog 15 := ⟨_, Tryz.func15, by kernel_rfl, rfl⟩
instance : Clb Tryz.prog 4 := ⟨_, Tryz.func4, by kernel_rfl, rfl⟩
instance : NoEq Tryz.prog 58 := ⟨by kernel_rfl⟩
instance : Und Tryz.prog 53 (.struct #[{ name := "Shared", type := 49, offset := 0, embedded := false, tag := "", pkgPath := "", byteOffset := 0 }, { name := "ID", type := 51, offset := 4, embedded := false, tag := "", pkgPath := "", byteOffset := 32 }, { name := "Bytes", type := 3, offset := 36, embedded := false, tag := "", pkgPath := "", byteOffset := 64 }, { name := "Place", type := 3, offset := 37, embedded := false, tag := "", pkgPath := "", byteOffset := 72 }, { name := "B", type := 23, offset := 38, embedded := false, tag := "", pkgPath := "", byteOffset := 80 }]) := ⟨Tryz.underlying53⟩
instance : Sz Tryz.prog 53 39 := ⟨Tryz.sizeOf53⟩
instance : Ag Tryz.prog 53 true := ⟨Tryz.isAgg53⟩
instance : Zv Tryz.prog 53 [.ints .u64 4 (zs (List.replicate 4 0)), .ints .u8 32 (zs (List.replicate 32 0)), .one (.int .i64 0), .one (.int .i64 0), .one .nils] := ⟨_, Tryz.zeroValue53, by kernel_rfl⟩
instance : FldC Tryz.prog 53 0 0 := ⟨_, _, _, Tryz.underlying53, rfl, Tryz.sizeOf49, by decide, rfl⟩
instance : FldC Tryz.prog 53 1 4 := ⟨_, _, _, Tryz.underlying53, rfl, Tryz.sizeOf51, by decide, rfl⟩
instance : FldC Tryz.prog 53 2 36 := ⟨_, _, _, Tryz.underlying53, rfl, Tryz.sizeOf3, by decide, rfl⟩
instance : FldC Tryz.prog 53 3 37 := ⟨_, _, _, Tryz.underlying53, rfl, Tryz.sizeOf3, by decide, rfl⟩
instance : FldC Tryz.prog 53 4 38 := ⟨_, _, _, Tryz.underlying53, rfl, Tryz.sizeOf23, by decide, rfl⟩
instance : Pl Tryz.prog 53 #[(0, 4), (4, 32), (36, 1), (37, 1), (38, 1)] := ⟨_, Tryz.underlying53, fun w => by kernel_rfl⟩
instance : Inf Tryz.prog 53 Tryz.t53 := ⟨by kernel_rfl⟩
instance : Und Tryz.prog 54 (.int .i64) := ⟨Tryz.underlying54⟩
instance : Sz Tryz.prog 54 1 := ⟨Tryz.sizeOf54⟩
instance : Ag Tryz.prog 54 false := ⟨Tryz.isAgg54⟩
instance : Zv Tryz.prog 54 [.one (.int .i64 0)] := ⟨_, Tryz.zeroValue54, by kernel_rfl⟩
instance : Zi Tryz.prog 54 .i64 := ⟨Tryz.zeroValue54⟩
instance : Inf Tryz.prog 54 Tryz.t54 := ⟨by kernel_rfl⟩
end Go.Proofs.X
end

section
/- Types and functions of seals, as instances. -/
open Go Go.Bx Go.Proofs
namespace Go.Proofs.X
instance : Clb Tryz.prog 98 := ⟨_, Tryz.func98, by kernel_rfl, rfl⟩
instance : Clb Tryz.prog 24 := ⟨_, Tryz.func24, by kernel_rfl, rfl⟩
instance : Clb Tryz.prog 20 := ⟨_, Tryz.func20, by kernel_rfl, rfl⟩
instance : Clb Tryz.prog 22 := ⟨_, Tryz.func22, by kernel_rfl, rfl⟩
end Go.Proofs.X
end

section
set_option maxRecDepth 100000
set_option maxHeartbeats 4000000
open Go Go.Bx Go.Proofs
namespace Go.Proofs.X
theorem first_c (B : List Int) (h : 13 ≤ B.length) : Con Tryz.prog 98 [.s (.fzi .u8 B)] [] (.agg [.ints .u8 16 (spl (z 16) ((B.drop 1).take 12) 0 12 16)]) [] := by
 refine con_in 8 Tryz.func98 rfl rfl (m := 0) rfl ?_
 intro E hP hn hE
 refine qz hP hn ?_
 refine s_op k_al ?_
 refine s_nil trivial (n_wp (w_seq ?_))
 refine g_any hP hn ?_
 refine s_op k_sl ?_
 refine s_op k_mv ?_
 refine s_op k_sl ?_
 refine s_op (k_cpn 12 (hn := by simp; omega)) ?_
 refine s_nil (by kernel_rfl) ?_
 refine n_wp (qz hP hn ?_)
 refine s_op k_ld ?_
 refine s_st k_st ?_
 refine s_nil trivial (n_wp (w_ret ?_))
 exact d_ret hP hn hE [] (r_cell Tryz.results98)

theorem put_n (B : List Int) (v n : Nat) (hn0 : 0 < n) (hn8 : n ≤ 8) (hv : v < 18446744073709551616) (hB : B.length ≤ 140737488355000) : Con Tryz.prog 97 [.s (.fzi .u8 B), .s (.int .u64 ((v : Nat) : Int)), .s (.int .i64 ((n : Nat) : Int))] [] (.s (.fzi .u8 (B ++ be n v))) [] := by
 have h := put_c B ((v : Nat) : Int) n hn8 hB
 rw [Nat.mul_one, rowL_1 B n v hn0 hv] at h
 exact h
theorem get_n (B : List Int) (m : Nat) (h0 : 0 < m) (h8 : m ≤ 8) (hm : m ≤ B.length) (hU : U8' B) : Con Tryz.prog 103 [.s (.fzi .u8 B), .s (.int .i64 ((m : Nat) : Int))] [] (.tup [.s (.int .u64 ((gN B m : Nat) : Int)), .s (.int .i64 0)]) [] := by
 have h := get_c B m h0 h8 hm
 rw [getI_n hU m h8 hm] at h
 exact h
theorem mac_b (K : List Int) (L : List (List Int)) (hK0 : 0 < K.length) (hK : K.length ≤ 64) (hL : L.length ≤ 1000000) (hl : L.flatten.length < 4611686018427380000) : Con Tryz.prog 93 [.s (.fzi .u8 K), .s (ROWS L)] [] (.agg [.ints .u8 32 (hmB K L.flatten)]) [] := mac_c K L hK0 hK hL hl
theorem mac_1 (K A : List Int) (hK : K.length = 32) (hl : A.length < 4611686018427380000) : Con Tryz.prog 93 [.s (.fzi .u8 K), .s (ROWS [A])] [] (.agg [.ints .u8 32 (hmB K A)]) [] := by
 have h := mac_b K [A] (by omega) (by omega) (Nat.le_of_ble_eq_true rfl) (by simpa using hl)
 rwa [show [A].flatten = A by simp] at h
theorem first_b (B : List Int) (h : 13 ≤ B.length) : Con Tryz.prog 98 [.s (.fzi .u8 B)] [] (.agg [.ints .u8 16 (fiB B)]) [] := by
 have h := first_c B h
 rwa [show (B.drop 1).take 12 = ((B.drop 1).take 12).take 12 by rw [take_same]] at h

end Go.Proofs.X
end

section
set_option maxRecDepth 100000
set_option maxHeartbeats 4000000
open Go Go.Bx Go.Proofs
namespace Go.Proofs.X
attribute [local irreducible] hmB streamI seal1 sealB ahB be fiB hmO tk
theorem same_c (A B : List Int) (h : A.length = B.length) (hA : A.length ≤ 140737488355000) : Con Tryz.prog 102 [.s (.fzi .u8 A), .s (.fzi .u8 B)] [] (.s (.bool (decide (mo A B A.length = 0)))) [] := by
 refine con_in 31 Tryz.func102 rfl rfl (m := 0) rfl ?_
 intro E hP hn hE
 refine qz hP hn ?_
 refine s_op k_as ?_
 refine s_nil trivial (n_wp (w_seq (qz hP hn ?_)))
 refine o3 ?_
 refine o2 ?_
 refine s_nil trivial (n_wp ?_)
 refine w_F rfl ?_ (by rw [h]; simp)
 refine w_skip (n_wp (qz hP hn ?_))
 refine s_op k_as ?_
 refine s_nil trivial (n_wp (w_seq (qz hP hn ?_)))
 refine o3 ?_
 refine s_nil trivial (n_wp (w_block ?_))
 refine c_loop (fun m T H => ∃ i, i ≤ A.length ∧ m = A.length - i ∧ T = [(0, .s (.fzi .u8 A)), (1, .s (.fzi .u8 B)), (5, .s (.int .u8 (mo A B i))), (13, .s (.int .i64 ((A.length : Nat) : Int))), (14, .s (.int .i64 ((i : Nat) : Int)))] ∧ H = []) (A.length) ⟨0, by omega, rfl, rfl, rfl⟩ (wk hE []) ?_
 rintro n_ T_ H_ ⟨i, hi, rfl, rfl, rfl⟩
 refine qz hP hn ?_
 refine s_op k_lss ?_
 refine s_nil trivial (n_wp (w_seq ?_))
 refine w_if rfl (fun h_t15 => ?_) (fun h_t15 => ?_)
 · refine w_skip (n_wp (w_seq (w_block (qz hP hn ?_))))
   refine o2 ?_
   refine s_nil trivial (n_wp ?_)
   refine g_any hP hn ?_
   refine o4 ?_
   refine o4 ?_
   refine o4 ?_
   refine s_nil (by kernel_rfl) ?_
   refine n_blo (n_wp (g_reg hP hn ?_))
   refine o2 ?_
   refine s_nil trivial ?_
   exact n_round (A.length - (i + 1)) (by omega) ⟨i + 1, by omega, rfl, rfl, rfl⟩ (wk hE [])
 · have hi : i = A.length := by omega
   rw [hi]
   refine w_exit (x_thn (x_thn (x_eq (n_wp (qz hP hn ?_)))))
   refine o3 ?_
   refine s_nil trivial (n_wp (w_ret ?_))
   exact d_ret hP hn hE [] (by first | exact r_tmp Tryz.results102 | exact r_tmpa Tryz.results102)

theorem lane_long_c (B : List Int) (h : 2048 < B.length) : Con Tryz.prog 24 [.s (.fzi .u8 B)] [] (.tup [.s (.int .u32 0), .s (.int .i64 3)]) [] := by
 refine con_in 27 Tryz.func24 rfl rfl (m := 0) rfl ?_
 intro E hP hn hE
 refine qz hP hn ?_
 refine o2 ?_
 refine s_nil trivial (n_wp (w_seq (w_block (qz hP hn ?_))))
 refine o4 ?_
 refine s_nil trivial (n_wp ?_)
 refine w_T rfl ?_ 
 refine qz hP hn ?_
 refine o2 ?_
 refine s_nil trivial (n_wp (w_ret (r_blo (r_thn ?_))))
 exact d_ret hP hn hE [] (ret2 Tryz.results24 (by first | exact ri_tmp rfl | exact ri_tmpa rfl) (by first | exact ri_tmp rfl | exact ri_tmpa rfl))

theorem lane_short_c (B : List Int) (h : B.length < 29) : Con Tryz.prog 24 [.s (.fzi .u8 B)] [] (.tup [.s (.int .u32 0), .s (.int .i64 5)]) [] := by
 refine con_in 27 Tryz.func24 rfl rfl (m := 0) rfl ?_
 intro E hP hn hE
 refine qz hP hn ?_
 refine o2 ?_
 refine s_nil trivial (n_wp (w_seq (w_block (qz hP hn ?_))))
 refine o4 ?_
 refine s_nil trivial (n_wp ?_)
 refine w_F rfl ?_ 
 refine qz hP hn ?_
 refine o4 ?_
 refine s_nil trivial (n_wp ?_)
 refine w_T rfl ?_ 
 refine qz hP hn ?_
 refine o2 ?_
 refine s_nil trivial (n_wp (w_ret (r_blo (r_thn ?_))))
 exact d_ret hP hn hE [] (ret2 Tryz.results24 (by first | exact ri_tmp rfl | exact ri_tmpa rfl) (by first | exact ri_tmp rfl | exact ri_tmpa rfl))

theorem lane_form_c (B : List Int) (h : 29 ≤ B.length) (h2 : B.length ≤ 2048) (h9 : B.getD 0 0 ≠ 9) : Con Tryz.prog 24 [.s (.fzi .u8 B)] [] (.tup [.s (.int .u32 0), .s (.int .i64 4)]) [] := by
 refine con_in 27 Tryz.func24 rfl rfl (m := 0) rfl ?_
 intro E hP hn hE
 refine qz hP hn ?_
 refine o2 ?_
 refine s_nil trivial (n_wp (w_seq (w_block (qz hP hn ?_))))
 refine o4 ?_
 refine s_nil trivial (n_wp ?_)
 refine w_F rfl ?_ 
 refine qz hP hn ?_
 refine o4 ?_
 refine s_nil trivial (n_wp ?_)
 refine w_F rfl ?_ 
 refine qz hP hn ?_
 refine o3 ?_
 refine o2 ?_
 refine s_nil trivial (n_wp ?_)
 refine w_T rfl ?_ (decide_eq_true h9)
 refine qz hP hn ?_
 refine o2 ?_
 refine s_nil trivial (n_wp (w_ret (r_blo (r_thn ?_))))
 exact d_ret hP hn hE [] (ret2 Tryz.results24 (by first | exact ri_tmp rfl | exact ri_tmpa rfl) (by first | exact ri_tmp rfl | exact ri_tmpa rfl))

theorem lane_ok_c (B : List Int) (h : 29 ≤ B.length) (h2 : B.length ≤ 2048) (h9 : B.getD 0 0 = 9) : Con Tryz.prog 24 [.s (.fzi .u8 B)] [] (.tup [.s (.int .u32 (IntKind.u32.wrap (getI ((B.drop 1).take (B.length - 1)) 4))), .s (.int .i64 0)]) [] := by
 refine con_in 27 Tryz.func24 rfl rfl (m := 0) rfl ?_
 intro E hP hn hE
 refine qz hP hn ?_
 refine o2 ?_
 refine s_nil trivial (n_wp (w_seq (w_block (qz hP hn ?_))))
 refine o4 ?_
 refine s_nil trivial (n_wp ?_)
 refine w_F rfl ?_ 
 refine qz hP hn ?_
 refine o4 ?_
 refine s_nil trivial (n_wp ?_)
 refine w_F rfl ?_ 
 refine qz hP hn ?_
 refine o3 ?_
 refine o2 ?_
 refine s_nil trivial (n_wp ?_)
 refine w_F rfl ?_ (decide_eq_false (fun k => k h9))
 refine w_skip (n_blo (n_wp (qz hP hn ?_)))
 refine s_op k_mv ?_
 refine s_op k_sl ?_
 refine s_op (k_call [] (con := get_c ((B.drop 1).take (B.length - 1)) 4 (by decide) (by decide) (by simp; omega))) ?_
 refine o3 ?_
 refine o2 ?_
 refine qx hP hn ?_
 refine o4 ?_
 refine s_nil trivial (n_wp (w_ret ?_))
 exact d_ret hP hn hE [] (ret2 Tryz.results24 (by first | exact ri_tmp rfl | exact ri_tmpa rfl) (by first | exact ri_tmp rfl | exact ri_tmpa rfl))

theorem seal_long_c (M C B : List Int) (l n : Int) (h : 2019 < B.length) : Con Tryz.prog 20 [.agg [.ints .u8 32 M, .ints .u8 16 C], .s (.int .u32 l), .s (.int .u64 n), .s (.fzi .u8 B)] [] (.tup [.s .nils, .s (.int .i64 3)]) [] := by
 refine con_in 58 Tryz.func20 rfl rfl (m := 0) rfl ?_
 intro E hP hn hE
 refine qz hP hn ?_
 refine s_op k_bxf ?_
 refine o2 ?_
 refine s_nil trivial (n_wp (w_seq (qz hP hn ?_)))
 refine o3 ?_
 refine s_nil trivial (n_wp ?_)
 refine w_T rfl ?_ 
 refine qz hP hn ?_
 refine o2 ?_
 refine s_nil trivial (n_wp (w_ret (r_thn ?_)))
 exact d_ret hP hn hE [] (ret2 Tryz.results20 (by first | exact ri_tmp rfl | exact ri_tmpa rfl) (by first | exact ri_tmp rfl | exact ri_tmpa rfl))

theorem same_ok (A B : List Int) (h : A = B) (hA : A.length ≤ 140737488355000) : Con Tryz.prog 102 [.s (.fzi .u8 A), .s (.fzi .u8 B)] [] (.s (.bool true)) [] := by
 subst h
 have h := same_c A A rfl hA
 rwa [show decide (mo A A A.length = 0) = true from decide_eq_true (mo_self A _)] at h
theorem same_no (A B : List Int) (hl : A.length = B.length) (hA : A.length ≤ 140737488355000) (hne : mo A B A.length ≠ 0) : Con Tryz.prog 102 [.s (.fzi .u8 A), .s (.fzi .u8 B)] [] (.s (.bool false)) [] := by
 have h := same_c A B hl hA
 rwa [show decide (mo A B A.length = 0) = false from decide_eq_false hne] at h
theorem lane_n (B : List Int) (h : 29 ≤ B.length) (h2 : B.length ≤ 2048) (h9 : B.getD 0 0 = 9) (hU : U8' B) : Con Tryz.prog 24 [.s (.fzi .u8 B)] [] (.tup [.s (.int .u32 ((laneB B : Nat) : Int)), .s (.int .i64 0)]) [] := by
 have h1 := lane_ok_c B h h2 h9
 rwa [lane_form hU h] at h1

end Go.Proofs.X
end

section
set_option maxRecDepth 100000
set_option maxHeartbeats 4000000
open Go Go.Bx Go.Proofs
namespace Go.Proofs.X
attribute [local irreducible] SB BK ks
theorem streamM_c (key first B : List Int) (hk8 : U8 key) (hf : first.length = 16) (hf8 : U8 first) (h0 : 0 < B.length) (hB : B.length ≤ 140737488355000) : Con Tryz.prog 9 [.agg [.ints .u8 16 key], .agg [.ints .u8 16 first], .s (.fzi .u8 B)] [] (.s (.slice 0 0 0 B.length B.length)) [some ⟨true, [.ints .u8 B.length (streamI key first B)]⟩] := by
 refine con_in 67 Tryz.func9 rfl rfl (m := 0) rfl ?_
 intro E hP hn hE
 refine qz hP hn ?_
 refine s_op k_bx ?_
 refine s_op k_bx ?_
 refine s_op k_as ?_
 refine s_nil trivial (n_wp (w_seq (qz hP hn ?_)))
 refine o3 ?_
 refine s_nil trivial (n_wp ?_)
 refine w_F rfl ?_ 
 refine w_skip (n_wp (qz hP hn ?_))
 refine s_op k_ld ?_
 refine s_op (k_call [] (con := machine_c key hk8)) ?_
 refine s_op k_as ?_
 refine qx hP hn ?_
 refine o2 ?_
 refine s_op k_mk ?_
 refine s_op k_as ?_
 refine s_nil trivial (n_wp (w_seq (qz hP hn ?_)))
 refine s_op k_as ?_
 refine s_nil trivial (n_wp (w_block ?_))
 refine c_loop (fun m T H => ∃ q, m = B.length + 16 - 16 * q ∧ 16 * q < B.length + 16 ∧ T = [(2, .s (.fzi .u8 B)), (4, .s (.ptr 1 0 0)), (7, .s (.fptr 688 (cellsF [.ints .u8 256 SB, .ints .u8 256 BK, .ints .u8 176 (keysOf key)]) 0 0)), (8, .s (.slice 2 0 0 B.length B.length)), (9, .s (.int .i64 ((16 * q : Nat) : Int)))] ∧ H = [some ⟨true, [.ints .u8 16 key]⟩, some ⟨true, [.ints .u8 16 (ctr first q)]⟩, some ⟨true, [.ints .u8 B.length (strN key first B B.length q)]⟩]) (B.length + 16) ⟨0, by omega, by omega, rfl, rfl⟩ (wk hE []) ?_
 rintro n_ T_ H_ ⟨q, rfl, hq, rfl, rfl⟩
 have hcl := (ctr_len first q).trans hf
 have hc8 := U8_ctr hf8 q
 have hol := strN_len key first B B.length q
 refine w_seq (qz hP hn ?_)
 refine o4 ?_
 refine s_nil trivial (n_wp ?_)
 refine w_if rfl (fun h_t24 => ?_) (fun h_t24 => ?_)
 · have hq1 : 16 * q < B.length := h_t24
   refine w_skip (n_wp (w_seq (w_block (qz hP hn ?_))))
   refine o2 ?_
   refine s_op (k_call [] (con := block_c key (ctr first q) hcl hc8)) ?_
   refine s_op k_al ?_
   refine s_st k_st ?_
   refine s_nil trivial (n_wp (w_seq (qz hP hn ?_)))
   refine o2 ?_
   refine s_nil trivial (n_wp (w_block ?_))
   refine c_loop (fun m T H => ∃ r, r ≤ min 16 (B.length - 16 * q) ∧ m = min 16 (B.length - 16 * q) - r ∧ T = [(2, .s (.fzi .u8 B)), (4, .s (.ptr 1 0 0)), (7, .s (.fptr 688 (cellsF [.ints .u8 256 SB, .ints .u8 256 BK, .ints .u8 176 (keysOf key)]) 0 0)), (8, .s (.slice 2 0 0 B.length B.length)), (9, .s (.int .i64 ((16 * q : Nat) : Int))), (10, .s (.ptr 3 0 0)), (11, .s (.int .i64 ((16 * q + r : Nat) : Int)))] ∧ H = [some ⟨true, [.ints .u8 16 key]⟩, some ⟨true, [.ints .u8 16 (ctr first q)]⟩, some ⟨true, [.ints .u8 B.length (str1 B (blockI key (ctr first q)) (strN key first B B.length q) (16 * q) r)]⟩, some ⟨true, [.ints .u8 16 (blockI key (ctr first q))]⟩]) (min 16 (B.length - 16 * q)) ⟨0, by omega, rfl, rfl, rfl⟩ (wk hE []) ?_
   rintro n_ T_ H_ ⟨r, hr, rfl, rfl, rfl⟩
   have hs1 := (str1_len B (blockI key (ctr first q)) (strN key first B B.length q) (16 * q) r).trans hol
   refine w_seq (qz hP hn ?_)
   refine o3 ?_
   refine o2 ?_
   refine s_op (k_min (by exact l_min (r := ((min (16 * q + 16) B.length : Nat) : Int)) rfl rfl (by split <;> omega))) ?_
   refine s_op k_lss ?_
   refine s_nil trivial (n_wp ?_)
   refine w_if rfl (fun h_t37 => ?_) (fun h_t37 => ?_)
   · refine w_skip (n_wp (w_seq (w_block ?_)))
     refine g_any hP hn ?_
     refine o4 ?_
     refine o4 ?_
     refine o3 ?_
     refine o2 ?_
     refine s_st k_st ?_
     refine s_nil (by kernel_rfl) ?_
     refine n_blo (n_wp (g_reg hP hn ?_))
     refine o3 ?_
     refine s_nil trivial ?_
     exact n_round (min 16 (B.length - 16 * q) - (r + 1)) (by omega) ⟨r + 1, by omega, rfl, rfl, rfl⟩ (wk hE [])
   · have hrm : r = min 16 (B.length - 16 * q) := by omega
     rw [show str1 B (blockI key (ctr first q)) (strN key first B B.length q) (16 * q) r = (strN key first B B.length (q + 1)) by rw [hrm, strN]]
     have hcn : incF (ctr first q) 16 = ctr first (q + 1) := rfl
     refine w_exit (x_thn (x_thn (x_eq (n_wp (qz hP hn ?_)))))
     refine s_op k_as ?_
     refine s_nil trivial (n_wp (w_block ?_))
     refine c_loop (fun m T H => ∃ (t : Nat) (l : List Int) (z : Int), t ≤ 16 ∧ m = t ∧ l.length = 16 ∧ incF l t = ctr first (q + 1) ∧ z = (t : Int) - 1 ∧ T = [(2, .s (.fzi .u8 B)), (4, .s (.ptr 1 0 0)), (7, .s (.fptr 688 (cellsF [.ints .u8 256 SB, .ints .u8 256 BK, .ints .u8 176 (keysOf key)]) 0 0)), (8, .s (.slice 2 0 0 B.length B.length)), (9, .s (.int .i64 ((16 * q : Nat) : Int))), (12, .s (.int .i64 z))] ∧ H = [some ⟨true, [.ints .u8 16 key]⟩, some ⟨true, [.ints .u8 16 l]⟩, some ⟨true, [.ints .u8 B.length (strN key first B B.length (q + 1))]⟩]) (16) ⟨16, (ctr first q), 15, by omega, rfl, hcl, hcn, by omega, rfl, rfl⟩ (wk hE []) ?_
     rintro n_ T_ H_ ⟨t, l, z, ht, hmt, hll, hinc, hz, rfl, rfl⟩
     refine w_seq (qz hP hn ?_)
     refine o2 ?_
     refine s_nil trivial (n_wp ?_)
     refine w_if rfl (fun h_t54 => ?_) (fun h_t54 => ?_)
     · obtain ⟨i, rfl⟩ : ∃ i, t = i + 1 := ⟨t - 1, by omega⟩
       have hzi : z = ((i : Nat) : Int) := by omega
       subst hzi
       refine w_skip (n_wp (w_seq (w_block (qz hP hn ?_))))
       refine s_op k_mv ?_
       refine s_op (k_ix (by exact a_ixp (hj := ⟨rfl⟩) rfl rfl (by omega))) ?_
       refine o3 ?_
       refine s_st k_st ?_
       refine qx hP hn ?_
       refine o4 ?_
       refine s_nil trivial (n_wp ?_)
       refine w_if rfl (fun h_t65 => ?_) (fun h_t65 => ?_)
       · have hfin : l.set i (IntKind.u8.wrap (l.getD i 0 + 1)) = ctr first (q + 1) := by rw [← hinc, incF, if_neg h_t65]
         rw [hfin]
         refine w_exit (x_ne rfl (x_thn (x_thn (x_eq (n_blo (n_wp (g_reg hP hn ?_)))))))
         refine o3 ?_
         refine s_nil trivial ?_
         exact n_round (B.length + 16 - 16 * (q + 1)) (by omega) ⟨q + 1, rfl, by omega, rfl, rfl⟩ (wk hE [])
       · have hinc2 : incF (l.set i (IntKind.u8.wrap (l.getD i 0 + 1))) i = ctr first (q + 1) := by rw [← hinc, incF, if_pos (Decidable.not_not.1 h_t65)]
         refine w_skip (n_blo (n_wp (g_reg hP hn ?_)))
         refine s_op k_mv ?_
         refine s_op (k_sub (by exact l_bin rfl rfl (b_sub (wrap_i64 (by omega))))) ?_
         refine s_op k_as ?_
         refine s_nil trivial ?_
         exact n_round i (by omega) ⟨i, _, (i : Int) - 1, by omega, rfl, (by simp [hll] : (l.set i (IntKind.u8.wrap (l.getD i 0 + 1))).length = 16), hinc2, rfl, rfl, rfl⟩ (wk hE [])
     · have ht0 : t = 0 := by omega
       subst ht0
       have hfin : l = ctr first (q + 1) := hinc
       rw [hfin]
       refine w_exit (x_thn (x_thn (x_eq (n_blo (n_wp (g_reg hP hn ?_))))))
       refine o3 ?_
       refine s_nil trivial ?_
       exact n_round (B.length + 16 - 16 * (q + 1)) (by omega) ⟨q + 1, rfl, by omega, rfl, rfl⟩ (wk hE [])
 · have hqe : q = (B.length + 15) / 16 := by omega
   rw [show strN key first B B.length q = streamI key first B by rw [hqe, streamI]]
   have hsl : (streamI key first B).length = B.length := strN_len _ _ _ _ _
   refine w_exit (x_thn (x_thn (x_eq (n_wp (qz hP hn ?_)))))
   refine o2 ?_
   refine s_nil trivial (n_wp (w_ret ?_))
   exact d_ret hP hn hE [2] (by first | exact r_tmp Tryz.results9 | exact r_tmpa Tryz.results9)

theorem streamE_c (key first : List Int) : Con Tryz.prog 9 [.agg [.ints .u8 16 key], .agg [.ints .u8 16 first], .s (.fzi .u8 [])] [] (.s .nils) [] := by
 refine con_in 67 Tryz.func9 rfl rfl (m := 0) rfl ?_
 intro E hP hn hE
 refine qz hP hn ?_
 refine s_op k_bx ?_
 refine s_op k_bx ?_
 refine s_op k_as ?_
 refine s_nil trivial (n_wp (w_seq (qz hP hn ?_)))
 refine o3 ?_
 refine s_nil trivial (n_wp ?_)
 refine w_T rfl ?_ 
 refine qz hP hn ?_
 refine s_op k_as ?_
 refine s_nil trivial (n_wp (w_ret (r_thn ?_)))
 exact d_ret hP hn hE [] (by first | exact r_tmp Tryz.results9 | exact r_tmpa Tryz.results9)

end Go.Proofs.X
end

section
/- What the document's sums compute, on lists; it is what the program's compute. No program. -/
open Go Go.Bx
namespace Go.Proofs.X
def rdI (x : Int) (n : Nat) : Int := orK .u32 (shrK .u32 x n) (shlK .u32 x (32 - n : Nat))
theorem orK_comm32 (a b : Int) : orK .u32 a b = orK .u32 b a := by
  show IntKind.u32.wrap ((BitVec.ofInt 32 a ||| BitVec.ofInt 32 b).toNat : Int) = IntKind.u32.wrap ((BitVec.ofInt 32 b ||| BitVec.ofInt 32 a).toNat : Int)
  rw [BitVec.or_comm]
theorem wrap_u32 {x : Int} (h0 : 0 ≤ x) (h1 : x < 4294967296) : IntKind.u32.wrap x = x := by
  show x % 4294967296 = x
  omega
theorem wrap_u32_bv (x : BitVec 32) : IntKind.u32.wrap (x.toNat : Int) = (x.toNat : Int) := by
  have := x.isLt
  exact wrap_u32 (by omega) (by omega)
theorem ofInt_bv (x : BitVec 32) : BitVec.ofInt 32 (x.toNat : Int) = x := by simp
theorem orK_e (a b : Int) : orK .u32 a b = ((BitVec.ofInt 32 a ||| BitVec.ofInt 32 b).toNat : Int) := wrap_u32_bv _
theorem andK_e (a b : Int) : andK .u32 a b = ((BitVec.ofInt 32 a &&& BitVec.ofInt 32 b).toNat : Int) := wrap_u32_bv _
theorem xorK_e (a b : Int) : xorK .u32 a b = ((BitVec.ofInt 32 a ^^^ BitVec.ofInt 32 b).toNat : Int) := wrap_u32_bv _
theorem xorK_0 (a b : Int) : xorK .u32 0 (orK .u32 a b) = orK .u32 a b := by
  rw [xorK_e, orK_e, ofInt_bv]; simp
theorem rot_rd (x : Int) (n : Nat) (k : Int) (h1 : rs k = ((32 - n : Nat) : Int)) (h2 : IntKind.u64.wrap (32 - rs k) = (n : Int)) : rotI x k = rdI x n := by
  rw [rotI, h1] 
  rw [h1] at h2
  rw [h2, orK_comm32, rdI]
theorem dn2 (x : Int) (a b : Nat) (ha : rotI x (IntKind.i64.wrap (0 - (a : Int))) = rdI x a) (hb : rotI x (IntKind.i64.wrap (0 - (b : Int))) = rdI x b) : dnI x [(a : Int), (b : Int)] 2 = xorK .u32 (rdI x a) (rdI x b) := by
  have e : dnI x [(a : Int), (b : Int)] 2 = xorK .u32 (xorK .u32 0 (rotI x (IntKind.i64.wrap (0 - (a : Int))))) (rotI x (IntKind.i64.wrap (0 - (b : Int)))) := rfl
  rw [e, ha, hb, rdI, xorK_0]
theorem dn3 (x : Int) (a b c : Nat) (ha : rotI x (IntKind.i64.wrap (0 - (a : Int))) = rdI x a) (hb : rotI x (IntKind.i64.wrap (0 - (b : Int))) = rdI x b) (hc : rotI x (IntKind.i64.wrap (0 - (c : Int))) = rdI x c) : dnI x [(a : Int), (b : Int), (c : Int)] 3 = xorK .u32 (xorK .u32 (rdI x a) (rdI x b)) (rdI x c) := by
  have e : dnI x [(a : Int), (b : Int), (c : Int)] 3 = xorK .u32 (xorK .u32 (xorK .u32 0 (rotI x (IntKind.i64.wrap (0 - (a : Int))))) (rotI x (IntKind.i64.wrap (0 - (b : Int))))) (rotI x (IntKind.i64.wrap (0 - (c : Int)))) := rfl
  rw [e, ha, hb, hc, rdI, xorK_0]
theorem rsv {n : Nat} (h : (rs (IntKind.i64.wrap (0 - (n : Int))) == ((32 - n : Nat) : Int) && IntKind.u64.wrap (32 - rs (IntKind.i64.wrap (0 - (n : Int)))) == (n : Int)) = true) (x : Int) : rotI x (IntKind.i64.wrap (0 - (n : Int))) = rdI x n := by
  simp only [Bool.and_eq_true, beq_iff_eq] at h
  exact rot_rd x n _ h.1 h.2
theorem dn_7_18 (x : Int) : dnI x [7, 18] 2 = xorK .u32 (rdI x 7) (rdI x 18) := dn2 x 7 18 (rsv (by decide +kernel) x) (rsv (by decide +kernel) x)
theorem dn_17_19 (x : Int) : dnI x [17, 19] 2 = xorK .u32 (rdI x 17) (rdI x 19) := dn2 x 17 19 (rsv (by decide +kernel) x) (rsv (by decide +kernel) x)
theorem dn_6 (x : Int) : dnI x [6, 11, 25] 3 = xorK .u32 (xorK .u32 (rdI x 6) (rdI x 11)) (rdI x 25) := dn3 x 6 11 25 (rsv (by decide +kernel) x) (rsv (by decide +kernel) x) (rsv (by decide +kernel) x)
theorem dn_2 (x : Int) : dnI x [2, 13, 22] 3 = xorK .u32 (xorK .u32 (rdI x 2) (rdI x 13)) (rdI x 22) := dn3 x 2 13 22 (rsv (by decide +kernel) x) (rsv (by decide +kernel) x) (rsv (by decide +kernel) x)
theorem ch_eq (e f g : Int) : xorK .u32 (andK .u32 e f) (andK .u32 (comK .u32 e) g) = orK .u32 (andK .u32 e f) (andK .u32 (comK .u32 e) g) := by
  rw [xorK_e, orK_e, andK_e, andK_e, ofInt_bv, ofInt_bv]
  have hc : BitVec.ofInt 32 (comK .u32 e) = ~~~ BitVec.ofInt 32 e := by
    show BitVec.ofInt 32 (xorK .u32 4294967295 e) = _
    rw [xorK_e, ofInt_bv, show BitVec.ofInt 32 4294967295 = BitVec.allOnes 32 from rfl, BitVec.allOnes_xor]
  rw [hc]
  congr 2
  ext i hi
  simp
  cases (BitVec.ofInt 32 e)[i] <;> simp
theorem maj_eq (a b c : Int) : orK .u32 (orK .u32 (andK .u32 a b) (andK .u32 a c)) (andK .u32 b c) = xorK .u32 (andK .u32 a (xorK .u32 b c)) (andK .u32 b c) := by
  simp only [xorK_e, orK_e, andK_e, ofInt_bv]
  congr 2
  ext i hi
  simp
  cases (BitVec.ofInt 32 a)[i] <;> cases (BitVec.ofInt 32 b)[i] <;> cases (BitVec.ofInt 32 c)[i] <;> rfl
def be4 (b : List Int) (t : Nat) : Int := orK .u32 (orK .u32 (orK .u32 (shlK .u32 (IntKind.u32.wrap (b.getD (4 * t) 0)) 24) (shlK .u32 (IntKind.u32.wrap (b.getD (4 * t + 1) 0)) 16)) (shlK .u32 (IntKind.u32.wrap (b.getD (4 * t + 2) 0)) 8)) (IntKind.u32.wrap (b.getD (4 * t + 3) 0))
def w1L (b : List Int) : Nat → List Int
  | 0 => z 64
  | i + 1 => (w1L b i).set i (be4 b i)
theorem w1L_len (b : List Int) (i : Nat) : (w1L b i).length = 64 := by
  induction i with
  | zero => exact z_len _
  | succ i ih => rw [w1L, List.length_set, ih]
def sch (w : List Int) (j : Nat) : Int := IntKind.u32.wrap (IntKind.u32.wrap (IntKind.u32.wrap (w.getD j 0 + w.getD (j + 9) 0) + xorK .u32 (xorK .u32 (rdI (w.getD (j + 1) 0) 7) (rdI (w.getD (j + 1) 0) 18)) (shrK .u32 (w.getD (j + 1) 0) 3)) + xorK .u32 (xorK .u32 (rdI (w.getD (j + 14) 0) 17) (rdI (w.getD (j + 14) 0) 19)) (shrK .u32 (w.getD (j + 14) 0) 10))
def w2L (b : List Int) : Nat → List Int
  | 0 => w1L b 16
  | j + 1 => (w2L b j).set (j + 16) (sch (w2L b j) j)
theorem w2L_len (b : List Int) (j : Nat) : (w2L b j).length = 64 := by
  induction j with
  | zero => exact w1L_len _ _
  | succ i ih => rw [w2L, List.length_set, ih]
def rT (l : List Int) (k x : Int) : Int := IntKind.u32.wrap (IntKind.u32.wrap (IntKind.u32.wrap (IntKind.u32.wrap (l.getD 7 0 + xorK .u32 (xorK .u32 (rdI (l.getD 4 0) 6) (rdI (l.getD 4 0) 11)) (rdI (l.getD 4 0) 25)) + xorK .u32 (andK .u32 (l.getD 4 0) (l.getD 5 0)) (andK .u32 (comK .u32 (l.getD 4 0)) (l.getD 6 0))) + k) + x)
def rU (l : List Int) : Int := IntKind.u32.wrap (xorK .u32 (xorK .u32 (rdI (l.getD 0 0) 2) (rdI (l.getD 0 0) 13)) (rdI (l.getD 0 0) 22) + orK .u32 (orK .u32 (andK .u32 (l.getD 0 0) (l.getD 1 0)) (andK .u32 (l.getD 0 0) (l.getD 2 0))) (andK .u32 (l.getD 1 0) (l.getD 2 0)))
def rrd (l : List Int) (k x : Int) : List Int := [IntKind.u32.wrap (rT l k x + rU l), l.getD 0 0, l.getD 1 0, l.getD 2 0, IntKind.u32.wrap (l.getD 3 0 + rT l k x), l.getD 4 0, l.getD 5 0, l.getD 6 0]
theorem rT_eq (l : List Int) (k x : Int) : rT l k x = rP l k x := by rw [rT, rP, dn_6, ch_eq]
theorem rU_eq (l : List Int) : rU l = rQ l := by rw [rU, rQ, dn_2, maj_eq]
theorem rrd_eq (l : List Int) (k x : Int) (hl : l.length = 8) : rrd l k x = rnd l k x := by
  rw [rrd, rT_eq, rU_eq]
  match l, hl with
  | [a, b, c, d, e, f, g, h], _ => rfl
def rl (h W : List Int) : Nat → List Int
  | 0 => h
  | i + 1 => rrd (rl h W i) (KS.getD i 0) (W.getD i 0)
theorem rl_len (h W : List Int) (hh : h.length = 8) (i : Nat) : (rl h W i).length = 8 := by
  cases i with
  | zero => exact hh
  | succ i => rfl
def rblk (h b : List Int) : List Int := fin h (rl h (w2L b 48) 64) 8
def wv (b : List Int) (t : Nat) : Int := (ws b (t + 1)).getD (t % 16) 0
theorem getI_be4 {b : List Int} (hu : U8' b) (hb : b.length = 64) (t : Nat) (ht : t < 16) : IntKind.u32.wrap (getI ((b.drop (4 * t)).take (64 - 4 * t)) 4) = be4 b t := by
  have hu2 : U8' ((b.drop (4 * t)).take (64 - 4 * t)) := U8'_take (U8'_drop hu _) _
  rw [getI_n hu2 4 (by omega) (by rw [List.length_take, List.length_drop]; omega)]
  have hg : ∀ i, i < 4 → ((b.drop (4 * t)).take (64 - 4 * t)).getD i 0 = b.getD (4 * t + i) 0 := fun i hi => by rw [getD_take' _ _ _ (by omega), getD_drop']
  have e : gN ((b.drop (4 * t)).take (64 - 4 * t)) 4 = 256 * (256 * (256 * (256 * 0 + (b.getD (4 * t + 0) 0).toNat) + (b.getD (4 * t + 1) 0).toNat) + (b.getD (4 * t + 2) 0).toNat) + (b.getD (4 * t + 3) 0).toNat := by
    simp only [gN, hg 0 (by omega), hg 1 (by omega), hg 2 (by omega), hg 3 (by omega)]
  rw [e, be4, Nat.add_zero]
  have h0 := hu (4 * t); have h1 := hu (4 * t + 1); have h2 := hu (4 * t + 2); have h3 := hu (4 * t + 3)
  generalize b.getD (4 * t) 0 = a0 at *
  generalize b.getD (4 * t + 1) 0 = a1 at *
  generalize b.getD (4 * t + 2) 0 = a2 at *
  generalize b.getD (4 * t + 3) 0 = a3 at *
  obtain ⟨n0, rfl⟩ := Int.eq_ofNat_of_zero_le h0.1
  obtain ⟨n1, rfl⟩ := Int.eq_ofNat_of_zero_le h1.1
  obtain ⟨n2, rfl⟩ := Int.eq_ofNat_of_zero_le h2.1
  obtain ⟨n3, rfl⟩ := Int.eq_ofNat_of_zero_le h3.1
  have l0 : n0 < 256 := by omega
  have l1 : n1 < 256 := by omega
  have l2 : n2 < 256 := by omega
  have l3 : n3 < 256 := by omega
  have hs : ∀ (n s : Nat), n < 256 → s ≤ 24 → shlK .u32 (IntKind.u32.wrap (n : Int)) (s : Int) = ((n <<< s : Nat) : Int) := by
    intro n s hn hs
    have hlt : n <<< s < 4294967296 := by
      rw [Nat.shiftLeft_eq]
      calc n * 2 ^ s < 256 * 2 ^ s := Nat.mul_lt_mul_of_pos_right hn (Nat.two_pow_pos s)
        _ ≤ 256 * 2 ^ 24 := Nat.mul_le_mul_left _ (Nat.pow_le_pow_right (by omega) hs)
        _ = 4294967296 := rfl
    rw [wrap_u32 (by omega) (by omega)]
    show IntKind.u32.wrap ((n : Int) * 2 ^ min (s : Int).toNat 32) = _
    rw [show min (s : Int).toNat 32 = s by omega, show ((n : Int) * 2 ^ s) = ((n <<< s : Nat) : Int) by rw [Nat.shiftLeft_eq]; simp]
    exact wrap_u32 (Int.natCast_nonneg _) (Int.ofNat_lt.2 hlt)
  have ho : ∀ (x y : Nat), x < 4294967296 → y < 4294967296 → orK .u32 (x : Int) (y : Int) = ((x ||| y : Nat) : Int) := by
    intro x y hx hy
    rw [orK_e, BitVec.toNat_or, BitVec.toNat_ofInt, BitVec.toNat_ofInt]
    congr 1
    rw [show ((x : Int) % ((2 ^ 32 : Nat) : Int)).toNat = x by omega, show ((y : Int) % ((2 ^ 32 : Nat) : Int)).toNat = y by omega]
  have e24 := hs n0 24 l0 (by omega)
  have e16 := hs n1 16 l1 (by omega)
  have e8 := hs n2 8 l2 (by omega)
  have s24 : n0 <<< 24 = n0 * 16777216 := Nat.shiftLeft_eq _ _
  have s16 : n1 <<< 16 = n1 * 65536 := Nat.shiftLeft_eq _ _
  have s8 : n2 <<< 8 = n2 * 256 := Nat.shiftLeft_eq _ _
  have o1 : n0 <<< 24 ||| n1 <<< 16 = n0 <<< 24 + n1 <<< 16 := (Nat.shiftLeft_add_eq_or_of_lt (by rw [s16]; omega) _).symm
  have o2 : (n0 <<< 24 + n1 <<< 16) ||| n2 <<< 8 = n0 <<< 24 + n1 <<< 16 + n2 <<< 8 := by
    have q : n0 <<< 24 + n1 <<< 16 = (n0 * 256 + n1) <<< 16 := by rw [s24, s16, Nat.shiftLeft_eq]; omega
    rw [q]; exact (Nat.shiftLeft_add_eq_or_of_lt (by rw [s8]; omega) _).symm
  have o3 : (n0 <<< 24 + n1 <<< 16 + n2 <<< 8) ||| n3 = n0 <<< 24 + n1 <<< 16 + n2 <<< 8 + n3 := by
    have q : n0 <<< 24 + n1 <<< 16 + n2 <<< 8 = (n0 * 65536 + n1 * 256 + n2) <<< 8 := by rw [s24, s16, s8, Nat.shiftLeft_eq]; omega
    rw [q]; exact (Nat.shiftLeft_add_eq_or_of_lt (by omega) _).symm
  have e24' : shlK .u32 (IntKind.u32.wrap (n0 : Int)) 24 = ((n0 <<< 24 : Nat) : Int) := e24
  have e16' : shlK .u32 (IntKind.u32.wrap (n1 : Int)) 16 = ((n1 <<< 16 : Nat) : Int) := e16
  have e8' : shlK .u32 (IntKind.u32.wrap (n2 : Int)) 8 = ((n2 <<< 8 : Nat) : Int) := e8
  rw [e24', e16', e8', wrap_u32 (x := (n3 : Int)) (by omega) (by omega), ho _ _ (by rw [s24]; omega) (by rw [s16]; omega), o1, ho _ _ (by rw [s24, s16]; omega) (by rw [s8]; omega), o2, ho _ _ (by rw [s24, s16, s8]; omega) (by omega), o3, s24, s16, s8, wrap_u32 (by omega) (by omega)]
  simp only [Int.toNat_natCast]
  omega
theorem ws_keep (b : List Int) (t i : Nat) (hne : t % 16 ≠ i) : (ws b (t + 1)).getD i 0 = (ws b t).getD i 0 := by
  rw [ws_s]
  have hs : ∀ (l : List Int) (v : Int), (l.set (t % 16) v).getD i 0 = l.getD i 0 := fun l v => by
    simp only [List.getD_eq_getElem?_getD, List.getElem?_set, if_neg hne]
  by_cases h : t < 16
  · rw [wn_lt _ _ h, hs]
  · rw [wn_ge _ _ h, wn3, hs, wn2, hs, wn1, hs]
theorem ws_ring (b : List Int) (t j : Nat) (hj : j < t) (ht : t ≤ j + 16) : (ws b t).getD (j % 16) 0 = wv b j := by
  induction t with
  | zero => omega
  | succ t ih =>
    by_cases h : j = t
    · subst h; rfl
    · rw [ws_keep b t _ (by omega)]
      exact ih (by omega) (by omega)
theorem wv_lt {b : List Int} (hu : U8' b) (hb : b.length = 64) (t : Nat) (ht : t < 16) : wv b t = be4 b t := by
  rw [wv, ws_s, wn_lt _ _ ht, setDI _ _ _ _ (by rw [ws_len]; omega), if_pos rfl]
  exact getI_be4 hu hb t ht
theorem wv_ge (b : List Int) (j : Nat) : wv b (j + 16) = IntKind.u32.wrap (IntKind.u32.wrap (IntKind.u32.wrap (wv b j + xorK .u32 (dnI (wv b (j + 1)) [7, 18] 2) (shrK .u32 (wv b (j + 1)) 3)) + xorK .u32 (dnI (wv b (j + 14)) [17, 19] 2) (shrK .u32 (wv b (j + 14)) 10)) + wv b (j + 9)) := by
  have hl := ws_len b (j + 16)
  have hm : (j + 16) % 16 < 16 := Nat.mod_lt _ (by omega)
  have r0 : (ws b (j + 16)).getD ((j + 16) % 16) 0 = wv b j := by
    rw [show (j + 16) % 16 = j % 16 by omega]; exact ws_ring b _ _ (by omega) (by omega)
  have r1 : (ws b (j + 16)).getD ((j + 16 + 1) % 16) 0 = wv b (j + 1) := by
    rw [show (j + 16 + 1) % 16 = (j + 1) % 16 by omega]; exact ws_ring b _ _ (by omega) (by omega)
  have r14 : (ws b (j + 16)).getD ((j + 16 + 14) % 16) 0 = wv b (j + 14) := by
    rw [show (j + 16 + 14) % 16 = (j + 14) % 16 by omega]; exact ws_ring b _ _ (by omega) (by omega)
  have r9 : (ws b (j + 16)).getD ((j + 16 + 9) % 16) 0 = wv b (j + 9) := by
    rw [show (j + 16 + 9) % 16 = (j + 9) % 16 by omega]; exact ws_ring b _ _ (by omega) (by omega)
  have hs : ∀ (l : List Int) (v : Int) (i : Nat), l.length = 16 → i < 16 → (l.set ((j + 16) % 16) v).getD i 0 = if (j + 16) % 16 = i then v else l.getD i 0 := fun l v i hl hi => by
    simp only [List.getD_eq_getElem?_getD, List.getElem?_set]
    by_cases h : (j + 16) % 16 = i
    · rw [if_pos h, if_pos h, if_pos (by omega)]; rfl
    · rw [if_neg h, if_neg h]
  rw [wv, ws_s, wn_ge _ _ (by omega), wn3, hs _ _ _ (by simp [wn2, wn1, hl]) hm, if_pos rfl, wn2, hs _ _ _ (by simp [wn1, hl]) hm, if_pos rfl, hs _ _ _ (by simp [wn1, hl]) (Nat.mod_lt _ (by omega)), if_neg (by omega), wn1, hs _ _ _ hl hm, if_pos rfl, hs _ _ _ hl (Nat.mod_lt _ (by omega)), if_neg (by omega), r0, r1, r14, r9]
theorem w1L_get {b : List Int} (hu : U8' b) (hb : b.length = 64) (i t : Nat) (hi : i ≤ 16) (ht : t < i) : (w1L b i).getD t 0 = wv b t := by
  induction i with
  | zero => omega
  | succ i ih =>
    rw [w1L, setDI _ _ _ _ (by rw [w1L_len]; omega)]
    by_cases h : i = t
    · subst h; rw [if_pos rfl, wv_lt hu hb _ (by omega)]
    · rw [if_neg h]; exact ih (by omega) (by omega)
theorem w2L_get {b : List Int} (hu : U8' b) (hb : b.length = 64) (j t : Nat) (hj : j ≤ 48) (ht : t < j + 16) : (w2L b j).getD t 0 = wv b t := by
  induction j generalizing t with
  | zero => exact w1L_get hu hb 16 t (by omega) ht
  | succ j ih =>
    rw [w2L, setDI _ _ _ _ (by rw [w2L_len]; omega)]
    by_cases h : j + 16 = t
    · subst h
      rw [if_pos rfl, sch, ih j (by omega) (by omega), ih (j + 9) (by omega) (by omega), ih (j + 1) (by omega) (by omega), ih (j + 14) (by omega) (by omega), wv_ge, dn_7_18, dn_17_19]
      have key : ∀ a c d e : Int, IntKind.u32.wrap (IntKind.u32.wrap (IntKind.u32.wrap (a + c) + d) + e) = IntKind.u32.wrap (IntKind.u32.wrap (IntKind.u32.wrap (a + d) + e) + c) := fun a c d e => by
        show (((a + c) % 4294967296 + d) % 4294967296 + e) % 4294967296 = (((a + d) % 4294967296 + e) % 4294967296 + c) % 4294967296
        omega
      exact key _ _ _ _
    · rw [if_neg h]; exact ih t (by omega) (by omega)
theorem rl_eq {h b : List Int} (hh : h.length = 8) (hu : U8' b) (hb : b.length = 64) (i : Nat) (hi : i ≤ 64) : rl h (w2L b 48) i = ls h b i := by
  induction i with
  | zero => rfl
  | succ i ih => rw [rl, ih (by omega), ls, w2L_get hu hb 48 i (by omega) (by omega), rrd_eq _ _ _ (ls_len _ _ hh _)]; rfl
theorem rblk_eq {h b : List Int} (hh : h.length = 8) (hu : U8' b) (hb : b.length = 64) : rblk h b = aft h b := by
  rw [rblk, rl_eq hh hu hb 64 (by omega), aft]
def rfb (A : List Int) : Nat → List Int
  | 0 => S0
  | k + 1 => aft (rfb A k) ((A.drop (64 * k)).take 64)
theorem rfb_len (A : List Int) (k : Nat) : (rfb A k).length = 8 := by
  induction k with
  | zero => rfl
  | succ k ih => exact aft_len _ _ ih
theorem spl_all (xs ys : List Int) (h : ys.length = 64) : spl xs ys 0 64 64 = ys := by
  refine eqI_n 64 (spl_len _ _ _ _ _) h fun i hi => ?_
  rw [spl_getD _ _ _ _ _ _ hi, if_pos (by omega), Nat.sub_zero]
theorem tk_fb (A : List Int) (n : Nat) (hA : A.length = 64 * n) (k : Nat) (hk : k ≤ n) : (tk run0 (A.take (64 * k))).s = rfb A k ∧ (tk run0 (A.take (64 * k))).m = 0 := by
  induction k with
  | zero => exact ⟨rfl, rfl⟩
  | succ k ih =>
    obtain ⟨h1, h2⟩ := ih (by omega)
    have e : A.take (64 * (k + 1)) = A.take (64 * k) ++ (A.drop (64 * k)).take 64 := by rw [Nat.mul_succ, List.take_add]
    have hl : ((A.drop (64 * k)).take 64).length = 64 := by rw [List.length_take, List.length_drop]; omega
    rw [e, tk_append, tk_chunk _ (tk_ok run0_ok _) _ 64 hl (by rw [h2]; exact Nat.le_refl _) (by omega), chunk, if_pos (by rw [h2])]
    refine ⟨?_, rfl⟩
    show aft _ _ = _
    rw [h2, spl_all _ _ hl, h1]; rfl
theorem tk_m (A : List Int) : (tk run0 A).m = A.length % 64 := by
  have key : ∀ (A : List Int) (q : Run), RunOk q → (tk q A).m = (q.m + A.length) % 64 := by
    intro A
    induction A with
    | nil => intro q h; have := h.m; show q.m = _; simp; omega
    | cons x A ih =>
      intro q h
      have := ih _ (put1_ok h x)
      show (tk (put1 q x) A).m = _
      rw [this]
      have hm := h.m
      have hp : (put1 q x).m = (q.m + 1) % 64 := by
        unfold put1
        split
        · show 0 = _; omega
        · show q.m + 1 = _; omega
      rw [hp, List.length_cons]
      omega
  have := key A run0 run0_ok
  rw [this]
  show (0 + A.length) % 64 = _
  rw [Nat.zero_add]
def rpadN (B : List Int) : Nat := (119 - B.length % 64) % 64
def rpad (B : List Int) : List Int := B ++ [128] ++ List.replicate (rpadN B) 0 ++ be 8 (8 * B.length)
theorem rpad_len (B : List Int) : (rpad B).length = 64 * ((B.length + 1 + rpadN B + 8) / 64) := by
  simp only [rpad, List.length_append, List.length_cons, List.length_nil, List.length_replicate, be_len, rpadN]
  omega
def rob (s : List Int) : Nat → List Int
  | 0 => z 32
  | i + 1 => (rob s i).set i (IntKind.u8.wrap (shrK .u32 (s.getD (i / 4) 0) ((24 - 8 * (i % 4) : Nat) : Int)))
theorem rob_len (s : List Int) (i : Nat) : (rob s i).length = 32 := by
  induction i with
  | zero => exact z_len _
  | succ i ih => rw [rob, List.length_set, ih]
def rsumL (B : List Int) : List Int := rob (rfb (rpad B) ((rpad B).length / 64)) 32
end Go.Proofs.X
end

section
/- The document's sums and sums by a key are the program's. No program. -/
open Go Go.Bx
namespace Go.Proofs.X
theorem wrap32_rng (x : Int) : 0 ≤ IntKind.u32.wrap x ∧ IntKind.u32.wrap x < 4294967296 := by
  show 0 ≤ x % 4294967296 ∧ x % 4294967296 < 4294967296
  omega
theorem fin_rng (s l : List Int) (hl : l.length = 8) (i : Nat) (hi : i ≤ 8) (k : Nat) (hk : k < i) : 0 ≤ (fin s l i).getD k 0 ∧ (fin s l i).getD k 0 < 4294967296 := by
  induction i with
  | zero => omega
  | succ i ih =>
    rw [fin, setDI _ _ _ _ (by rw [fin_len]; omega)]
    by_cases h : i = k
    · rw [if_pos h]; exact wrap32_rng _
    · rw [if_neg h]; exact ih (by omega) (by omega)
theorem rfb_rng (A : List Int) (n k : Nat) (hk : k < 8) : 0 ≤ (rfb A n).getD k 0 ∧ (rfb A n).getD k 0 < 4294967296 := by
  cases n with
  | zero =>
    show 0 ≤ S0.getD k 0 ∧ S0.getD k 0 < 4294967296
    match k, hk with
    | 0, _ => decide
    | 1, _ => decide
    | 2, _ => decide
    | 3, _ => decide
    | 4, _ => decide
    | 5, _ => decide
    | 6, _ => decide
    | 7, _ => decide
  | succ n => exact fin_rng _ _ (ls_len _ _ (rfb_len _ _) _) 8 (by omega) k hk
theorem spl_alln (xs ys : List Int) (n : Nat) (h : ys.length = n) : spl xs ys 0 n n = ys := by
  refine eqI_n n (spl_len _ _ _ _ _) h fun i hi => ?_
  rw [spl_getD _ _ _ _ _ _ hi, if_pos (by omega), Nat.sub_zero]
theorem be4_get (v j : Nat) (hj : j < 4) : (be 4 v).getD j 0 = IntKind.u8.wrap (shrK .u32 (v : Int) ((24 - 8 * j : Nat) : Int)) := by
  rw [be_get 4 v j hj]
  have e : shrK .u32 (v : Int) ((24 - 8 * j : Nat) : Int) = ((v / 2 ^ (24 - 8 * j) : Nat) : Int) := by
    show ((v : Int).fdiv (2 ^ min ((24 - 8 * j : Nat) : Int).toNat 32)) = _
    rw [show min ((24 - 8 * j : Nat) : Int).toNat 32 = 24 - 8 * j by omega]
    rw [Int.fdiv_eq_ediv_of_nonneg _ (Int.le_of_lt (Int.pow_pos (by omega)))]
    simp
  rw [e, wrap8]
  congr 2
  match j, hj with
  | 0, _ => rfl
  | 1, _ => rfl
  | 2, _ => rfl
  | 3, _ => rfl
theorem ob_get (s : List Int) (hr : ∀ k, k < 8 → 0 ≤ s.getD k 0 ∧ s.getD k 0 < 4294967296) (i : Nat) (hi : i ≤ 8) (k : Nat) (hk : k < 4 * i) : (ob s i).getD k 0 = IntKind.u8.wrap (shrK .u32 (s.getD (k / 4) 0) ((24 - 8 * (k % 4) : Nat) : Int)) := by
  induction i with
  | zero => omega
  | succ i ih =>
    obtain ⟨h0, h1⟩ := hr i (by omega)
    obtain ⟨v, hv⟩ := Int.eq_ofNat_of_zero_le h0
    have e := rowL_1 (ob s i) 4 v (by omega) (by omega)
    rw [ob_len] at e
    rw [ob, hv, wrap64' (by omega), e, getD_app, ob_len]
    by_cases h : k < 4 * i
    · rw [if_pos h]; exact ih (by omega) h
    · rw [if_neg h, be4_get _ _ (by omega), show k / 4 = i by omega, show k % 4 = k - 4 * i by omega, hv]
theorem rob_get (s : List Int) (i k : Nat) (hi : i ≤ 32) (hk : k < i) : (rob s i).getD k 0 = IntKind.u8.wrap (shrK .u32 (s.getD (k / 4) 0) ((24 - 8 * (k % 4) : Nat) : Int)) := by
  induction i with
  | zero => omega
  | succ i ih =>
    rw [rob, setDI _ _ _ _ (by rw [rob_len]; omega)]
    by_cases h : i = k
    · subst h; rw [if_pos rfl]
    · rw [if_neg h]; exact ih (by omega) (by omega)
theorem rr8 (n : Nat) (h : n < 18446744073709551616) : rr 8 8 1 [(n : Int)] 1 = be 8 n := rowL_1 [] 8 n (by omega) h
theorem rsum_eq (B : List Int) (hl : B.length < 2305843009213693952) : rsumL B = sumL (tk run0 B) B.length := by
  have hq : sumQ (tk run0 B) B.length = tk run0 (rpad B) := by
    rw [sumQ, tk_m, rpad, tk_append, tk_append, tk_append, rpadN, show (8 * ((B.length : Nat) : Int)) = ((8 * B.length : Nat) : Int) by omega, wrap64' (by omega), rr8 _ (by omega)]
  have hp := rpad_len B
  have ht := tk_fb (rpad B) _ hp _ (Nat.le_refl _)
  rw [← hp, List.take_length] at ht
  have hn : (rpad B).length / 64 = (B.length + 1 + rpadN B + 8) / 64 := by omega
  have hob : (ob (rfb (rpad B) ((B.length + 1 + rpadN B + 8) / 64)) 8).length = 32 := ob_len _ _
  rw [rsumL, sumL, hq, ht.1, hn, List.take_of_length_le (by rw [hob]; exact Nat.le_refl _), spl_alln _ _ _ hob]
  refine eqI_n 32 (rob_len _ _) hob fun k hk => ?_
  rw [rob_get _ _ _ (Nat.le_refl _) hk, ob_get _ (fun j hj => rfb_rng _ _ _ hj) 8 (Nat.le_refl _) _ hk]
def rmac (K A : List Int) : List Int := rsumL (xk (k64 K) 92 64 ++ rsumL (xk (k64 K) 54 64 ++ A))
theorem rsumL_len (B : List Int) : (rsumL B).length = 32 := rob_len _ _
theorem xk64_len (K : List Int) (v : Int) : (xk (k64 K) v 64).length = 64 := by rw [xk_len, k64_len]
theorem rmac_eq (K A : List Int) (hl : A.length < 2305843009213690000) : rmac K A = hmO K (tk (hmI K) A) (64 + A.length) := by
  rw [rmac, hmO, hmI, ← tk_append, ← tk_append]
  have e1 : rsumL (xk (k64 K) 54 64 ++ A) = sumL (tk run0 (xk (k64 K) 54 64 ++ A)) (64 + A.length) := by
    rw [rsum_eq _ (by rw [List.length_append, xk64_len]; omega), List.length_append, xk64_len]
  rw [← e1, rsum_eq _ (by rw [List.length_append, xk64_len, rsumL_len]; omega), List.length_append, xk64_len, rsumL_len]
end Go.Proofs.X
end

section
open Go Go.Bx Go.Proofs
namespace Go.Proofs.X
set_option maxRecDepth 100000
set_option maxHeartbeats 4000000
theorem round_c (x : Int) (n : Nat) (hm : n ≤ 32) : Con Tryz.prog 173 [.s (.int .u32 x), .s (.int .u64 ((n : Nat) : Int))] [] (.s (.int .u32 (rdI x n))) [] := by
 refine con_in 13 Tryz.func173 rfl rfl (m := 0) rfl ?_
 intro E hP hn hE
 refine w_seq ?_
 refine g_reg hP hn ?_
 refine s_op k_as ?_
 refine s_nil trivial ?_
 refine n_wp ?_
 refine w_seq ?_
 refine g_reg hP hn ?_
 refine s_op k_mv ?_
 refine s_op k_mv ?_
 refine s_op k_shr ?_
 refine s_op k_mv ?_
 refine s_op k_mv ?_
 refine s_op (k_sub (by exact l_bin rfl rfl (b_sub (r := ((32 - n : Nat) : Int)) (by show (32 - (n : Int)) % 18446744073709551616 = ((32 - n : Nat) : Int); omega)))) ?_
 refine s_op k_shl ?_
 refine s_op k_or ?_
 refine s_op k_as ?_
 refine s_nil trivial ?_
 refine n_wp ?_
 refine w_ret ?_
 exact d_ret hP hn hE [] (by first | exact r_tmp Tryz.results173 | exact r_tmpa Tryz.results173)

theorem table_c : Con Tryz.prog 168 [] [] (.s (.fzi .u32 KS)) [] := by
 refine con_in 2 Tryz.func168 rfl rfl (m := 0) rfl ?_
 intro E hP hn hE
 refine w_seq ?_
 refine g_reg hP hn ?_
 refine s_op k_as ?_
 refine s_nil trivial ?_
 refine n_wp ?_
 refine w_seq ?_
 refine g_reg hP hn ?_
 refine s_op (k_bsK KS) ?_
 refine s_op k_as ?_
 refine s_nil trivial ?_
 refine n_wp ?_
 refine w_ret ?_
 exact d_retw hP hn (r_tmp Tryz.results168) ((frz_sl 0 (l' := KS) (hl := KS_len) (hl' := by rw [List.drop_zero]; exact List.take_of_length_le (Nat.le_refl _))).trans (wk hE []))

theorem rblk_c (h b : List Int) (hh : h.length = 8) (hb : b.length = 64) : Con Tryz.prog 169 [.agg [.ints .u32 8 h], .s (.fzi .u8 b), .s (.fzi .u32 KS)] [] (.agg [.ints .u32 8 (rblk h b)]) [] := by
 refine con_in 195 Tryz.func169 rfl rfl (m := 0) rfl ?_
 intro E hP hn hE
 unfold rblk
 refine w_seq ?_
 refine g_reg hP hn ?_
 refine s_op k_bx ?_
 refine s_op k_al ?_
 refine s_nil trivial ?_
 refine n_wp ?_
 refine w_seq ?_
 refine g_reg hP hn ?_
 refine s_op k_al ?_
 refine s_nil trivial ?_
 refine n_wp ?_
 refine w_seq ?_
 refine w_seq ?_
 refine g_reg hP hn ?_
 refine s_op k_as ?_
 refine s_nil trivial ?_
 refine n_wp ?_
 refine w_block ?_
 refine c_loop (fun m_ T H => ∃ i : Nat, i ≤ 16 ∧ m_ = 16 - i ∧ T = [(1, .s (.fzi .u8 b)), (2, .s (.fzi .u32 KS)), (3, .s (.ptr 0 0 0)), (6, .s (.ptr 1 0 0)), (7, .s (.ptr 2 0 0)), (8, .s (.int .i64 ((i : Nat) : Int)))] ∧ H = [some ⟨true, [.ints .u32 8 h]⟩, some ⟨true, [.ints .u32 8 (z 8)]⟩, some ⟨true, [.ints .u32 64 (w1L b i)]⟩]) (16) ⟨0, by omega, rfl, rfl, rfl⟩ (wk hE [0, 1, 2]) ?_
 rintro n_ T_ H_ ⟨i, hi, rfl, rfl, rfl⟩
 have hwl := w1L_len b i
 refine w_seq ?_
 refine w_seq ?_
 refine g_reg hP hn ?_
 refine s_op k_mv ?_
 refine s_op k_lss ?_
 refine s_nil trivial ?_
 refine n_wp ?_
 refine w_if rfl (fun h_t20 => ?_) (fun h_t20 => ?_)
 · skip
   refine w_skip ?_
   refine n_wp ?_
   refine w_seq ?_
   refine w_block ?_
   refine g_any hP hn ?_
   refine s_op k_mv ?_
   refine s_op k_mv ?_
   refine s_op k_mv ?_
   refine s_op k_mul ?_
   refine s_op k_ix ?_
   refine s_op k_ld ?_
   refine s_op (k_cv (by exact a_conv rfl rfl)) ?_
   refine s_op k_shl ?_
   refine s_op k_mv ?_
   refine s_op k_mv ?_
   refine s_op k_mul ?_
   refine s_op k_add ?_
   refine s_op k_ix ?_
   refine s_op k_ld ?_
   refine s_op (k_cv (by exact a_conv rfl rfl)) ?_
   refine s_op k_shl ?_
   refine s_op k_or ?_
   refine s_op k_mv ?_
   refine s_op k_mv ?_
   refine s_op k_mul ?_
   refine s_op k_add ?_
   refine s_op k_ix ?_
   refine s_op k_ld ?_
   refine s_op (k_cv (by exact a_conv rfl rfl)) ?_
   refine s_op k_shl ?_
   refine s_op k_or ?_
   refine s_op k_mv ?_
   refine s_op k_mv ?_
   refine s_op k_mul ?_
   refine s_op k_add ?_
   refine s_op k_ix ?_
   refine s_op k_ld ?_
   refine s_op (k_cv (by exact a_conv rfl rfl)) ?_
   refine s_op k_or ?_
   refine s_op k_ix ?_
   refine s_st k_st ?_
   refine s_nil (by kernel_rfl) ?_
   refine n_blo ?_
   refine n_wp ?_
   refine g_reg hP hn ?_
   refine s_op k_mv ?_
   refine s_op k_add ?_
   refine s_op k_as ?_
   refine s_nil trivial ?_
   exact n_round (16 - (i + 1)) (by omega) ⟨i + 1, by omega, rfl, rfl, rfl⟩ (wk hE [0, 1, 2])
 · skip
   obtain rfl : i = 16 := by omega
   rw [show w1L b 16 = w2L b 0 from rfl]
   refine w_exit ?_
   refine x_thn ?_
   refine x_thn ?_
   refine x_eq ?_
   refine n_wp ?_
   refine w_seq ?_
   refine w_seq ?_
   refine g_reg hP hn ?_
   refine s_op k_as ?_
   refine s_nil trivial ?_
   refine n_wp ?_
   refine w_block ?_
   refine c_loop (fun m_ T H => ∃ j : Nat, j ≤ 48 ∧ m_ = 48 - j ∧ T = [(1, .s (.fzi .u8 b)), (2, .s (.fzi .u32 KS)), (3, .s (.ptr 0 0 0)), (6, .s (.ptr 1 0 0)), (7, .s (.ptr 2 0 0)), (9, .s (.int .i64 ((j + 16 : Nat) : Int)))] ∧ H = [some ⟨true, [.ints .u32 8 h]⟩, some ⟨true, [.ints .u32 8 (z 8)]⟩, some ⟨true, [.ints .u32 64 (w2L b j)]⟩]) (48) ⟨0, by omega, rfl, rfl, rfl⟩ (wk hE [0, 1, 2]) ?_
   rintro n_ T_ H_ ⟨j, hj, rfl, rfl, rfl⟩
   have hwl := w2L_len b j
   refine w_seq ?_
   refine w_seq ?_
   refine g_reg hP hn ?_
   refine s_op k_mv ?_
   refine s_op k_lss ?_
   refine s_nil trivial ?_
   refine n_wp ?_
   refine w_if rfl (fun h_t59 => ?_) (fun h_t59 => ?_)
   · skip
     refine w_skip ?_
     refine n_wp ?_
     refine w_seq ?_
     refine w_block ?_
     refine w_seq ?_
     refine g_reg hP hn ?_
     refine s_op k_mv ?_
     refine s_op (k_sub (by exact l_bin rfl rfl (b_sub (r := ((j + 1 : Nat) : Int)) (by rw [wrap_i64 (by omega)]; omega)))) ?_
     refine s_op k_ix ?_
     refine s_op k_ld ?_
     refine s_op k_as ?_
     refine s_nil trivial ?_
     refine n_wp ?_
     refine w_seq ?_
     refine g_reg hP hn ?_
     refine s_op k_mv ?_
     refine s_op (k_sub (by exact l_bin rfl rfl (b_sub (r := ((j + 14 : Nat) : Int)) (by rw [wrap_i64 (by omega)]; omega)))) ?_
     refine s_op k_ix ?_
     refine s_op k_ld ?_
     refine s_op k_as ?_
     refine s_nil trivial ?_
     refine n_wp ?_
     refine g_any hP hn ?_
     refine s_op k_mv ?_
     refine s_op k_mv ?_
     refine s_op (k_sub (by exact l_bin rfl rfl (b_sub (r := ((j : Nat) : Int)) (by rw [wrap_i64 (by omega)]; omega)))) ?_
     refine s_op k_ix ?_
     refine s_op k_ld ?_
     refine s_op k_mv ?_
     refine s_op (k_sub (by exact l_bin rfl rfl (b_sub (r := ((j + 9 : Nat) : Int)) (by rw [wrap_i64 (by omega)]; omega)))) ?_
     refine s_op k_ix ?_
     refine s_op k_ld ?_
     refine s_op k_add ?_
     refine s_op k_mv ?_
     refine s_op (k_call [] (con := round_c _ 7 (by decide))) ?_
     refine s_op k_mv ?_
     refine s_op (k_call [] (con := round_c _ 18 (by decide))) ?_
     refine s_op k_xor ?_
     refine s_op k_mv ?_
     refine s_op k_shr ?_
     refine s_op k_xor ?_
     refine s_op k_add ?_
     refine s_op k_mv ?_
     refine s_op (k_call [] (con := round_c _ 17 (by decide))) ?_
     refine s_op k_mv ?_
     refine s_op (k_call [] (con := round_c _ 19 (by decide))) ?_
     refine s_op k_xor ?_
     refine s_op k_mv ?_
     refine s_op k_shr ?_
     refine s_op k_xor ?_
     refine s_op k_add ?_
     refine s_op k_ix ?_
     refine s_st k_st ?_
     refine s_nil (by kernel_rfl) ?_
     refine n_blo ?_
     refine n_wp ?_
     refine g_reg hP hn ?_
     refine s_op k_mv ?_
     refine s_op k_add ?_
     refine s_op k_as ?_
     refine s_nil trivial ?_
     exact n_round (48 - (j + 1)) (by omega) ⟨j + 1, by omega, rfl, rfl, rfl⟩ (wk hE [0, 1, 2])
   · skip
     obtain rfl : j = 48 := by omega
     generalize w2L b 48 = W at *
     refine w_exit ?_
     refine x_thn ?_
     refine x_thn ?_
     refine x_eq ?_
     refine n_wp ?_
     refine w_seq ?_
     refine g_reg hP hn ?_
     refine s_op k_ld ?_
     refine s_op k_al ?_
     refine s_st k_st ?_
     refine s_nil trivial ?_
     refine n_wp ?_
     refine w_seq ?_
     refine w_seq ?_
     refine g_reg hP hn ?_
     refine s_op k_as ?_
     refine s_nil trivial ?_
     refine n_wp ?_
     refine w_block ?_
     refine c_loop (fun m_ T H => ∃ i : Nat, i ≤ 64 ∧ m_ = 64 - i ∧ T = [(1, .s (.fzi .u8 b)), (2, .s (.fzi .u32 KS)), (3, .s (.ptr 0 0 0)), (6, .s (.ptr 1 0 0)), (7, .s (.ptr 2 0 0)), (12, .s (.ptr 3 0 0)), (13, .s (.int .i64 ((i : Nat) : Int)))] ∧ H = [some ⟨true, [.ints .u32 8 h]⟩, some ⟨true, [.ints .u32 8 (z 8)]⟩, some ⟨true, [.ints .u32 64 W]⟩, some ⟨true, [.ints .u32 8 (rl h W i)]⟩]) (64) ⟨0, by omega, rfl, rfl, rfl⟩ (wk hE [0, 1, 2, 3]) ?_
     rintro n_ T_ H_ ⟨i, hi, rfl, rfl, rfl⟩
     obtain ⟨l, hl⟩ : ∃ l, l = rl h W i := ⟨_, rfl⟩
     have hll : l.length = 8 := hl ▸ rl_len h W hh i
     have hrs : rl h W (i + 1) = rrd l (KS.getD i 0) (W.getD i 0) := by rw [hl]; rfl
     rw [← hl]
     refine w_seq ?_
     refine w_seq ?_
     refine g_reg hP hn ?_
     refine s_op k_mv ?_
     refine s_op k_lss ?_
     refine s_nil trivial ?_
     refine n_wp ?_
     refine w_if rfl (fun h_t101 => ?_) (fun h_t101 => ?_)
     · skip
       refine w_skip ?_
       refine n_wp ?_
       refine w_seq ?_
       refine w_block ?_
       refine w_seq ?_
       refine g_reg hP hn ?_
       refine s_op k_ix ?_
       refine s_op k_ld ?_
       refine s_op k_as ?_
       refine s_nil trivial ?_
       refine n_wp ?_
       refine w_seq ?_
       refine g_reg hP hn ?_
       refine s_op k_ix ?_
       refine s_op k_ld ?_
       refine s_op k_as ?_
       refine s_nil trivial ?_
       refine n_wp ?_
       refine w_seq ?_
       refine g_any hP hn ?_
       refine s_op k_ix ?_
       refine s_op k_ld ?_
       refine s_op k_mv ?_
       refine s_op (k_call [] (con := round_c _ 6 (by decide))) ?_
       refine s_op k_mv ?_
       refine s_op (k_call [] (con := round_c _ 11 (by decide))) ?_
       refine s_op k_xor ?_
       refine s_op k_mv ?_
       refine s_op (k_call [] (con := round_c _ 25 (by decide))) ?_
       refine s_op k_xor ?_
       refine s_op k_add ?_
       refine s_op k_mv ?_
       refine s_op k_ix ?_
       refine s_op k_ld ?_
       refine s_op k_and ?_
       refine s_op k_mv ?_
       refine s_op k_com ?_
       refine s_op k_ix ?_
       refine s_op k_ld ?_
       refine s_op k_and ?_
       refine s_op k_xor ?_
       refine s_op k_add ?_
       refine s_op k_mv ?_
       refine s_op k_mv ?_
       refine s_op (k_ix (by exact a_ixi rfl rfl (by rw [KS_len]; omega))) ?_
       refine s_op k_ld ?_
       refine s_op k_add ?_
       refine s_op k_mv ?_
       refine s_op k_ix ?_
       refine s_op k_ld ?_
       refine s_op k_add ?_
       refine s_op k_as ?_
       refine s_nil (by kernel_rfl) ?_
       refine n_wp ?_
       refine w_seq ?_
       refine g_any hP hn ?_
       refine s_op k_mv ?_
       refine s_op (k_call [] (con := round_c _ 2 (by decide))) ?_
       refine s_op k_mv ?_
       refine s_op (k_call [] (con := round_c _ 13 (by decide))) ?_
       refine s_op k_xor ?_
       refine s_op k_mv ?_
       refine s_op (k_call [] (con := round_c _ 22 (by decide))) ?_
       refine s_op k_xor ?_
       refine s_op k_mv ?_
       refine s_op k_ix ?_
       refine s_op k_ld ?_
       refine s_op k_and ?_
       refine s_op k_mv ?_
       refine s_op k_ix ?_
       refine s_op k_ld ?_
       refine s_op k_and ?_
       refine s_op k_or ?_
       refine s_op k_ix ?_
       refine s_op k_ld ?_
       refine s_op k_ix ?_
       refine s_op k_ld ?_
       refine s_op k_and ?_
       refine s_op k_or ?_
       refine s_op k_add ?_
       refine s_op k_as ?_
       refine s_nil (by kernel_rfl) ?_
       refine n_wp ?_
       refine g_reg hP hn ?_
       refine s_op k_mv ?_
       refine s_op k_mv ?_
       refine s_op k_add ?_
       refine s_op k_mv ?_
       refine s_op k_ix ?_
       refine s_op k_ld ?_
       refine s_op k_ix ?_
       refine s_op k_ld ?_
       refine s_op k_ix ?_
       refine s_op k_ld ?_
       refine s_op k_mv ?_
       refine s_op k_add ?_
       refine s_op k_mv ?_
       refine s_op k_ix ?_
       refine s_op k_ld ?_
       refine s_op k_ix ?_
       refine s_op k_ld ?_
       refine s_op (k_bd (by exact a_buildK (rrd l (KS.getD i 0) (W.getD i 0)) rfl rfl rfl)) ?_
       refine s_st k_st ?_
       refine s_nil trivial ?_
       refine n_blo ?_
       refine n_wp ?_
       refine g_reg hP hn ?_
       refine s_op k_mv ?_
       refine s_op k_add ?_
       refine s_op k_as ?_
       refine s_nil trivial ?_
       rw [← hrs]
       exact n_round (64 - (i + 1)) (by omega) ⟨i + 1, by omega, rfl, rfl, rfl⟩ (wk hE [0, 1, 2, 3])
     · skip
       obtain rfl : i = 64 := by omega
       rw [← hl]
       clear hrs hl
       refine w_exit ?_
       refine x_thn ?_
       refine x_thn ?_
       refine x_eq ?_
       refine n_wp ?_
       refine w_seq ?_
       refine w_seq ?_
       refine g_reg hP hn ?_
       refine s_op k_as ?_
       refine s_nil trivial ?_
       refine n_wp ?_
       refine w_block ?_
       refine c_loop (fun m_ T H => ∃ i : Nat, i ≤ 8 ∧ m_ = 8 - i ∧ T = [(1, .s (.fzi .u8 b)), (2, .s (.fzi .u32 KS)), (3, .s (.ptr 0 0 0)), (6, .s (.ptr 1 0 0)), (7, .s (.ptr 2 0 0)), (12, .s (.ptr 3 0 0)), (18, .s (.int .i64 ((i : Nat) : Int)))] ∧ H = [some ⟨true, [.ints .u32 8 h]⟩, some ⟨true, [.ints .u32 8 (z 8)]⟩, some ⟨true, [.ints .u32 64 W]⟩, some ⟨true, [.ints .u32 8 (fin h l i)]⟩]) (8) ⟨0, by omega, rfl, rfl, rfl⟩ (wk hE [0, 1, 2, 3]) ?_
       rintro n_ T_ H_ ⟨i, hi, rfl, rfl, rfl⟩
       have hfl := (fin_len h l i).trans hll
       refine w_seq ?_
       refine w_seq ?_
       refine g_reg hP hn ?_
       refine s_op k_mv ?_
       refine s_op k_lss ?_
       refine s_nil trivial ?_
       refine n_wp ?_
       refine w_if rfl (fun h_t182 => ?_) (fun h_t182 => ?_)
       · skip
         refine w_skip ?_
         refine n_wp ?_
         refine w_seq ?_
         refine w_block ?_
         refine g_any hP hn ?_
         refine s_op k_mv ?_
         refine s_op k_mv ?_
         refine s_op k_ix ?_
         refine s_op k_ld ?_
         refine s_op k_mv ?_
         refine s_op k_ix ?_
         refine s_op k_ld ?_
         refine s_op k_add ?_
         refine s_op k_ix ?_
         refine s_st k_st ?_
         refine s_nil (by kernel_rfl) ?_
         refine n_blo ?_
         refine n_wp ?_
         refine g_reg hP hn ?_
         refine s_op k_mv ?_
         refine s_op k_add ?_
         refine s_op k_as ?_
         refine s_nil trivial ?_
         exact n_round (8 - (i + 1)) (by omega) ⟨i + 1, by omega, rfl, rfl, rfl⟩ (wk hE [0, 1, 2, 3])
       · skip
         obtain rfl : i = 8 := by omega
         refine w_exit ?_
         refine x_thn ?_
         refine x_thn ?_
         refine x_eq ?_
         refine n_wp ?_
         refine w_seq ?_
         refine g_reg hP hn ?_
         refine s_op k_ld ?_
         refine s_st k_st ?_
         refine s_nil trivial ?_
         refine n_wp ?_
         refine w_ret ?_
         exact d_ret hP hn hE [] (r_cell Tryz.results169)

end Go.Proofs.X
end

section
open Go Go.Bx Go.Proofs
namespace Go.Proofs.X
set_option maxRecDepth 100000
set_option maxHeartbeats 4000000
attribute [local irreducible] rblk rfb rob be KS
theorem rblk_a (h b : List Int) (hh : h.length = 8) (hb : b.length = 64) (hu : U8' b) : Con Tryz.prog 169 [.agg [.ints .u32 8 h], .s (.fzi .u8 b), .s (.fzi .u32 KS)] [] (.agg [.ints .u32 8 (aft h b)]) [] := by
  have c := rblk_c h b hh hb
  rwa [rblk_eq hh hu hb] at c
def padZ (B : List Int) (k : Nat) : List Int := B ++ [128] ++ List.replicate k 0
theorem padZ_len (B : List Int) (k : Nat) : (padZ B k).length = B.length + 1 + k := by simp [padZ]; omega
theorem padZ_s (B : List Int) (k : Nat) : (padZ B k).take (B.length + 1 + k) ++ [0] = padZ B (k + 1) := by
  rw [List.take_of_length_le (by rw [padZ_len]; exact Nat.le_refl _), padZ, padZ, List.replicate_succ', ← List.append_assoc]
theorem be8_s (n i : Nat) (hi : i < 8) : IntKind.u8.wrap ((n / 2 ^ (56 - 8 * i) : Nat) : Int) = (be 8 n).getD i 0 := by
  rw [be_get 8 n i hi]
  rw [wrap8]
  congr 2
  match i, hi with
  | 0, _ => rfl
  | 1, _ => rfl
  | 2, _ => rfl
  | 3, _ => rfl
  | 4, _ => rfl
  | 5, _ => rfl
  | 6, _ => rfl
  | 7, _ => rfl
theorem padB_s (A B : List Int) (i L : Nat) (hA : A.length = L) (hi : i < B.length) : (A ++ B.take i).take (L + i) ++ [B.getD i 0] = A ++ B.take (i + 1) := by
  rw [List.take_of_length_le (by rw [List.length_append, List.length_take]; omega), List.append_assoc, List.take_add_one, List.getElem?_eq_getElem hi, List.getD_eq_getElem?_getD, List.getElem?_eq_getElem hi]
  rfl
theorem U8'_rpad (B : List Int) (hu : U8' B) : U8' (rpad B) := U8'_app (U8'_app (U8'_app hu (fun i => by match i with | 0 => (show 0 ≤ (128 : Int) ∧ (128 : Int) < 256; omega) | i + 1 => (show 0 ≤ (0 : Int) ∧ (0 : Int) < 256; omega))) (U8'_rep _)) (U8'_be _ _)

theorem rpadN_le (B : List Int) : rpadN B < 64 := Nat.mod_lt _ (by omega)

theorem rof_c (B : List Int) (hu : U8' B) (hB : B.length ≤ 900000) : Con Tryz.prog 156 [.s (.fzi .u8 B)] [] (.agg [.ints .u8 32 (rsumL B)]) [] := by
 refine con_in 72 Tryz.func156 rfl rfl (m := 0) rfl ?_
 intro E hP hn hE
 have hpn : rpadN B = (119 - B.length % 64) % 64 := rfl
 refine w_seq ?_
 refine g_reg hP hn ?_
 refine s_op k_al ?_
 refine s_nil trivial ?_
 refine n_wp ?_
 refine w_seq ?_
 refine w_weak (H' := [some ⟨true, [.ints .u8 32 (z 32)]⟩, some ⟨true, [.ints .u8 0 []]⟩]) (weak_new (segs := [.ints .u8 0 []]) rfl) ?_
 refine g_reg hP hn ?_
 refine s_op k_mv ?_
 refine s_op (k_apn 1) ?_
 refine s_op k_bsf ?_
 refine s_op (k_apg (hbig := by show B.length + 1 ≤ 1000000; omega) (c := B.length + 1) (l' := padZ B 0) (hc := by rfl) (hl' := by exact (by rw [List.take_of_length_le (Nat.le_refl _), padZ, List.replicate_zero, List.append_nil])) (hq := by exact Nat.le_refl _)) ?_
 refine s_op k_as ?_
 refine s_nil trivial ?_
 refine n_wp ?_
 refine w_seq ?_
 refine w_block ?_
 refine c_loop (fun m_ T H => ∃ k : Nat, k ≤ rpadN B ∧ m_ = rpadN B - k ∧ T = [(0, .s (.fzi .u8 B)), (2, .s (.ptr 0 0 0)), (3, .s (.gro 1 1 (B.length + 1 + k)))] ∧ H = [some ⟨true, [.ints .u8 32 (z 32)]⟩, some ⟨true, [.ints .u8 (B.length + 1 + k) (padZ B k)]⟩]) (rpadN B) ⟨0, Nat.zero_le _, rfl, rfl, rfl⟩ (wk hE [0, 4]) ?_
 rintro n_ T_ H_ ⟨k, hk, rfl, rfl, rfl⟩
 refine w_seq ?_
 refine w_seq ?_
 refine g_reg hP hn ?_
 refine s_op k_mv ?_
 refine s_op k_len ?_
 refine s_op k_rem ?_
 refine s_op k_neq ?_
 refine s_nil trivial ?_
 refine n_wp ?_
 refine w_if rfl (fun h_t18 => ?_) (fun h_t18 => ?_)
 · skip
   have hk2 : k < rpadN B := by rw [hpn]; rw [hpn] at hk; omega
   refine w_skip ?_
   refine n_wp ?_
   refine w_block ?_
   refine g_reg hP hn ?_
   refine s_op k_mv ?_
   refine s_op k_bsf ?_
   refine s_op (k_apg (hl := by rw [padZ_len]) (hbig := by show B.length + 1 + k + 1 ≤ 1000000; have := rpadN_le B; omega) (c := B.length + 1 + (k + 1)) (l' := padZ B (k + 1)) (hc := by rfl) (hl' := by exact padZ_s B k) (hq := by exact Nat.le_refl _)) ?_
   refine s_op k_as ?_
   refine s_nil trivial ?_
   refine n_blo ?_
   exact n_round (rpadN B - (k + 1)) (by omega) ⟨k + 1, by omega, rfl, rfl, rfl⟩ (wk hE [0, 3])
 · skip
   have hke : k = rpadN B := by rw [hpn]; rw [hpn] at hk; omega
   subst hke
   refine w_exit ?_
   refine x_thn ?_
   refine x_thn ?_
   refine x_eq ?_
   refine n_wp ?_
   refine w_seq ?_
   refine g_reg hP hn ?_
   refine s_op k_mv ?_
   refine s_op k_len ?_
   refine s_op k_cv ?_
   refine s_op k_mul ?_
   refine s_op k_as ?_
   refine s_nil trivial ?_
   refine n_wp ?_
   refine w_seq ?_
   refine w_seq ?_
   refine g_reg hP hn ?_
   refine s_op k_as ?_
   refine s_nil trivial ?_
   refine n_wp ?_
   refine w_block ?_
   refine c_loop (fun m_ T H => ∃ i : Nat, i ≤ 8 ∧ m_ = 8 - i ∧ T = [(2, .s (.ptr 0 0 0)), (3, .s (.gro 1 1 ((B.length + 1 + rpadN B) + i))), (4, .s (.int .u64 (((8 * B.length) : Nat) : Int))), (5, .s (.int .i64 ((i : Nat) : Int)))] ∧ H = [some ⟨true, [.ints .u8 32 (z 32)]⟩, some ⟨true, [.ints .u8 ((B.length + 1 + rpadN B) + i) (padZ B (rpadN B) ++ (be 8 (8 * B.length)).take i)]⟩]) (8) ⟨0, by omega, rfl, rfl, by rw [List.take_zero, List.append_nil]⟩ (wk hE [0, 1]) ?_
   rintro n_ T_ H_ ⟨i, hi, rfl, rfl, rfl⟩
   refine w_seq ?_
   refine w_seq ?_
   refine g_reg hP hn ?_
   refine s_op k_mv ?_
   refine s_op k_lss ?_
   refine s_nil trivial ?_
   refine n_wp ?_
   refine w_if rfl (fun h_t27 => ?_) (fun h_t27 => ?_)
   · skip
     refine w_skip ?_
     refine n_wp ?_
     refine w_seq ?_
     refine w_block ?_
     refine g_reg hP hn ?_
     refine s_op k_mv ?_
     refine s_op k_mv ?_
     refine s_op k_mv ?_
     refine s_op k_mul ?_
     refine s_op (k_sub (by exact l_bin rfl rfl (b_sub (r := ((56 - 8 * i : Nat) : Int)) (by rw [wrap_i64 (by omega)]; omega)))) ?_
     refine s_op k_shr ?_
     refine s_op (k_cv (by exact a_conv rfl (be8_s (8 * B.length) i (by omega)))) ?_
     refine s_op k_bsf ?_
     refine s_op (k_apg (hl := by rw [List.length_append, padZ_len, List.length_take, be_len]; omega) (hbig := by show (B.length + 1 + rpadN B) + i + 1 ≤ 1000000; have := rpadN_le B; omega) (c := (B.length + 1 + rpadN B) + (i + 1)) (l' := padZ B (rpadN B) ++ (be 8 (8 * B.length)).take (i + 1)) (hc := by rfl) (hl' := by exact padB_s _ _ i _ (padZ_len _ _) (by rw [be_len]; omega)) (hq := by exact Nat.le_refl _)) ?_
     refine s_op k_as ?_
     refine s_nil trivial ?_
     refine n_blo ?_
     refine n_wp ?_
     refine g_reg hP hn ?_
     refine s_op k_mv ?_
     refine s_op k_add ?_
     refine s_op k_as ?_
     refine s_nil trivial ?_
     exact n_round (8 - (i + 1)) (by omega) ⟨i + 1, by omega, rfl, rfl, rfl⟩ (wk hE [0, 3])
   · skip
     obtain rfl : i = 8 := by omega
     have hAe : padZ B (rpadN B) ++ (be 8 (8 * B.length)).take 8 = rpad B := by rw [List.take_of_length_le (by rw [be_len]; exact Nat.le_refl _)]; rfl
     rw [hAe]
     have hAl := rpad_len B
     have hAu := U8'_rpad B hu
     have hLA : (B.length + 1 + rpadN B) + 8 = (rpad B).length := by rw [← hAe, List.length_append, padZ_len, List.length_take, be_len]; rfl
     rw [hLA]
     unfold rsumL
     generalize rpad B = A at *
     generalize hQ : B.length + 1 + rpadN B + 8 = Q at *
     have hq64 : A.length = 64 * (A.length / 64) := by omega
     refine w_exit ?_
     refine x_thn ?_
     refine x_thn ?_
     refine x_eq ?_
     refine n_wp ?_
     refine w_seq ?_
     refine w_weak (frz_gro 3 (l' := A) (hn := Nat.le_refl _) (hl := rfl) (hl' := List.take_length)) ?_
     refine g_reg hP hn ?_
     refine s_op (k_bd (by exact a_buildK S0 rfl rfl rfl)) ?_
     refine s_op k_al ?_
     refine s_st k_st ?_
     refine s_nil trivial ?_
     refine n_wp ?_
     refine w_seq ?_
     refine g_reg hP hn ?_
     refine s_op (k_call [] (con := table_c)) ?_
     refine s_op k_as ?_
     refine s_nil trivial ?_
     refine n_wp ?_
     refine w_seq ?_
     refine w_seq ?_
     refine g_reg hP hn ?_
     refine s_op k_as ?_
     refine s_nil trivial ?_
     refine n_wp ?_
     refine w_block ?_
     refine c_loop (fun m_ T H => ∃ k : Nat, k ≤ A.length / 64 ∧ m_ = A.length / 64 - k ∧ T = [(2, .s (.ptr 0 0 0)), (3, .s (.fzi .u8 A)), (6, .s (.ptr 1 0 0)), (7, .s (.fzi .u32 KS)), (8, .s (.int .i64 ((64 * k : Nat) : Int)))] ∧ H = [some ⟨true, [.ints .u8 32 (z 32)]⟩, some ⟨true, [.ints .u32 8 (rfb A k)]⟩]) (A.length / 64) ⟨0, Nat.zero_le _, rfl, rfl, by rw [show rfb A 0 = S0 by unfold rfb; rfl]⟩ (wk hE [0, 2]) ?_
     rintro n_ T_ H_ ⟨k, hk, rfl, rfl, rfl⟩
     refine w_seq ?_
     refine w_seq ?_
     refine g_reg hP hn ?_
     refine s_op k_mv ?_
     refine s_op k_mv ?_
     refine s_op k_len ?_
     refine s_op k_lss ?_
     refine s_nil trivial ?_
     refine n_wp ?_
     refine w_if rfl (fun h_t44 => ?_) (fun h_t44 => ?_)
     · skip
       have hk64 : 64 * k < A.length := h_t44
       refine w_skip ?_
       refine n_wp ?_
       refine w_seq ?_
       refine w_block ?_
       have hcl : ((A.drop (64 * k)).take 64).length = 64 := by rw [List.length_take, List.length_drop]; omega
       have hcu : U8' ((A.drop (64 * k)).take 64) := U8'_take (U8'_drop hAu _) _
       refine g_any hP hn ?_
       refine s_op k_ld ?_
       refine s_op k_mv ?_
       refine s_op k_mv ?_
       refine s_op k_mv ?_
       refine s_op k_add ?_
       refine s_op k_sl ?_
       refine s_op k_mv ?_
       refine s_op (k_call [] (con := rblk_a _ _ (rfb_len _ _) hcl hcu)) ?_
       refine s_st k_st ?_
       refine s_nil (by kernel_rfl) ?_
       refine n_blo ?_
       refine n_wp ?_
       refine g_reg hP hn ?_
       refine s_op k_mv ?_
       refine s_op k_add ?_
       refine s_op k_as ?_
       refine s_nil trivial ?_
       rw [← show rfb A (k + 1) = aft (rfb A k) ((A.drop (64 * k)).take 64) by rw [rfb]]
       exact n_round (A.length / 64 - (k + 1)) (by omega) ⟨k + 1, by omega, rfl, rfl, rfl⟩ (wk hE [0, 1])
     · skip
       obtain rfl : k = A.length / 64 := by omega
       have hSl := rfb_len A (A.length / 64)
       generalize rfb A (A.length / 64) = s at *
       refine w_exit ?_
       refine x_thn ?_
       refine x_thn ?_
       refine x_eq ?_
       refine n_wp ?_
       refine w_seq ?_
       refine g_reg hP hn ?_
       refine s_op k_al ?_
       refine s_nil trivial ?_
       refine n_wp ?_
       refine w_seq ?_
       refine w_seq ?_
       refine g_reg hP hn ?_
       refine s_op k_as ?_
       refine s_nil trivial ?_
       refine n_wp ?_
       refine w_block ?_
       refine c_loop (fun m_ T H => ∃ i : Nat, i ≤ 32 ∧ m_ = 32 - i ∧ T = [(2, .s (.ptr 0 0 0)), (6, .s (.ptr 1 0 0)), (9, .s (.ptr 2 0 0)), (10, .s (.int .i64 ((i : Nat) : Int)))] ∧ H = [some ⟨true, [.ints .u8 32 (z 32)]⟩, some ⟨true, [.ints .u32 8 s]⟩, some ⟨true, [.ints .u8 32 (rob s i)]⟩]) (32) ⟨0, by omega, rfl, rfl, by rw [show rob s 0 = z 32 by unfold rob; rfl]⟩ (wk hE [0, 1, 2]) ?_
       rintro n_ T_ H_ ⟨i, hi, rfl, rfl, rfl⟩
       refine w_seq ?_
       refine w_seq ?_
       refine g_reg hP hn ?_
       refine s_op k_mv ?_
       refine s_op k_lss ?_
       refine s_nil trivial ?_
       refine n_wp ?_
       refine w_if rfl (fun h_t56 => ?_) (fun h_t56 => ?_)
       · skip
         have hrl := rob_len s i
         refine w_skip ?_
         refine n_wp ?_
         refine w_seq ?_
         refine w_block ?_
         refine g_reg hP hn ?_
         refine s_op k_mv ?_
         refine s_op k_mv ?_
         refine s_op k_quo ?_
         refine s_op k_ix ?_
         refine s_op k_ld ?_
         refine s_op k_mv ?_
         refine s_op k_rem ?_
         refine s_op k_mul ?_
         refine s_op (k_sub (by exact l_bin rfl rfl (b_sub (r := ((24 - 8 * (i % 4) : Nat) : Int)) (by rw [wrap_i64 (by omega)]; omega)))) ?_
         refine s_op k_shr ?_
         refine s_op (k_cv (by exact a_conv rfl rfl)) ?_
         refine s_op k_ix ?_
         refine s_st k_st ?_
         refine s_nil trivial ?_
         refine n_blo ?_
         refine n_wp ?_
         refine g_reg hP hn ?_
         refine s_op k_mv ?_
         refine s_op k_add ?_
         refine s_op k_as ?_
         refine s_nil trivial ?_
         rw [← show rob s (i + 1) = (rob s i).set i (IntKind.u8.wrap (shrK .u32 (s.getD (i / 4) 0) ((24 - 8 * (i % 4) : Nat) : Int))) by rw [rob]]
         exact n_round (32 - (i + 1)) (by omega) ⟨i + 1, by omega, rfl, rfl, rfl⟩ (wk hE [0, 1, 2])
       · skip
         obtain rfl : i = 32 := by omega
         refine w_exit ?_
         refine x_thn ?_
         refine x_thn ?_
         refine x_eq ?_
         refine n_wp ?_
         refine w_seq ?_
         refine g_reg hP hn ?_
         refine s_op k_ld ?_
         refine s_st k_st ?_
         refine s_nil trivial ?_
         refine n_wp ?_
         refine w_ret ?_
         exact d_ret hP hn hE [] (r_cell Tryz.results156)

end Go.Proofs.X
end

section
open Go Go.Bx Go.Proofs
namespace Go.Proofs.X
set_option maxRecDepth 100000
set_option maxHeartbeats 4000000
theorem k64_eq (K : List Int) (h : K.length ≤ 64) : k64 K = K ++ List.replicate (64 - K.length) 0 := by
  refine eqI_n 64 (k64_len _) (by rw [List.length_append, List.length_replicate]; omega) fun i hi => ?_
  rw [k64, spl_getD _ _ _ _ _ _ hi, getD_app, List.take_length]
  by_cases h1 : i < K.length
  · rw [if_pos (by omega), if_pos h1, Nat.sub_zero]
  · rw [if_neg (by omega), if_neg h1, getD_rep]; exact getD_rep 64 i
theorem kz_s (K : List Int) (k n : Nat) (hn : n = K.length + k) : (K ++ List.replicate k 0).take n ++ [0] = K ++ List.replicate (k + 1) 0 := by
  rw [List.take_of_length_le (by simp; omega), List.replicate_succ', ← List.append_assoc]
theorem xk_g (Q : List Int) (v : Int) (m i : Nat) (hQ : Q.length = 64) (hi : i < 64) (hm : m ≤ 64) : (xk Q v m).getD i 0 = if i < m then xorK .u8 (Q.getD i 0) v else Q.getD i 0 := by
  induction m with
  | zero => rw [if_neg (by omega)]; rfl
  | succ m ih =>
    rw [xk, setDI _ _ _ _ (by rw [xk_len]; omega)]
    by_cases h : m = i
    · subst h; rw [if_pos rfl, if_pos (by omega), ih (by omega), if_neg (by omega)]
    · rw [if_neg h, ih (by omega)]
      by_cases h2 : i < m
      · rw [if_pos h2, if_pos (by omega)]
      · rw [if_neg h2, if_neg (by omega)]
theorem xk_t (Q : List Int) (v : Int) (i : Nat) (hQ : Q.length = 64) (hi : i < 64) : ((xk Q v 64).take i).take i ++ [xorK .u8 (Q.getD i 0) v] = (xk Q v 64).take (i + 1) := by
  have hl : (xk Q v 64).length = 64 := (xk_len _ _ _).trans hQ
  have hg := xk_g Q v 64 i hQ hi (Nat.le_refl _)
  rw [if_pos hi] at hg
  rw [List.take_take, Nat.min_self, List.take_add_one, List.getElem?_eq_getElem (by omega), ← hg, List.getD_eq_getElem?_getD, List.getElem?_eq_getElem (by omega)]
  rfl
theorem flat_le (L : List (List Int)) (i : Nat) : (L.take i).flatten.length ≤ L.flatten.length := by
  have e : L.flatten = (L.take i).flatten ++ (L.drop i).flatten := by rw [← List.flatten_append, List.take_append_drop]
  rw [e, List.length_append]; omega
theorem rowput (A : List Int) (L : List (List Int)) {i n : Nat} (h : i < L.length) (hn : (A ++ (L.take i).flatten).length = n) : (A ++ (L.take i).flatten).take n ++ L.getD i [] = A ++ (L.take (i + 1)).flatten := by
  rw [List.take_of_length_le (by omega), List.append_assoc, ← flat_s L h]
theorem U8'_xk (Q : List Int) (v : Int) (hQ : Q.length = 64) : U8' (xk Q v 64) := fun i => by
  by_cases h : i < 64
  · rw [xk_g Q v 64 i hQ h (Nat.le_refl _), if_pos h]
    show 0 ≤ IntKind.u8.wrap _ ∧ IntKind.u8.wrap _ < 256
    show 0 ≤ _ % (256 : Int) ∧ _ % (256 : Int) < 256
    omega
  · rw [List.getD_eq_getElem?_getD, List.getElem?_eq_none (by rw [xk_len]; omega)]; exact ⟨Int.le_refl _, by decide⟩
theorem U8'_rsum (B : List Int) : U8' (rsumL B) := fun i => by
  by_cases h : i < 32
  · rw [rsumL, rob_get _ _ _ (Nat.le_refl _) h]
    show 0 ≤ _ % (256 : Int) ∧ _ % (256 : Int) < 256
    omega
  · rw [List.getD_eq_getElem?_getD, List.getElem?_eq_none (by rw [rsumL_len]; omega)]; exact ⟨Int.le_refl _, by decide⟩
attribute [local irreducible] rblk rfb rob be KS
attribute [local irreducible] rsumL xk k64
theorem rmac_c (K : List Int) (L : List (List Int)) (hK : K.length ≤ 64) (hL : L.length ≤ 1000) (hl : L.flatten.length ≤ 800000) (hu : U8' L.flatten) : Con Tryz.prog 95 [.s (.fzi .u8 K), .s (ROWS L)] [] (.agg [.ints .u8 32 (rmac K L.flatten)]) [] := by
 refine con_in 65 Tryz.func95 rfl rfl (m := 0) rfl ?_
 intro E hP hn hE
 refine w_seq ?_
 refine g_reg hP hn ?_
 refine s_op k_al ?_
 refine s_nil trivial ?_
 refine n_wp ?_
 refine w_seq ?_
 refine w_weak (H' := [some ⟨true, [.ints .u8 32 (z 32)]⟩, some ⟨true, [.ints .u8 0 []]⟩]) (weak_new (segs := [.ints .u8 0 []]) rfl) ?_
 refine g_reg hP hn ?_
 refine s_op k_mv ?_
 refine s_op (k_apn 1) ?_
 refine s_op k_as ?_
 refine s_nil trivial ?_
 refine n_wp ?_
 refine w_seq ?_
 refine w_seq ?_
 refine g_reg hP hn ?_
 refine s_op k_mv ?_
 refine s_op k_len ?_
 refine s_op k_gtr ?_
 refine s_nil trivial ?_
 refine n_wp ?_
 refine w_F rfl ?_ (decide_eq_false (by omega))
 refine w_skip ?_
 refine n_wp ?_
 refine w_seq ?_
 refine w_block ?_
 refine c_loop (fun m_ T H => ∃ k : Nat, k ≤ 64 - K.length ∧ m_ = 64 - K.length - k ∧ T = [(1, .s (ROWS L)), (4, .s (.ptr 0 0 0)), (5, .s (.gro 1 1 (K.length + k)))] ∧ H = [some ⟨true, [.ints .u8 32 (z 32)]⟩, some ⟨true, [.ints .u8 (K.length + k) (K ++ List.replicate k 0)]⟩]) (64 - K.length) ⟨0, by omega, rfl, rfl, by rw [List.replicate_zero, List.append_nil]⟩ (wk hE [0, 2]) ?_
 rintro n_ T_ H_ ⟨k, hk, rfl, rfl, rfl⟩
 refine w_seq ?_
 refine w_seq ?_
 refine g_reg hP hn ?_
 refine s_op k_mv ?_
 refine s_op k_len ?_
 refine s_op k_lss ?_
 refine s_nil trivial ?_
 refine n_wp ?_
 refine w_if rfl (fun h_t23 => ?_) (fun h_t23 => ?_)
 · skip
   refine w_skip ?_
   refine n_wp ?_
   refine w_block ?_
   refine g_reg hP hn ?_
   refine s_op k_mv ?_
   refine s_op k_bsf ?_
   refine s_op (k_apg (c := K.length + (k + 1)) (l' := K ++ List.replicate (k + 1) 0) (hc := by rfl) (hl' := by exact kz_s K k _ rfl) (hq := by exact Nat.le_refl _) (hl := by simp) (hbig := by show K.length + k + 1 ≤ 1000000; omega)) ?_
   refine s_op k_as ?_
   refine s_nil trivial ?_
   refine n_blo ?_
   exact n_round (64 - K.length - (k + 1)) (by omega) ⟨k + 1, by omega, rfl, rfl, rfl⟩ (wk hE [0, 3])
 · skip
   have hke : k = 64 - K.length := by omega
   subst hke
   have hkk : K ++ List.replicate (64 - K.length) 0 = k64 K := (k64_eq K hK).symm
   have h64 : (K ++ List.replicate (64 - K.length) 0).length = K.length + (64 - K.length) := by simp
   refine w_exit ?_
   refine x_thn ?_
   refine x_thn ?_
   refine x_eq ?_
   refine n_wp ?_
   refine w_seq ?_
   refine w_weak (frz_gro 5 (l' := k64 K) (hn := Nat.le_refl _) (hl := h64) (hl' := by rw [← hkk]; exact List.take_of_length_le (Nat.le_of_eq h64))) ?_
   refine g_reg hP hn ?_
   refine s_op k_as ?_
   refine s_op k_as ?_
   refine s_nil trivial ?_
   refine n_wp ?_
   refine w_seq ?_
   refine w_seq ?_
   refine w_weak (T' := [(8, .s (.gro 2 1 0)), (7, .s (.gro 1 1 0)), (1, .s (ROWS L)), (4, .s (.ptr 0 0 0)), (5, .s (.fzi .u8 (k64 K)))]) (H' := [some ⟨true, [.ints .u8 32 (z 32)]⟩, some ⟨true, [.ints .u8 (0) ([])]⟩, some ⟨true, [.ints .u8 (0) ([])]⟩]) ((wk (T' := [(7, .s .nils), (8, .s .nils), (1, .s (ROWS L)), (4, .s (.ptr 0 0 0)), (5, .s (.fzi .u8 (k64 K)))]) (H' := [some ⟨true, [.ints .u8 32 (z 32)]⟩]) hE [0]).trans ((weak_gro 7 1 1 (segs := [.ints .u8 0 []]) rfl rfl rfl).trans ((weak_gro 8 1 2 (segs := [.ints .u8 0 []]) rfl rfl rfl).trans (weak_tm)))) ?_
   refine g_reg hP hn ?_
   refine s_op k_as ?_
   refine s_nil trivial ?_
   refine n_wp ?_
   refine w_block ?_
   refine c_loop (fun m_ T H => ∃ i : Nat, i ≤ 64 ∧ m_ = 64 - i ∧ T = [(1, .s (ROWS L)), (4, .s (.ptr 0 0 0)), (5, .s (.fzi .u8 (k64 K))), (7, .s (.gro 1 1 i)), (8, .s (.gro 2 1 i)), (9, .s (.int .i64 ((i : Nat) : Int)))] ∧ H = [some ⟨true, [.ints .u8 32 (z 32)]⟩, some ⟨true, [.ints .u8 (i) ((xk (k64 K) 54 64).take i)]⟩, some ⟨true, [.ints .u8 (i) ((xk (k64 K) 92 64).take i)]⟩]) (64) ⟨0, by omega, rfl, rfl, by rw [List.take_zero, List.take_zero]⟩ (wk hE [0, 1, 2]) ?_
   rintro n_ T_ H_ ⟨i, hi, rfl, rfl, rfl⟩
   have hq64 := k64_len K
   refine w_seq ?_
   refine w_seq ?_
   refine g_reg hP hn ?_
   refine s_op k_mv ?_
   refine s_op k_lss ?_
   refine s_nil trivial ?_
   refine n_wp ?_
   refine w_if rfl (fun h_t28 => ?_) (fun h_t28 => ?_)
   · skip
     refine w_skip ?_
     refine n_wp ?_
     refine w_seq ?_
     refine w_block ?_
     refine w_seq ?_
     refine g_reg hP hn ?_
     refine s_op k_mv ?_
     refine s_op k_mv ?_
     refine s_op k_mv ?_
     refine s_op k_ix ?_
     refine s_op k_ld ?_
     refine s_op k_xor ?_
     refine s_op k_bsf ?_
     refine s_op (k_apg (c := i + 1) (l' := (xk (k64 K) 54 64).take (i + 1)) (hc := by rfl) (hl' := by exact xk_t _ _ i (k64_len K) h_t28) (hq := by exact Nat.le_refl _) (hl := by rw [List.length_take, xk64_len]; omega) (hbig := by show i + 1 ≤ 1000000; omega)) ?_
     refine s_op k_as ?_
     refine s_nil trivial ?_
     refine n_wp ?_
     refine g_reg hP hn ?_
     refine s_op k_mv ?_
     refine s_op k_mv ?_
     refine s_op k_mv ?_
     refine s_op k_ix ?_
     refine s_op k_ld ?_
     refine s_op k_xor ?_
     refine s_op k_bsf ?_
     refine s_op (k_apg (c := i + 1) (l' := (xk (k64 K) 92 64).take (i + 1)) (hc := by rfl) (hl' := by exact xk_t _ _ i (k64_len K) h_t28) (hq := by exact Nat.le_refl _) (hl := by rw [List.length_take, xk64_len]; omega) (hbig := by show i + 1 ≤ 1000000; omega)) ?_
     refine s_op k_as ?_
     refine s_nil trivial ?_
     refine n_blo ?_
     refine n_wp ?_
     refine g_reg hP hn ?_
     refine s_op k_mv ?_
     refine s_op k_add ?_
     refine s_op k_as ?_
     refine s_nil trivial ?_
     exact n_round (64 - (i + 1)) (by omega) ⟨i + 1, by omega, rfl, rfl, rfl⟩ (wk hE [0, 4, 6])
   · skip
     obtain rfl : i = 64 := by omega
     rw [List.take_of_length_le (Nat.le_of_eq (xk64_len K 54)), List.take_of_length_le (Nat.le_of_eq (xk64_len K 92))]
     unfold rmac
     have hXI := xk64_len K 54
     have hXO := xk64_len K 92
     have hUI := U8'_xk (k64 K) 54 (k64_len K)
     have hUO := U8'_xk (k64 K) 92 (k64_len K)
     generalize (xk (k64 K) 54 64) = XI at *
     generalize (xk (k64 K) 92 64) = XO at *
     refine w_exit ?_
     refine x_thn ?_
     refine x_thn ?_
     refine x_eq ?_
     refine n_wp ?_
     refine w_seq ?_
     refine w_seq ?_
     refine g_reg hP hn ?_
     refine s_op k_as ?_
     refine s_nil trivial ?_
     refine n_wp ?_
     refine w_block ?_
     refine c_loop (fun m_ T H => ∃ i : Nat, i ≤ L.length ∧ m_ = L.length - i ∧ T = [(1, .s (ROWS L)), (4, .s (.ptr 0 0 0)), (7, .s (.gro 1 1 (64 + (L.take i).flatten.length))), (8, .s (.gro 2 1 64)), (10, .s (.int .i64 ((i : Nat) : Int)))] ∧ H = [some ⟨true, [.ints .u8 32 (z 32)]⟩, some ⟨true, [.ints .u8 (64 + (L.take i).flatten.length) (XI ++ (L.take i).flatten)]⟩, some ⟨true, [.ints .u8 (64) (XO)]⟩]) (L.length) ⟨0, Nat.zero_le _, rfl, rfl, by rw [List.take_zero, List.flatten_nil, List.append_nil]⟩ (wk hE [0, 1, 2]) ?_
     rintro n_ T_ H_ ⟨i, hi, rfl, rfl, rfl⟩
     refine w_seq ?_
     refine w_seq ?_
     refine g_reg hP hn ?_
     refine s_op k_mv ?_
     refine s_op k_mv ?_
     refine s_op k_len ?_
     refine s_op k_lss ?_
     refine s_nil trivial ?_
     refine n_wp ?_
     refine w_if rfl (fun h_t50 => ?_) (fun h_t50 => ?_)
     · skip
       have hf1 := flat_le L i
       have hf2 := flat_le L (i + 1)
       have hf3 := flat_s L h_t50
       have hf4 : (L.take (i + 1)).flatten.length = (L.take i).flatten.length + (L.getD i []).length := by rw [hf3, List.length_append]
       refine w_skip ?_
       refine n_wp ?_
       refine w_seq ?_
       refine w_block ?_
       refine g_reg hP hn ?_
       refine s_op k_mv ?_
       refine s_op k_mv ?_
       refine s_op k_mv ?_
       refine s_op k_ix ?_
       refine s_op (k_ld (by exact a_loadf (v := .fzi .u8 (L.getD i [])) rfl (by omega) (rows_at L h_t50))) ?_
       refine s_op (k_apg (c := 64 + (L.take (i + 1)).flatten.length) (l' := XI ++ (L.take (i + 1)).flatten) (hc := by rw [flat_s L h_t50, List.length_append]; omega) (hl' := by exact rowput XI L h_t50 (by rw [List.length_append, hXI])) (hq := by exact Nat.le_refl _) (hl := by rw [List.length_append, hXI]) (hbig := by omega)) ?_
       refine s_op k_as ?_
       refine s_nil trivial ?_
       refine n_blo ?_
       refine n_wp ?_
       refine g_reg hP hn ?_
       refine s_op k_mv ?_
       refine s_op k_add ?_
       refine s_op k_as ?_
       refine s_nil trivial ?_
       exact n_round (L.length - (i + 1)) (by omega) ⟨i + 1, by omega, rfl, rfl, rfl⟩ (wk hE [0, 3, 2])
     · skip
       obtain rfl : i = L.length := Nat.le_antisymm hi (by omega)
       rw [show L.take L.length = L from List.take_length]
       have hu1 : U8' (XI ++ L.flatten) := U8'_app hUI hu
       refine w_exit ?_
       refine x_thn ?_
       refine x_thn ?_
       refine x_eq ?_
       refine n_wp ?_
       refine w_seq ?_
       refine w_weak (frz_gro 7 (l' := XI ++ L.flatten) (hn := Nat.le_refl _) (hl := by rw [List.length_append, hXI]) (hl' := List.take_of_length_le (by rw [List.length_append, hXI]; exact Nat.le_refl _))) ?_
       refine g_reg hP hn ?_
       refine s_op k_mv ?_
       refine s_op (k_call [] (con := rof_c _ hu1 (by rw [List.length_append, hXI]; omega))) ?_
       refine s_op k_al ?_
       refine s_st k_st ?_
       refine s_nil trivial ?_
       refine n_wp ?_
       refine w_seq ?_
       refine w_weak (T' := [(4, .s (.ptr 0 0 0)), (8, .s (.gro 1 1 64)), (11, .s (.fptr 32 (cellsF [.ints .u8 32 (rsumL (XI ++ L.flatten))]) 0 0))]) (H' := [some ⟨true, [.ints .u8 32 (z 32)]⟩, some ⟨true, [.ints .u8 (64) (XO)]⟩]) ((frz_ptr 11 32).trans (wk hE [0, 2])) ?_
       have hSI := rsumL_len (XI ++ L.flatten)
       have hUI := U8'_rsum (XI ++ L.flatten)
       generalize rsumL (XI ++ L.flatten) = SI at *
       have hu2 : U8' (XO ++ SI) := U8'_app hUO hUI
       refine g_reg hP hn ?_
       refine s_op k_mv ?_
       refine s_op (k_slf (hl := hSI)) ?_
       refine s_op (k_apg (c := 64 + 32) (l' := XO ++ SI) (hc := by rw [hSI]) (hl' := by rw [List.take_of_length_le (by omega)]) (hq := by exact Nat.le_refl _) (hl := hXO) (hbig := by rw [hSI]; exact Nat.le_of_ble_eq_true rfl)) ?_
       refine s_op (k_tmp 2 (h := k_call [] (con := rof_c (XO ++ SI) hu2 (by rw [List.length_append, hXO, hSI]; exact Nat.le_of_ble_eq_true rfl)) (hargs := by exact .cons rfl (conv_gro (id := 2) (n := 64 + 32) (kk := .u8) (l := XO ++ SI) (k := ⟨false, [.ints .u8 (64 + 32) (XO ++ SI)]⟩) rfl rfl rfl (Nat.le_refl _) (by rw [List.length_append, hXO, hSI]) (List.take_of_length_le (by rw [List.length_append, hXO, hSI]; exact Nat.le_refl _))) .nil))) ?_
       refine s_st k_st ?_
       refine s_nil trivial ?_
       refine n_wp ?_
       refine w_ret ?_
       exact d_ret hP hn hE [] (r_cell Tryz.results95)

end Go.Proofs.X
end

section
/- Bytes that are compared all together; the document's sum by a key is the program's. No program. -/
open Go Go.Bx
namespace Go.Proofs.X
theorem hmB_rmac (K A : List Int) (hl : A.length < 2305843009213690000) : hmB K A = rmac K A := (rmac_eq K A hl).symm
theorem U8'_hmB (K A : List Int) (hl : A.length < 2305843009213690000) : U8' (hmB K A) := by
  rw [hmB_rmac K A hl]; exact U8'_rsum _
theorem ofInt8_0 {a : Int} (h0 : 0 ≤ a) (h1 : a < 256) (h : BitVec.ofInt 8 a = 0#8) : a = 0 := by
  have e := congrArg BitVec.toNat h
  rw [BitVec.toNat_ofInt] at e
  simp at e
  omega
theorem ofInt8_inj {a b : Int} (h0 : 0 ≤ a) (h1 : a < 256) (h2 : 0 ≤ b) (h3 : b < 256) (h : BitVec.ofInt 8 a = BitVec.ofInt 8 b) : a = b := by
  have e := congrArg BitVec.toNat h
  rw [BitVec.toNat_ofInt, BitVec.toNat_ofInt] at e
  simp at e
  omega
theorem or8_0 {a b : Int} (h : orK .u8 a b = 0) : BitVec.ofInt 8 a = 0#8 ∧ BitVec.ofInt 8 b = 0#8 := by
  have e : orK .u8 a b = ((BitVec.ofInt 8 a ||| BitVec.ofInt 8 b).toNat : Int) := by
    show ((BitVec.ofInt 8 a ||| BitVec.ofInt 8 b).toNat : Int) % 256 = _
    have := (BitVec.ofInt 8 a ||| BitVec.ofInt 8 b).isLt
    omega
  rw [e] at h
  have h2 : (BitVec.ofInt 8 a ||| BitVec.ofInt 8 b) = 0#8 := by
    apply BitVec.eq_of_toNat_eq
    have : (BitVec.ofInt 8 a ||| BitVec.ofInt 8 b).toNat = 0 := by omega
    rw [this]; rfl
  exact BitVec.or_eq_zero_iff.1 h2
theorem xor8_e (a b : Int) : BitVec.ofInt 8 (xorK .u8 a b) = BitVec.ofInt 8 a ^^^ BitVec.ofInt 8 b := by
  have e : xorK .u8 a b = ((BitVec.ofInt 8 a ^^^ BitVec.ofInt 8 b).toNat : Int) := by
    show ((BitVec.ofInt 8 a ^^^ BitVec.ofInt 8 b).toNat : Int) % 256 = _
    have := (BitVec.ofInt 8 a ^^^ BitVec.ofInt 8 b).isLt
    omega
  rw [e, BitVec.ofInt_natCast, BitVec.ofNat_toNat, BitVec.setWidth_eq]
theorem mo_rng (A B : List Int) (i : Nat) : 0 ≤ mo A B i ∧ mo A B i < 256 := by
  cases i with
  | zero => exact ⟨Int.le_refl _, by show (0 : Int) < 256; decide⟩
  | succ i =>
    show 0 ≤ _ % (256 : Int) ∧ _ % (256 : Int) < 256
    omega
theorem mo_at (A B : List Int) (n : Nat) (h : mo A B n = 0) (i : Nat) (hi : i < n) : BitVec.ofInt 8 (A.getD i 0) = BitVec.ofInt 8 (B.getD i 0) := by
  induction n with
  | zero => omega
  | succ n ih =>
    obtain ⟨h1, h2⟩ := or8_0 h
    by_cases e : i = n
    · subst e
      rw [xor8_e] at h2
      exact BitVec.xor_eq_zero_iff.1 h2
    · exact ih (ofInt8_0 (mo_rng A B n).1 (mo_rng A B n).2 h1) (by omega)
theorem mo_eq (A B : List Int) (hl : A.length = B.length) (hA : U8' A) (hB : U8' B) (h : mo A B A.length = 0) : A = B :=
  eqI hl fun i hi => ofInt8_inj (hA i).1 (hA i).2 (hB i).1 (hB i).2 (mo_at A B _ h i hi)
end Go.Proofs.X
end
