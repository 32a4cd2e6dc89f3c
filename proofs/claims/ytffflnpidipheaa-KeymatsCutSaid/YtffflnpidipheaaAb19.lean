/- Contracts of functions that take memory over; other numbers for what is told. No program. -/
import Derived.Test.YtffflnpidipheaaAb18
namespace Go.Ab
theorem cutR_le (ρ : Rho) (n : Nat) : Rle (cutR ρ n) ρ := fun id x hx => by
  unfold cutR at hx
  split at hx
  · exact hx
  · cases hx
theorem calls_enter' {P : Program} {f : FuncId} {fn : Func} {c : Code} (nE : Nat) {W : Nat → Prop} {w : World} {ρ0 : Rho} {H0 : Heap} {args : List AV} {vals : Array Value} (hdomE : ∀ id, nE ≤ id → cutR ρ0 nE id = none) (hf : P.funcs[f]? = some fn) (hb : fn.body = some c) (hW : ∀ b, w.heap.size ≤ b → W b)
    (hH : HRep W ρ0 H0 w) (hdom : ∀ id, H0.length ≤ id → ρ0 id = none) (hargs : ArgsRep ρ0 args vals) (hn : args.length ≤ fn.ntmps) {R : Ending → World → Prop}
    (h : Wp ⟨P, W, w, cutR ρ0 nE, fn.ntmps, nE, hW, hdomE⟩ c (argT 0 args) H0 (fun e T H => (e = .ret ∨ e = .normal) ∧ ∃ v, Ret ⟨P, W, w, cutR ρ0 nE, fn.ntmps, nE, hW, hdomE⟩ fn T H v ∧
      ∀ v' ρ' w', v.rep ρ' v' → Rle (cutR ρ0 nE) ρ' → HRep W ρ' H w' → (∀ id, H.length ≤ id → ρ' id = none) → Fr W w w' → R (.returned v') w')) : Calls P f vals w R := by
  refine (callsIn_wide (n := 0)).1 (callsIn_of_wp_marks hf hb trivial (wpIn_wide.2 (wp_mono (h _ w ⟨ρ0, cutR_le _ _, hdom, hH, fun t => ?_, ?_, DefOk.nil _ _, .refl _ _⟩) ?_)))
  · rw [look_argT, if_pos (Nat.zero_le _), Nat.sub_zero]
    cases hx : args[t]? with
    | none => trivial
    | some x =>
      have hlt : t < vals.size := by
        rw [hargs.1]
        exact (List.getElem?_eq_some_iff.1 hx).1
      have := hargs.2 t x hx
      simp only [Option.getD_some]
      simp only [Array.getD_eq_getD_getElem?] at this ⊢
      rw [Array.getElem?_append_left hlt]
      exact this
  · simp; have := hargs.1; omega
  · rintro e a' w' ⟨T, H, ⟨he, v, hret, hR⟩, ρ', k1, k2, k3, k4, k5, k6, k7⟩
    have hl : LeavesInM Fence.wide 0 P fn a'.tmps R a'.defers .returning w' := leaves_marks (W := W) (w0 := w) (ρ := ρ') (H := H) (fun w2 h1 h2 => by
      obtain ⟨v', hv, hrep⟩ := hret ρ' a' w2 h1 k4
      exact ⟨v', hv, hR v' ρ' w2 hrep k1 h1 k2 h2⟩) a'.defers w' k6 k3 k7
    rcases he with rfl | rfl
    · exact hl
    · exact hl
def forget (ids : List Nat) (H : Heap) : Heap := H.mapIdx fun i k => if i ∈ ids then none else k
theorem forget_get {ids : List Nat} {H : Heap} {id : Nat} {q : Blk} (h : (forget ids H)[id]? = some (some q)) : H[id]? = some (some q) ∧ id ∉ ids := (fun x => ⟨x.2, x.1⟩) (visH_get (hs := ids) h)
theorem amut_gen3 {P : Program} {f : FuncId} {fn : Func} {c : Code} {n : Nat} {args0 args : List AV} {H0 H Hf H' : Heap} {v0 v : AV} (σ : List (Nat × Nat)) (picks : List Nat) (nE : Nat) (hnE : nE ≤ σ.length) (hf : P.funcs[f]? = some fn) (hb : fn.body = some c) (hn : fn.ntmps = n) (hl : args0.length ≤ n)
    (hσ : σ.length = H0.length)
    (hfoot : ∀ (k id sh : Nat) (b0 : Blk), σ[k]? = some (id, sh) → H0[k]? = some (some b0) → b0.segs.all (Seg.idB fun j => Nat.blt j σ.length) = true ∧ ∃ b : Blk, H[id]? = some (some b) ∧ (b0.rw = true → b.rw = true ∧ sh = 0) ∧ ∀ i x, atS b0.segs i = some x → atS b.segs (sh + i) = some (x.ren (namesOf σ [] 0)))
    (honce : ∀ (k k' id sh sh' : Nat) (b0 : Blk), σ[k]? = some (id, sh) → σ[k']? = some (id, sh') → k ≠ k' → H0[k]? = some (some b0) → b0.rw = false)
    (hlive : ∀ (W : Nat → Prop) (ρ : Rho) (vals : Array Value) (w : World), HRep W ρ H w → ArgsRep ρ args vals → ∀ (k id sh : Nat), σ[k]? = some (id, sh) → ∃ x, ρ id = some x)
    (hargs : args0.map (AV.ren (namesOf σ [] 0)) = args) (hargsB : args0.all (AV.idB fun j => Nat.blt j σ.length) = true)
    (hend : endOk (σ.take nE) picks H0 Hf = true) (hnd : picks.Nodup) (hvB : v0.idB (knownB (σ.take nE) picks) = true) (hv : v0.ren (namesOf (σ.take nE) picks H.length) = v) (hH' : afterH (σ.take nE) picks H.length Hf (σ.take nE) 0 (forget ((σ.drop nE).map (·.1)) H) ++ newH (σ.take nE) picks H.length Hf = H')
    (h : ∀ W w ρ0 hW hdom, Wp ⟨P, W, w, ρ0, n, nE, hW, hdom⟩ c (argT 0 args0) H0 (DoneM ⟨P, W, w, ρ0, n, nE, hW, hdom⟩ fn v0 Hf)) : AMut P f H args v H' := by
  subst hn; subst hargs; subst hv; subst hH'
  have gσ : ∀ k, k < σ.length → σ[k]? = some (namesOf σ [] 0 k) := fun k hk => by simp [namesOf, hk]
  generalize hτ : σ.take nE = τ at *
  have lτ : τ.length = nE := by rw [← hτ, List.length_take]; omega
  have τσ : ∀ k, k < nE → τ[k]? = σ[k]? := fun k hk => by rw [← hτ, List.getElem?_take, if_pos hk]
  generalize hg : namesOf τ picks H.length = g at *
  have gτ : ∀ k, k < τ.length → τ[k]? = some (g k) := fun k hk => by rw [← hg]; simp [namesOf, hk]
  generalize hF : forget ((σ.drop nE).map (·.1)) H = F at *
  have lF : F.length = H.length := by rw [← hF]; simp [forget]
  have getF : ∀ (id : Nat) (q : Blk), F[id]? = some (some q) → H[id]? = some (some q) ∧ ∀ k sh, nE ≤ k → σ[k]? ≠ some (id, sh) := by
    intro id q hq
    rw [← hF] at hq
    obtain ⟨h1, h2⟩ := forget_get hq
    refine ⟨h1, fun k sh hk e => h2 (List.mem_map.2 ⟨(id, sh), ?_, rfl⟩)⟩
    exact List.mem_of_getElem? (i := k - nE) (by rw [List.getElem?_drop, show nE + (k - nE) = k by omega]; exact e)
  simp only [endOk, Bool.and_eq_true, List.all_eq_true, List.mem_range] at hend
  have hup : ∀ (k : Nat) (b0 : Blk), k < nE → H0[k]? = some (some b0) → b0.rw = true → ∃ b, Hf[k]? = some (some b) ∧ b.rw = true ∧ idKnown τ picks b = true := by
    intro k b0 hk' e1 e2
    have hk : k < τ.length := by omega
    have := (hend.1 k hk).1
    rw [e1] at this
    simp only [e2, Bool.not_true, Bool.false_or] at this
    split at this
    · rename_i b hb'
      rw [Bool.and_eq_true] at this
      exact ⟨b, hb', this.1, this.2⟩
    · cases this
  have hdown : ∀ (k : Nat) (b : Blk), k < τ.length → Hf[k]? = some (some b) → b.rw = true → ∃ b0, H0[k]? = some (some b0) ∧ b0.rw = true := by
    intro k b hk e1 e2
    have := (hend.1 k hk).2
    rw [e1] at this
    simp only [e2, Bool.not_true, Bool.false_or] at this
    split at this
    · rename_i b0 hb0; exact ⟨b0, hb0, this⟩
    · cases this
  have hpk : ∀ p ∈ picks, τ.length ≤ p ∧ ∃ b, Hf[p]? = some (some b) ∧ b.rw = true ∧ idKnown τ picks b = true := by
    intro p hp
    have := hend.2 p hp
    refine ⟨Nat.le_of_ble_eq_true this.1, ?_⟩
    have := this.2
    split at this
    · rename_i b hb'
      rw [Bool.and_eq_true] at this
      exact ⟨b, hb', this.1, this.2⟩
    · cases this
  intro W ρ vals w hH hnone hW hrep
  have live := hlive W ρ vals w hH hrep
  let W' : Nat → Prop := fun b => w.heap.size ≤ b ∨ ∃ (k id sh : Nat) (b0 : Blk) (o : Nat), σ[k]? = some (id, sh) ∧ H0[k]? = some (some b0) ∧ b0.rw = true ∧ ρ id = some (b, o)
  have hW' : ∀ b, w.heap.size ≤ b → W' b := fun b hb => .inl hb
  have hWW : ∀ b, W' b → W b := by
    rintro b (h | ⟨k, id, sh, b0, o, e1, e2, e3, e4⟩)
    · exact hW b h
    · obtain ⟨_, bb, f1, f2, _⟩ := hfoot k id sh b0 e1 e2
      exact (hH.rep id b o bb e4 f1).2 (f2 e3).1
  have hdom : ∀ id, H0.length ≤ id → foot ρ σ id = none := fun id hid => by simp [foot, List.getElem?_eq_none (show σ.length ≤ id by omega)]
  have hfr : ∀ (k b o : Nat), foot ρ σ k = some (b, o) → ∃ id sh o', σ[k]? = some (id, sh) ∧ ρ id = some (b, o') ∧ o = o' + sh := by
    intro id b o e
    unfold foot at e
    cases hs : σ[id]? with
    | none => simp [hs] at e
    | some x =>
      obtain ⟨i, sh⟩ := x
      simp [hs] at e
      obtain ⟨a, o', h1, rfl, h2⟩ := e
      exact ⟨i, sh, o', rfl, h1, h2.symm⟩
  have hH0 : HRep W' (foot ρ σ) H0 w := by
    refine ⟨fun id b o e => ?_, fun k b o b0 e hk => ?_, fun k k' b o o' b0 b0' hne e e' hk hk' => ?_⟩
    · obtain ⟨i, sh, o', h1, h2, h3⟩ := hfr id b o e
      exact hH.lt _ _ _ h2
    · obtain ⟨id, sh, o', h1, h2, h3⟩ := hfr k b o e
      obtain ⟨f1, bb, f3, f2, f4⟩ := hfoot k id sh b0 h1 hk
      obtain ⟨⟨cells, t, fr, g1, g2, g3⟩, _⟩ := hH.rep id b o' bb h2 f3
      refine ⟨⟨cells, t, fr, g1, fun hr => g2 (f2 hr).1, RowRep.unren gσ f1 fun j x hx => ?_⟩, fun hr => .inr ⟨k, id, sh, b0, o', h1, hk, hr, h2⟩⟩
      obtain ⟨v, hv, hc⟩ := g3 _ _ (f4 j x hx)
      exact ⟨v, by show cells[o + j]? = some v; rw [h3, Nat.add_assoc]; exact hv, hc⟩
    · obtain ⟨id, sh, _, h1, h2, _⟩ := hfr k b o e
      obtain ⟨id', sh', _, h1', h2', _⟩ := hfr k' b o' e'
      obtain ⟨_, bb, f3, f2, _⟩ := hfoot k id sh b0 h1 hk
      obtain ⟨_, bb', f3', f2', _⟩ := hfoot k' id' sh' b0' h1' hk'
      by_cases hid : id = id'
      · subst hid
        exact ⟨honce k k' id sh sh' b0 h1 h1' hne hk, honce k' k id sh' sh b0' h1' h1 (Ne.symm hne) hk'⟩
      · have := hH.apart id id' b _ _ bb bb' hid h2 h2' f3 f3'
        constructor
        · cases hq : b0.rw with
          | false => rfl
          | true => rw [(f2 hq).1] at this; exact absurd this.1 (by simp)
        · cases hq : b0'.rw with
          | false => rfl
          | true => rw [(f2' hq).1] at this; exact absurd this.2 (by simp)
  have hdomE : ∀ id, nE ≤ id → cutR (foot ρ σ) nE id = none := fun id hid => by simp [cutR]; omega
  refine calls_enter' (W := W') (ρ0 := foot ρ σ) (H0 := H0) (args := args0) nE hdomE hf hb hW' hH0 hdom ⟨by rw [hrep.1, List.length_map], fun i x hx => ?_⟩ hl ((h W' w (cutR (foot ρ σ) nE) hW' hdomE).mono ?_)
  · exact AV.unren gσ (List.all_eq_true.1 hargsB x (List.mem_of_getElem? hx)) (hrep.2 i _ (by rw [List.getElem?_map, hx]; rfl))
  · rintro e T H1 ⟨he, hret, hheap⟩
    refine ⟨he, _, hret, fun v' ρ' w' h1 h2 h3 h4 h5 => ?_⟩
    let ρ'' : Rho := fun id => if H.length ≤ id ∧ id < H.length + picks.length then (picks[id - H.length]?).bind ρ' else ρ id
    have hnew : ∀ i, i < picks.length → ρ'' (H.length + i) = (picks[i]?).bind ρ' := fun i hi => by
      simp only [ρ'']
      rw [if_pos ⟨by omega, by omega⟩, Nat.add_sub_cancel_left]
    have hold : ∀ id, id < H.length → ρ'' id = ρ id := fun id hid => by simp only [ρ'']; rw [if_neg (by omega)]
    have hlen : (afterH τ picks H.length Hf τ 0 F ++ newH τ picks H.length Hf).length = H.length + picks.length := by simp [afterH_len, newH, lF]
    have hcutE : ∀ k x, k < nE → foot ρ σ k = some x → ρ' k = some x := fun k x hk e => h2 k x (by unfold cutR; rw [if_pos hk]; exact e)
    have hren : RenOk (knownB τ picks) g ρ' ρ'' := by
      intro k b o hk hρ
      by_cases hks : k < τ.length
      · have e1 := gτ k hks
        rw [τσ k (by omega)] at e1
        obtain ⟨⟨b1, o1⟩, hx⟩ := live k (g k).1 (g k).2 (by rw [e1])
        have e2 : foot ρ σ k = some (b1, o1 + (g k).2) := by simp [foot, e1, hx]
        have e3 := hcutE k _ (by omega) e2
        rw [hρ] at e3
        cases e3
        have hlt : (g k).1 < H.length := by
          rcases Nat.lt_or_ge (g k).1 H.length with h | h
          · exact h
          · rw [hnone _ h] at hx; cases hx
        exact ⟨o1, by rw [hold _ hlt]; exact hx, rfl⟩
      · simp only [knownB, Bool.or_eq_true, Nat.blt_eq] at hk
        have hm : k ∈ picks := by
          rcases hk with h | h
          · exact absurd h hks
          · simpa using h
        have hi := List.idxOf_lt_length_of_mem hm
        have e1 : g k = (H.length + picks.idxOf k, 0) := by rw [← hg]; simp [namesOf, List.getElem?_eq_none (show τ.length ≤ k by omega)]
        refine ⟨o, ?_, by rw [e1]; simp⟩
        rw [e1, hnew _ hi]
        have : picks[picks.idxOf k]? = some k := by simp [hi]
        rw [this]; exact hρ
    have brep : ∀ {k : Nat} {b o : Nat} {q : Blk}, ρ' k = some (b, o) → Hf[k]? = some (some q) → idKnown τ picks q = true → BRep ρ'' (q.ren g) w' b o := by
      intro k b o q e1 e2 e3
      obtain ⟨⟨cells, t, fr, g1, g2, g3⟩, _⟩ := h3.rep k b o q e1 (hheap k q e2)
      exact ⟨cells, t, fr, g1, g2, g3.ren hren e3⟩
    -- a new block to be written lies in new memory, or is one that is told no more
    have fresh : ∀ (p b o : Nat), p ∈ picks → ρ' p = some (b, o) → w.heap.size ≤ b ∨ ∃ (k id sh : Nat) (b0 : Blk) (o1 : Nat), nE ≤ k ∧ σ[k]? = some (id, sh) ∧ H0[k]? = some (some b0) ∧ b0.rw = true ∧ ρ id = some (b, o1) := by
      intro p b o hp hρ
      obtain ⟨hps, q, e1, e2, _⟩ := hpk p hp
      rcases (h3.rep p b o q hρ (hheap p q e1)).2 e2 with h | ⟨k, id, sh, b0, o1, s1, s2, s3, s4⟩
      · exact .inl h
      · by_cases hk : nE ≤ k
        · exact .inr ⟨k, id, sh, b0, o1, hk, s1, s2, s3, s4⟩
        · obtain ⟨q', f1, f2, _⟩ := hup k b0 (by omega) s2 s3
          have e4 : foot ρ σ k = some (b, o1 + sh) := by simp [foot, s1, s4]
          have := h3.apart k p b _ o q' q (by omega) (hcutE k _ (by omega) e4) hρ (hheap k q' f1) (hheap p q e1)
          rw [f2] at this; exact absurd this.1 (by simp)
    have notold : ∀ (p b o id o' : Nat) (q : Blk), p ∈ picks → ρ' p = some (b, o) → ρ id = some (b, o') → F[id]? = some (some q) → False := by
      intro p b o id o' q hp hρ hρ2 hq
      obtain ⟨hq, hno⟩ := getF id q hq
      rcases fresh p b o hp hρ with h | ⟨k, id', sh, b0, o1, s0, s1, s2, s3, s4⟩
      · have := hH.lt id b o' hρ2
        omega
      · obtain ⟨_, bb, f1, f2, _⟩ := hfoot k id' sh b0 s1 s2
        by_cases hi : id = id'
        · subst hi; exact hno k sh s0 s1
        · have := hH.apart id id' b o' o1 q bb hi hρ2 s4 hq f1
          rw [(f2 s3).1] at this; exact absurd this.2 (by simp)
    -- an old block behind the call
    have oldB : ∀ (id b o : Nat) (q : Blk), id < H.length → ρ id = some (b, o) → (afterH τ picks H.length Hf τ 0 F)[id]? = some (some q) → BRep ρ'' q w' b o ∧ ∃ q0, H[id]? = some (some q0) ∧ (q.rw = true → q0.rw = true) := by
      intro id b o q hid hρ hq
      rcases afterH_get τ picks H.length Hf τ 0 F id q hq with ⟨j, sh, b1, s1, s2, s3, rfl⟩ | ⟨s1, s2⟩
      · rw [Nat.zero_add] at s2
        have hj : j < τ.length := (List.getElem?_eq_some_iff.1 s1).1
        rw [τσ j (by omega)] at s1
        obtain ⟨b0, t1, t2⟩ := hdown j b1 hj s2 s3
        obtain ⟨_, bb, f1, f2, _⟩ := hfoot j id sh b0 s1 t1
        obtain ⟨f3, f4⟩ := f2 t2
        subst f4
        obtain ⟨q', u1, _, u3⟩ := hup j b0 (by omega) t1 t2
        rw [s2] at u1
        cases u1
        have e4 : foot ρ σ j = some (b, o) := by simp [foot, s1, hρ]
        rw [hg]
        exact ⟨brep (hcutE j _ (by omega) e4) s2 u3, bb, f1, fun _ => f3⟩
      · obtain ⟨s1, hno⟩ := getF id q s1
        have hr := hH.rep id b o q hρ s1
        refine ⟨?_, q, s1, fun e => e⟩
        have hsame : w'.heap[b]? = w.heap[b]? := by
          refine h5.block b (hH.lt id b o hρ) ?_
          rintro (h | ⟨k, id', sh, b0, o1, t1, t2, t3, t4⟩)
          · have := hH.lt id b o hρ; omega
          · obtain ⟨_, bb, f1, f2, _⟩ := hfoot k id' sh b0 t1 t2
            by_cases hi : id = id'
            · subst hi
              by_cases hk : nE ≤ k
              · exact hno k sh hk t1
              · obtain ⟨q', u1, u2, _⟩ := hup k b0 (by omega) t2 t3
                have := s2 k sh q' (by rw [τσ k (by omega)]; exact t1) (by rw [Nat.zero_add]; exact u1)
                rw [u2] at this; cases this
            · have := hH.apart id id' b o o1 q bb hi hρ t4 s1 f1
              rw [(f2 t3).1] at this; exact absurd this.2 (by simp)
        refine (hr.1.world hsame).le fun i x hx => ?_
        have : i < H.length := by
          rcases Nat.lt_or_ge i H.length with h | h
          · exact h
          · rw [hnone i h] at hx; cases hx
        rw [hold i this]; exact hx
    have notold' : ∀ (p b o id o' : Nat) (q : Blk), p ∈ picks → ρ' p = some (b, o) → ρ id = some (b, o') → (afterH τ picks H.length Hf τ 0 F)[id]? = some (some q) → False := by
      intro p b o id o' q hp hρ hρ2 hq
      rcases afterH_get τ picks H.length Hf τ 0 F id q hq with ⟨j, sh, b1, s1, s2, s3, _⟩ | ⟨s1, _⟩
      · rw [Nat.zero_add] at s2
        have hj : j < τ.length := (List.getElem?_eq_some_iff.1 s1).1
        obtain ⟨hps, q1, e1, e2, _⟩ := hpk p hp
        have hx : foot ρ σ j = some (b, o' + sh) := by rw [τσ j (by omega)] at s1; simp [foot, s1, hρ2]
        have := h3.apart j p b _ o b1 q1 (by omega) (hcutE j _ (by omega) hx) hρ (hheap j b1 s2) (hheap p q1 e1)
        rw [s3] at this; exact absurd this.1 (by simp)
      · exact notold p b o id o' q hp hρ hρ2 s1
    have newB : ∀ (i : Nat) (q : Blk), (newH τ picks H.length Hf)[i]? = some (some q) → ∃ (p : Nat) (q0 : Blk), picks[i]? = some p ∧ Hf[p]? = some (some q0) ∧ q = q0.ren g ∧ p ∈ picks := by
      intro i q hq
      simp only [newH, List.getElem?_map, Option.map_eq_some_iff] at hq
      obtain ⟨p, hp, hq⟩ := hq
      obtain ⟨_, q0, e1, _, _⟩ := hpk p (List.mem_of_getElem? hp)
      rw [e1] at hq
      simp at hq
      exact ⟨p, q0, hp, e1, by rw [← hg]; exact hq.symm, List.mem_of_getElem? hp⟩
    have split' : ∀ (id b o : Nat) (q : Blk), ρ'' id = some (b, o) → (afterH τ picks H.length Hf τ 0 F ++ newH τ picks H.length Hf)[id]? = some (some q) →
        (id < H.length ∧ ρ id = some (b, o) ∧ (afterH τ picks H.length Hf τ 0 F)[id]? = some (some q)) ∨ (∃ (p : Nat) (q0 : Blk), id = H.length + (id - H.length) ∧ picks[id - H.length]? = some p ∧ ρ' p = some (b, o) ∧ Hf[p]? = some (some q0) ∧ q = q0.ren g ∧ p ∈ picks) := by
      intro id b o q hρ hq
      by_cases hid : id < H.length
      · rw [List.getElem?_append_left (by rw [afterH_len, lF]; exact hid)] at hq
        rw [hold id hid] at hρ
        exact .inl ⟨hid, hρ, hq⟩
      · rw [List.getElem?_append_right (by rw [afterH_len, lF]; omega), afterH_len, lF] at hq
        obtain ⟨p, q0, e1, e2, e3, e4⟩ := newB _ q hq
        have hi : id - H.length < picks.length := (List.getElem?_eq_some_iff.1 e1).1
        have hh := hnew _ hi
        rw [show H.length + (id - H.length) = id by omega, hρ, e1] at hh
        exact .inr ⟨p, q0, by omega, e1, hh.symm, e2, e3, e4⟩
    refine ⟨v', ρ'', rfl, fun id hid => ?_, fun id x hx => ?_, ⟨fun id b o hρ => ?_, fun id b o q hρ hq => ?_, fun id id' b o o' q q' hne hρ hρ' hq hq' => ?_⟩, ⟨h5.os, h5.tape, h5.output, h5.size, fun k hk hn => h5.block k hk fun h => hn (hWW k h), h5.others⟩, AV.rep_ren hren hvB h1⟩
    · rw [hlen] at hid
      simp only [ρ'']
      rw [if_neg (by omega)]
      exact hnone id (by omega)
    · have : id < H.length := by
        rcases Nat.lt_or_ge id H.length with h | h
        · exact h
        · rw [hnone id h] at hx; cases hx
      rw [hold id this]; exact hx
    · by_cases hid : H.length ≤ id ∧ id < H.length + picks.length
      · have hh := hnew (id - H.length) (by omega)
        rw [show H.length + (id - H.length) = id by omega, hρ] at hh
        cases hp : picks[id - H.length]? with
        | none => rw [hp] at hh; cases hh
        | some p => rw [hp] at hh; exact h3.lt p b o hh.symm
      · simp only [ρ''] at hρ
        rw [if_neg hid] at hρ
        exact Nat.lt_of_lt_of_le (hH.lt id b o hρ) h5.size
    · rcases split' id b o q hρ hq with ⟨s1, s2, s3⟩ | ⟨p, q0, s1, s2, s3, s4, rfl, s6⟩
      · obtain ⟨t1, q0, t2, t3⟩ := oldB id b o q s1 s2 s3
        exact ⟨t1, fun e => (hH.rep id b o q0 s2 t2).2 (t3 e)⟩
      · obtain ⟨_, q1, u1, u2, u3⟩ := hpk p s6
        rw [s4] at u1
        cases u1
        refine ⟨brep s3 s4 u3, fun _ => ?_⟩
        rcases fresh p b o s6 s3 with h | ⟨k, id', sh, b0, o1, r0, r1, r2, r3, r4⟩
        · exact hW b h
        · exact hWW b (.inr ⟨k, id', sh, b0, o1, r1, r2, r3, r4⟩)
    · rcases split' id b o q hρ hq with ⟨s1, s2, s3⟩ | ⟨p, q0, s1, s2, s3, s4, rfl, s6⟩ <;> rcases split' id' b o' q' hρ' hq' with ⟨s1', s2', s3'⟩ | ⟨p', q0', s1', s2', s3', s4', rfl, s6'⟩
      · obtain ⟨_, q0, t2, t3⟩ := oldB id b o q s1 s2 s3
        obtain ⟨_, q0', t2', t3'⟩ := oldB id' b o' q' s1' s2' s3'
        have := hH.apart id id' b o o' q0 q0' hne s2 s2' t2 t2'
        constructor
        · cases hb : q.rw with
          | false => rfl
          | true => rw [t3 hb] at this; exact absurd this.1 (by simp)
        · cases hb : q'.rw with
          | false => rfl
          | true => rw [t3' hb] at this; exact absurd this.2 (by simp)
      · exact (notold' p' b o' id o q s6' s3' s2 s3).elim
      · exact (notold' p b o id' o' q' s6 s3 s2' s3').elim
      · have hpp : p ≠ p' := by
          intro e
          subst e
          have q1 := (List.getElem?_eq_some_iff.1 s2)
          have q2 := (List.getElem?_eq_some_iff.1 s2')
          have := (List.getElem_inj (h₀ := q1.1) (h₁ := q2.1) hnd).1 (q1.2.trans q2.2.symm)
          omega
        have := h3.apart p p' b o o' q0 q0' hpp s3 s3' (hheap p q0 s4) (hheap p' q0' s4')
        exact this

/-- What is told by other numbers: number k is what was number g[k]. -/
def RenH (nE : Nat) (g : List Nat) (T : Tm) (H : Heap) (T' : Tm) (H' : Heap) : Prop :=
  (∀ k, k < nE → g[k]? = some k) ∧ g.Nodup ∧ H'.length = g.length ∧ (∀ (k : Nat) (b' : Blk), H'[k]? = some (some b') → ∃ i b, g[k]? = some i ∧ H[i]? = some (some b) ∧ b.rw = b'.rw ∧ b.segs = b'.segs.map (Seg.ren fun j => (g.getD j 0, 0)) ∧ b'.segs.all (Seg.idB fun j => Nat.blt j g.length) = true) ∧
  (∀ p ∈ T', look T p.1 = p.2.ren (fun j => (g.getD j 0, 0)) ∧ p.2.idB (fun j => Nat.blt j g.length) = true)
theorem weakR {E : Env} {T T' : Tm} {H H' : Heap} (g : List Nat) (h : RenH E.nE g T H T' H') : Weak E T H T' H' := by
  obtain ⟨hg, hnd, hlen, hH, hT⟩ := h
  intro a w ⟨ρ, h1, h2, h3, h4, h5, h6, h7⟩
  let σ : List (Nat × Nat) := g.map fun x => (x, 0)
  have hσ : σ.length = g.length := by simp [σ]
  have gσ : ∀ k, k < σ.length → σ[k]? = some ((fun j => (g.getD j 0, 0)) k) := fun k hk => by
    have hk' : k < g.length := by omega
    simp [σ, List.getD_eq_getElem?_getD, hk']
  have fr : ∀ (k b o : Nat), foot ρ σ k = some (b, o) → ∃ i, g[k]? = some i ∧ ρ i = some (b, o) := by
    intro k b o e
    unfold foot at e
    cases hs : g[k]? with
    | none => simp [σ, hs] at e
    | some i => simp [σ, hs] at e; exact ⟨i, rfl, e⟩
  have hbl : (fun j => Nat.blt j σ.length) = fun j => Nat.blt j g.length := by rw [hσ]
  refine ⟨foot ρ σ, fun id x hx => ?_, fun id hid => ?_, ⟨fun k b o e => ?_, fun k b o b' e hk => ?_, fun k k' b o o' q q' hne e e' hk hk' => ?_⟩, fun t => ?_, h5, h6, h7⟩
  · have hid : id < E.nE := by
      rcases Nat.lt_or_ge id E.nE with h | h
      · exact h
      · rw [E.hdom id h] at hx; cases hx
    have := h1 id x hx
    simp [foot, σ, hg id hid, this]
  · unfold foot
    rw [List.getElem?_eq_none (by omega)]
  · obtain ⟨i, e1, e2⟩ := fr k b o e
    exact h3.lt i b o e2
  · obtain ⟨i, e1, e2⟩ := fr k b o e
    obtain ⟨i', q, f1, f2, f3, f4, f5⟩ := hH k b' hk
    rw [e1] at f1
    cases f1
    obtain ⟨⟨cells, t, frr, g1, g2, g3⟩, hw⟩ := h3.rep i b o q e2 f2
    refine ⟨⟨cells, t, frr, g1, fun hr => g2 (f3.trans hr), RowRep.unren gσ (by rw [hbl]; exact f5) fun j x hx => ?_⟩, fun hr => hw (f3.trans hr)⟩
    exact g3 j _ (by rw [f4, atS_ren, hx]; rfl)
  · obtain ⟨i, e1, e2⟩ := fr k b o e
    obtain ⟨i', e1', e2'⟩ := fr k' b o' e'
    obtain ⟨_, q0, f1, f2, f3, _⟩ := hH k q hk
    obtain ⟨_, q0', f1', f2', f3', _⟩ := hH k' q' hk'
    rw [e1] at f1; cases f1
    rw [e1'] at f1'; cases f1'
    have hii : i ≠ i' := by
      intro e
      subst e
      have p1 := List.getElem?_eq_some_iff.1 e1
      have p2 := List.getElem?_eq_some_iff.1 e1'
      exact hne ((List.getElem_inj (h₀ := p1.1) (h₁ := p2.1) hnd).1 (p1.2.trans p2.2.symm))
    have := h3.apart i i' b o o' q0 q0' hii e2 e2' f2 f2'
    rw [f3, f3'] at this; exact this
  · rcases look_mem T' t with h | ⟨p, hp, rfl, h⟩
    · rw [h]; trivial
    · rw [h]
      obtain ⟨e1, e2⟩ := hT p hp
      have hr := h4 p.1
      rw [e1] at hr
      exact AV.unren gσ (by rw [hbl]; exact e2) hr

def RenAll (g : List Nat) (H : Heap) : Heap → Nat → Prop
  | [], _ => True
  | none :: r, k => RenAll g H r (k + 1)
  | some b' :: r, k => (∃ i b, g[k]? = some i ∧ H[i]? = some (some b) ∧ b.rw = b'.rw ∧ b.segs = b'.segs.map (Seg.ren fun j => (g.getD j 0, 0)) ∧ b'.segs.all (Seg.idB fun j => Nat.blt j g.length) = true) ∧ RenAll g H r (k + 1)
def RenT (g : List Nat) (T : Tm) : Tm → Prop
  | [] => True
  | p :: r => (look T p.1 = p.2.ren (fun j => (g.getD j 0, 0)) ∧ p.2.idB (fun j => Nat.blt j g.length) = true) ∧ RenT g T r
theorem renAll {g : List Nat} {H : Heap} : ∀ {H' : Heap} {k : Nat}, RenAll g H H' k → ∀ (j : Nat) (b' : Blk), H'[j]? = some (some b') → ∃ i b, g[k + j]? = some i ∧ H[i]? = some (some b) ∧ b.rw = b'.rw ∧ b.segs = b'.segs.map (Seg.ren fun j => (g.getD j 0, 0)) ∧ b'.segs.all (Seg.idB fun j => Nat.blt j g.length) = true
  | [], _, _, j, b', h => by simp at h
  | none :: r, k, hh, j, b', h => by
    cases j with
    | zero => simp at h
    | succ j =>
      have := renAll (H' := r) hh j b' (by simpa using h)
      rwa [show k + (j + 1) = k + 1 + j by omega]
  | some b :: r, k, hh, j, b', h => by
    cases j with
    | zero => simp at h; subst h; exact hh.1
    | succ j =>
      have := renAll (H' := r) hh.2 j b' (by simpa using h)
      rwa [show k + (j + 1) = k + 1 + j by omega]
theorem renT {g : List Nat} {T T' : Tm} (h : RenT g T T') : ∀ p ∈ T', look T p.1 = p.2.ren (fun j => (g.getD j 0, 0)) ∧ p.2.idB (fun j => Nat.blt j g.length) = true := by
  induction T' with
  | nil => intro p hp; cases hp
  | cons q r ih =>
    intro p hp
    cases hp with
    | head => exact h.1
    | tail _ hm => exact ih h.2 p hm
theorem weakR' {E : Env} {T T' : Tm} {H H' : Heap} (g : List Nat) (hg : g.take E.nE = List.range E.nE) (hnd : g.Nodup) (hlen : H'.length = g.length) (hH : RenAll g H H' 0) (hT : RenT g T T') : Weak E T H T' H' :=
  weakR g ⟨fun k hk => by
    have h1 : (g.take E.nE)[k]? = some k := by rw [hg]; simp [hk]
    rw [List.getElem?_take, if_pos hk] at h1; exact h1, hnd, hlen, fun k b' h => by have := renAll hH k b' h; rwa [Nat.zero_add] at this, renT hT⟩
theorem wu_n {m : Int} {c : Nat} (h : m = (c : Int)) (hc : c < 4611686018427387904) : IntKind.u64.wrap m = (c : Int) := by
  subst h
  unfold IntKind.wrap
  simp [IntKind.bits, IntKind.signed]
  omega
end Go.Ab
