/- Contracts: of a function that reads what it is handed, and makes memory of its own. -/
import Derived.Test.YtffflnpidipheaaAb7
namespace Go.Ab

/-- The callee's numbers: each is one of the caller's, from a place on. -/
def foot (ρ : Rho) (σ : List (Nat × Nat)) : Rho := fun k => match σ[k]? with
  | some (id, sh) => (ρ id).map fun x => (x.1, x.2 + sh)
  | none => none

/-- A value that names new blocks by their places. -/
def Ren (vf : (Nat → Nat) → AV) (n : Nat) : Prop := ∀ (r r' : Nat → Nat) (ρ ρ' : Rho) (u : Value), (∀ i x, i < n → ρ (r i) = some x → ρ' (r' i) = some x) → (vf r).rep ρ u → (vf r').rep ρ' u

theorem ren_free {v : AV} (h : v.lowB 0 = true) {n : Nat} : Ren (fun _ => v) n := fun _ _ ρ ρ' u _ hr => AV.rep_le (ρ := cutR ρ 0) (fun _ _ e => by simp [cutR] at e) (AV.rep_cut hr h)
theorem ren_ptr {n b i : Nat} (h : 0 < n) : Ren (fun r => .s (.ptr (r 0) b i)) n := fun r r' ρ ρ' u hx hr => by
  obtain ⟨b, o, h1, h2⟩ := hr
  exact ⟨b, o, hx 0 _ h h1, h2⟩
theorem ren_slice {n b i l c : Nat} (h : 0 < n) : Ren (fun r => .s (.slice (r 0) b i l c)) n := fun r r' ρ ρ' u hx hr => by
  obtain ⟨b, o, h1, h2⟩ := hr
  exact ⟨b, o, hx 0 _ h h1, h2⟩
theorem ren_slx {n b i l : Nat} (h : 0 < n) : Ren (fun r => .s (.slx (r 0) b i l)) n := fun r r' ρ ρ' u hx hr => by
  obtain ⟨b, o, c, h1, h2⟩ := hr
  exact ⟨b, o, c, hx 0 _ h h1, h2⟩

structure DoneP (E : Env) (fn : Func) (vf : (Nat → Nat) → AV) (nb : List Blk) (e : Exit) (T : Tm) (H : Heap) : Prop where
  e : e = .ret ∨ e = .normal
  ex : ∃ picks : List Nat, picks.Nodup ∧ picks.length = nb.length ∧ (∀ (i k : Nat) (b : Blk), picks[i]? = some k → nb[i]? = some b → E.nE ≤ k ∧ H[k]? = some (some b)) ∧ Ret E fn T H (vf fun i => picks.getD i 0)

theorem acall_gen {P : Program} {f : FuncId} {fn : Func} {c : Code} {n : Nat} {args0 args : List AV} {H0 H : Heap} {vf : (Nat → Nat) → AV} {nb : List Blk} (σ : List (Nat × Nat)) (hf : P.funcs[f]? = some fn) (hb : fn.body = some c) (hn : fn.ntmps = n) (hl : args0.length ≤ n)
    (hσ : σ.length = H0.length)
    (hfoot : ∀ (k id sh : Nat) (b0 : Blk), σ[k]? = some (id, sh) → H0[k]? = some (some b0) → b0.rw = false ∧ b0.segs.all (Seg.lowB 0) = true ∧ ∃ b : Blk, H[id]? = some (some b) ∧ ∀ i x, atS b0.segs i = some x → atS b.segs (sh + i) = some x)
    (hlen : args.length = args0.length) (hargs : ∀ (i : Nat) (x0 x : AV), args0[i]? = some x0 → args[i]? = some x → ∀ ρ u, x.rep ρ u → x0.rep (foot ρ σ) u)
    (hnb : nb.all (fun b => b.rw && b.segs.all (Seg.lowB 0)) = true) (hvf : Ren vf nb.length)
    (h : ∀ W w ρ0 hW hdom, Wp ⟨P, W, w, ρ0, n, H0.length, hW, hdom⟩ c (argT 0 args0) H0 (DoneP ⟨P, W, w, ρ0, n, H0.length, hW, hdom⟩ fn vf nb)) : ACall P f H args (vf fun i => H.length + i) nb := by
  subst hn
  intro W ρ vals w hH hnone hrep
  let W' : Nat → Prop := fun b => w.heap.size ≤ b
  have hW' : ∀ b, w.heap.size ≤ b → W' b := fun b hb => hb
  have hdom : ∀ id, H0.length ≤ id → foot ρ σ id = none := fun id hid => by simp [foot, List.getElem?_eq_none (show σ.length ≤ id by omega)]
  have hfr : ∀ id b o, foot ρ σ id = some (b, o) → ∃ i sh o', σ[id]? = some (i, sh) ∧ ρ i = some (b, o') ∧ o = o' + sh := by
    intro id b o e
    unfold foot at e
    cases hs : σ[id]? with
    | none => simp [hs] at e
    | some x =>
      obtain ⟨i, sh⟩ := x
      simp [hs] at e
      obtain ⟨a, o', h1, rfl, h2⟩ := e
      exact ⟨i, sh, o', rfl, h1, h2.symm⟩
  have hH0 : HRep W' (foot ρ σ) H0 w := by
    refine ⟨fun id b o e => ?_, fun id b o k e hk => ?_, fun id id' b o o' k k' _ e e' hk hk' => ?_⟩
    · obtain ⟨i, sh, o', h1, h2, h3⟩ := hfr id b o e
      exact hH.lt _ _ _ h2
    · obtain ⟨i, sh, o', h1, h2, h3⟩ := hfr id b o e
      obtain ⟨f1, f2, bb, f3, f4⟩ := hfoot id i sh k h1 hk
      obtain ⟨⟨cells, t, fr, g1, g2, g3⟩, _⟩ := hH.rep i b o' bb h2 f3
      refine ⟨⟨cells, t, fr, g1, fun hr => (by rw [f1] at hr; cases hr), fun j x hx => ?_⟩, fun hr => (by rw [f1] at hr; cases hr)⟩
      obtain ⟨v, hv, hc⟩ := g3 _ x (f4 j x hx)
      refine ⟨v, by show cells[o + j]? = some v; rw [h3, Nat.add_assoc]; exact hv, ?_⟩
      exact ⟨SV.rep_le (ρ := cutR ρ 0) (fun _ _ e => by simp [cutR] at e) (SV.rep_cut hc.1 (atS_below f2 hx)), hc.2⟩
    · obtain ⟨i, sh, _, h1, _⟩ := hfr id b o e
      obtain ⟨i', sh', _, h1', _⟩ := hfr id' b o' e'
      exact ⟨(hfoot id i sh k h1 hk).1, (hfoot id' i' sh' k' h1' hk').1⟩
  refine calls_enter (W := W') (ρ0 := foot ρ σ) (H0 := H0) (args := args0) hf hb hW' hH0 hdom ⟨by rw [hrep.1, hlen], fun i x hx => ?_⟩ hl ((h W' w (foot ρ σ) hW' hdom).mono ?_)
  · have hlt : i < args.length := by rw [hlen]; exact (List.getElem?_eq_some_iff.1 hx).1
    have h2 : args[i]? = some args[i] := by simp [hlt]
    exact hargs i x _ hx h2 ρ _ (hrep.2 i _ h2)
  · rintro e T H1 ⟨he, picks, hnd, hpl, hpk, hret⟩
    refine ⟨he, _, hret, fun v' ρ' w' h1 h2 h3 h4 h5 => ?_⟩
    have hext : Ext w w' := ⟨h5.os, h5.tape, h5.output, h5.size, fun k hk => h5.block k hk (by simp [W']; omega)⟩
    let ρ'' : Rho := fun id => if H.length ≤ id ∧ id < H.length + nb.length then (picks[id - H.length]?).bind ρ' else ρ id
    have hnew : ∀ i, i < nb.length → ρ'' (H.length + i) = (picks[i]?).bind ρ' := fun i hi => by
      simp only [ρ'']
      rw [if_pos ⟨by omega, by omega⟩, Nat.add_sub_cancel_left]
    have hle : Rle ρ ρ'' := by
      intro id x hx
      simp only [ρ'']
      by_cases hid : H.length ≤ id ∧ id < H.length + nb.length
      · have := hnone (id - H.length) (by omega)
        rw [show H.length + (id - H.length) = id by omega] at this
        rw [this] at hx; cases hx
      · rw [if_neg hid]; exact hx
    have hpick : ∀ i, i < nb.length → ∃ k b, picks[i]? = some k ∧ nb[i]? = some b ∧ H1[k]? = some (some b) := by
      intro i hi
      have a1 : picks[i]? = some picks[i] := by simp [hpl, hi]
      have a2 : nb[i]? = some nb[i] := by simp [hi]
      exact ⟨_, _, a1, a2, (hpk i _ _ a1 a2).2⟩
    simp only [List.all_eq_true, Bool.and_eq_true] at hnb
    refine ⟨v', ρ'', rfl, ⟨hle, hext, fun id b o e => ?_, fun i k hk b o e => ?_, fun id id' b o o' a1 a2 a3 a4 e e' => ?_⟩, ?_⟩
    · by_cases hid : H.length ≤ id ∧ id < H.length + nb.length
      · refine .inr ⟨hid.1, hid.2, ?_⟩
        have e2 := hnew (id - H.length) (by omega)
        rw [show H.length + (id - H.length) = id by omega, e] at e2
        obtain ⟨k, bb, p1, p2, p4⟩ := hpick (id - H.length) (by omega)
        rw [p1] at e2
        have e3 : ρ' k = some (b, o) := e2.symm
        have hr := hnb bb (List.mem_of_getElem? p2)
        exact ⟨(h3.rep k b o bb e3 p4).2 hr.1, h3.lt k b o e3⟩
      · simp only [ρ'', if_neg hid] at e; exact .inl e
    · have hi : i < nb.length := (List.getElem?_eq_some_iff.1 hk).1
      rw [hnew i hi] at e
      obtain ⟨kk, bb, p1, p2, p4⟩ := hpick i hi
      rw [p1] at e
      rw [hk] at p2
      cases p2
      have e3 : ρ' kk = some (b, o) := e
      obtain ⟨⟨cells, t, fr, g1, g2, g3⟩, _⟩ := h3.rep kk b o k e3 p4
      have hr := hnb k (List.mem_of_getElem? hk)
      refine ⟨cells, t, fr, g1, g2, fun j x hx => ?_⟩
      obtain ⟨v, hv, hc⟩ := g3 j x hx
      exact ⟨v, hv, SV.rep_le (ρ := cutR ρ' 0) (fun _ _ e => by simp [cutR] at e) (SV.rep_cut hc.1 (atS_below (List.all_eq_true.2 hr.2) hx)), hc.2⟩
    · have i1 := hnew (id - H.length) (by omega)
      have i2 := hnew (id' - H.length) (by omega)
      rw [show H.length + (id - H.length) = id by omega, e] at i1
      rw [show H.length + (id' - H.length) = id' by omega, e'] at i2
      obtain ⟨k, bb, p1, p2, p4⟩ := hpick (id - H.length) (by omega)
      obtain ⟨k', bb', p1', p2', p4'⟩ := hpick (id' - H.length) (by omega)
      rw [p1] at i1
      rw [p1'] at i2
      apply Classical.byContradiction
      intro hne
      have hkk : k ≠ k' := by
        intro ek
        subst ek
        have q1 := (List.getElem?_eq_some_iff.1 p1)
        have q2 := (List.getElem?_eq_some_iff.1 p1')
        have := (List.getElem_inj (h₀ := q1.1) (h₁ := q2.1) hnd).1 (q1.2.trans q2.2.symm)
        omega
      have := h3.apart k k' b o o' bb bb' hkk i1.symm i2.symm p4 p4'
      have hr := hnb bb (List.mem_of_getElem? p2)
      rw [this.1] at hr
      exact absurd hr.1 (by simp)
    · refine hvf _ _ ρ' ρ'' v' (fun i x hi hx => ?_) h1
      rw [hnew i hi]
      obtain ⟨k, bb, p1, _⟩ := hpick i hi
      simp only [List.getD_eq_getElem?_getD, p1, Option.getD_some] at hx
      rw [p1]; exact hx

/-! Arguments -/
theorem arg_free {x : AV} (h : x.lowB 0 = true) {ρ ρ' : Rho} {u : Value} (hr : x.rep ρ u) : x.rep ρ' u :=
  AV.rep_le (ρ := cutR ρ 0) (fun _ _ e => by simp [cutR] at e) (AV.rep_cut hr h)
theorem arg_slice {ρ : Rho} {σ : List (Nat × Nat)} {k id base idx len cap : Nat} (h : σ[k]? = some (id, base + idx)) {u : Value} (hr : (AV.s (.slice id base idx len cap)).rep ρ u) : (AV.s (.slice k 0 0 len cap)).rep (foot ρ σ) u := by
  obtain ⟨b, o, h1, h2⟩ := hr
  exact ⟨b, o + (base + idx), by simp [foot, h, h1], by rw [h2]; simp [Nat.add_assoc]⟩
theorem arg_slx {ρ : Rho} {σ : List (Nat × Nat)} {k id base idx len : Nat} (h : σ[k]? = some (id, base + idx)) {u : Value} (hr : (AV.s (.slx id base idx len)).rep ρ u) : (AV.s (.slx k 0 0 len)).rep (foot ρ σ) u := by
  obtain ⟨b, o, c, h1, h2, h3⟩ := hr
  exact ⟨b, o + (base + idx), c, by simp [foot, h, h1], by rw [h2]; simp [Nat.add_assoc], h3⟩
theorem arg_slice_x {ρ : Rho} {σ : List (Nat × Nat)} {k id base idx len cap : Nat} (hc : len ≤ cap) (h : σ[k]? = some (id, base + idx)) {u : Value} (hr : (AV.s (.slice id base idx len cap)).rep ρ u) : (AV.s (.slx k 0 0 len)).rep (foot ρ σ) u := by
  obtain ⟨b, o, h1, h2⟩ := hr
  exact ⟨b, o + (base + idx), cap, by simp [foot, h, h1], by rw [h2]; simp [Nat.add_assoc], hc⟩
theorem arg_ptr {ρ : Rho} {σ : List (Nat × Nat)} {k id base idx : Nat} (h : σ[k]? = some (id, base + idx)) {u : Value} (hr : (AV.s (.ptr id base idx)).rep ρ u) : (AV.s (.ptr k 0 0)).rep (foot ρ σ) u := by
  obtain ⟨b, o, h1, h2⟩ := hr
  exact ⟨b, o + (base + idx), by simp [foot, h, h1], by rw [h2]; simp [Nat.add_assoc]⟩

end Go.Ab
