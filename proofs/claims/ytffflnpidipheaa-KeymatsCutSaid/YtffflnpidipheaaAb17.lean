/- Contracts of functions that write what they are handed, and hand back memory that holds addresses. No program. -/
import Derived.Test.YtffflnpidipheaaAb16
namespace Go.Ab
/-! ### Other numbers for the same blocks -/
def SV.ren (f : Nat → Nat × Nat) : SV → SV
  | .ptr id base idx => .ptr (f id).1 (base + (f id).2) idx
  | .slice id base idx l c => .slice (f id).1 (base + (f id).2) idx l c
  | .slx id base idx l => .slx (f id).1 (base + (f id).2) idx l
  | .clo g caps => .clo g (caps.map fun c => ((f c.1).1, c.2.1 + (f c.1).2, c.2.2))
  | x => x
def SV.idB (p : Nat → Bool) : SV → Bool
  | .ptr id _ _ => p id
  | .slice id _ _ _ _ => p id
  | .slx id _ _ _ => p id
  | .clo _ caps => caps.all fun c => p c.1
  | _ => true
def Seg.ren (f : Nat → Nat × Nat) : Seg → Seg
  | .one v => .one (v.ren f)
  | .ints k n l => .ints k n l
  | .svs n g => .svs n fun i => (g i).ren f
def Seg.idB (p : Nat → Bool) : Seg → Bool
  | .one v => v.idB p
  | .ints .. => true
  | .svs .. => false
def AV.ren (f : Nat → Nat × Nat) : AV → AV
  | .s v => .s (v.ren f)
  | .agg l => .agg (l.map (Seg.ren f))
  | .tup l => .tup (l.map fun | .s v => .s (v.ren f) | .agg l => .agg (l.map (Seg.ren f)) | .tup l => .tup l)
def AV.idB (p : Nat → Bool) : AV → Bool
  | .s v => v.idB p
  | .agg l => l.all (Seg.idB p)
  | .tup l => l.all fun | .s v => v.idB p | .agg l => l.all (Seg.idB p) | .tup _ => false
/-- What one calls so, the other one calls so. -/
def RenOk (p : Nat → Bool) (f : Nat → Nat × Nat) (ρ ρ' : Rho) : Prop := ∀ id b o, p id = true → ρ id = some (b, o) → ∃ o', ρ' (f id).1 = some (b, o') ∧ o = o' + (f id).2
theorem SV.rep_ren {p : Nat → Bool} {f : Nat → Nat × Nat} {ρ ρ' : Rho} (h : RenOk p f ρ ρ') {x : SV} {v : Value} (hp : x.idB p = true) (hr : x.rep ρ v) : (x.ren f).rep ρ' v := by
  cases x <;> simp only [SV.rep, SV.ren, SV.idB] at * <;> first
    | exact hr
    | (obtain ⟨b, o, h1, h2⟩ := hr
       obtain ⟨o', h3, h4⟩ := h _ _ _ hp h1
       exact ⟨b, o', h3, by rw [h2, h4]; simp [Nat.add_assoc, Nat.add_comm, Nat.add_left_comm]⟩)
    | (obtain ⟨b, o, c, h1, h2, h5⟩ := hr
       obtain ⟨o', h3, h4⟩ := h _ _ _ hp h1
       exact ⟨b, o', c, h3, by rw [h2, h4]; simp [Nat.add_assoc, Nat.add_comm, Nat.add_left_comm], h5⟩)
    | (obtain ⟨vs, h1, h2, h3⟩ := hr
       refine ⟨vs, h1, by simpa using h2, fun i c hc => ?_⟩
       simp only [List.getElem?_map, Option.map_eq_some_iff] at hc
       obtain ⟨c0, hc0, rfl⟩ := hc
       obtain ⟨b, o, h4, h5⟩ := h3 i c0 hc0
       obtain ⟨o', h6, h7⟩ := h _ _ _ (List.all_eq_true.1 hp c0 (List.mem_of_getElem? hc0)) h4
       exact ⟨b, o', h6, by rw [h5, h7]; simp [Nat.add_assoc, Nat.add_comm, Nat.add_left_comm]⟩)
theorem Seg.ren_size (f : Nat → Nat × Nat) (s : Seg) : (s.ren f).size = s.size := by cases s <;> rfl
theorem Seg.ren_at (f : Nat → Nat × Nat) (s : Seg) (i : Nat) : (s.ren f).at i = (s.at i).ren f := by cases s <;> rfl
theorem atS_ren (f : Nat → Nat × Nat) : ∀ (l : List Seg) (i : Nat), atS (l.map (Seg.ren f)) i = (atS l i).map (SV.ren f)
  | [], _ => rfl
  | s :: r, i => by
    simp only [List.map_cons, atS, Seg.ren_size, Seg.ren_at]
    by_cases h : i < s.size
    · simp [h]
    · simp only [h, if_false]; exact atS_ren f r _
theorem sizeS_ren (f : Nat → Nat × Nat) : ∀ l : List Seg, sizeS (l.map (Seg.ren f)) = sizeS l
  | [] => rfl
  | s :: r => by simp only [List.map_cons, sizeS, Seg.ren_size, sizeS_ren f r]
theorem atS_idB {p : Nat → Bool} : ∀ {l : List Seg} {i : Nat} {x : SV}, l.all (Seg.idB p) = true → atS l i = some x → x.idB p = true
  | [], _, _, _, h => by simp [atS] at h
  | s :: r, i, x, hb, h => by
    simp only [List.all_cons, Bool.and_eq_true] at hb
    simp only [atS] at h
    by_cases hi : i < s.size
    · rw [if_pos hi] at h
      have h := Option.some.inj h
      subst h
      cases s with
      | one v => exact hb.1
      | ints k m l => rfl
      | svs m f => simp [Seg.idB] at hb
    · rw [if_neg hi] at h
      exact atS_idB hb.2 h
theorem RowRep.ren {p : Nat → Bool} {f : Nat → Nat × Nat} {ρ ρ' : Rho} (h : RenOk p f ρ ρ') {l : List Seg} {g : Nat → Option Value} (hp : l.all (Seg.idB p) = true) (hr : RowRep ρ l g) : RowRep ρ' (l.map (Seg.ren f)) g := by
  intro i x hx
  rw [atS_ren] at hx
  obtain ⟨y, hy, rfl⟩ := Option.map_eq_some_iff.1 hx
  obtain ⟨v, h1, h2, h3⟩ := hr i y hy
  exact ⟨v, h1, SV.rep_ren h (atS_idB hp hy) h2, h3⟩
theorem AV.rep_ren {p : Nat → Bool} {f : Nat → Nat × Nat} {ρ ρ' : Rho} (h : RenOk p f ρ ρ') {x : AV} {v : Value} (hp : x.idB p = true) (hr : x.rep ρ v) : (x.ren f).rep ρ' v := by
  cases x with
  | s x => exact SV.rep_ren h hp hr
  | agg l => obtain ⟨cs, e1, e2, e3⟩ := hr; exact ⟨cs, e1, by rw [sizeS_ren]; exact e2, e3.ren h hp⟩
  | tup l =>
    obtain ⟨vs, e1, e2⟩ := hr
    simp only [AV.idB, List.all_eq_true] at hp
    refine ⟨vs, e1, fun i x hx => ?_⟩
    simp only [List.getElem?_map, Option.map_eq_some_iff] at hx
    obtain ⟨y, hy, rfl⟩ := hx
    obtain ⟨u, hu, hr⟩ := e2 i y hy
    have h2 := hp y (List.mem_of_getElem? hy)
    refine ⟨u, hu, ?_⟩
    cases y with
    | s y => exact SV.rep_ren h h2 hr
    | agg l => obtain ⟨cs, e1, e2, e3⟩ := hr; exact ⟨cs, e1, by rw [sizeS_ren]; exact e2, e3.ren h h2⟩
    | tup l => exact hr.elim

/-! ### The contract -/
/-- The callee's numbers, the caller's: what is handed in, then what is new. -/
def namesOf (σ : List (Nat × Nat)) (picks : List Nat) (n : Nat) (k : Nat) : Nat × Nat := match σ[k]? with
  | some x => x
  | none => (n + picks.idxOf k, 0)
def knownB (σ : List (Nat × Nat)) (picks : List Nat) (k : Nat) : Bool := Nat.blt k σ.length || picks.contains k
def Blk.ren (f : Nat → Nat × Nat) (b : Blk) : Blk := ⟨b.rw, b.segs.map (Seg.ren f)⟩
structure DoneM (E : Env) (fn : Func) (v : AV) (Hf : Heap) (e : Exit) (T : Tm) (H : Heap) : Prop where
  e : e = .ret ∨ e = .normal
  ret : Ret E fn T H v
  heap : ∀ (k : Nat) (b : Blk), Hf[k]? = some (some b) → H[k]? = some (some b)
/-- The caller's blocks, behind the call. -/
def afterH (σ : List (Nat × Nat)) (picks : List Nat) (n : Nat) (Hf : Heap) : List (Nat × Nat) → Nat → Heap → Heap
  | [], _, H => H
  | (id, _) :: r, k, H => afterH σ picks n Hf r (k + 1) (match Hf[k]? with
    | some (some b) => bif b.rw then H.set id (some (b.ren (namesOf σ picks n))) else H
    | _ => H)
def newH (σ : List (Nat × Nat)) (picks : List Nat) (n : Nat) (Hf : Heap) : Heap := picks.map fun k => (Hf[k]?.getD none).map (Blk.ren (namesOf σ picks n))
theorem afterH_len (σ : List (Nat × Nat)) (picks : List Nat) (n : Nat) (Hf : Heap) : ∀ (l : List (Nat × Nat)) (k : Nat) (H : Heap), (afterH σ picks n Hf l k H).length = H.length
  | [], _, _ => rfl
  | (id, sh) :: r, k, H => by
    rw [afterH, afterH_len σ picks n Hf r]
    split
    · rename_i b _
      cases b.rw <;> simp
    · rfl
/-- A block behind the call: the one that was, or what the callee has made of it. -/
theorem afterH_get (σ : List (Nat × Nat)) (picks : List Nat) (n : Nat) (Hf : Heap) : ∀ (l : List (Nat × Nat)) (k : Nat) (H : Heap) (id : Nat) (q : Blk), (afterH σ picks n Hf l k H)[id]? = some (some q) →
    (∃ j sh b, l[j]? = some (id, sh) ∧ Hf[k + j]? = some (some b) ∧ b.rw = true ∧ q = b.ren (namesOf σ picks n)) ∨ (H[id]? = some (some q) ∧ ∀ j sh b, l[j]? = some (id, sh) → Hf[k + j]? = some (some b) → b.rw = false)
  | [], _, _, _, _, h => .inr ⟨h, fun j sh b e => by simp at e⟩
  | (id0, sh0) :: r, k, H, id, q, h => by
    rw [afterH] at h
    rcases afterH_get σ picks n Hf r (k + 1) _ id q h with ⟨j, sh, b, h1, h2, h3, h4⟩ | ⟨h1, h2⟩
    · exact .inl ⟨j + 1, sh, b, by simpa using h1, by rw [show k + (j + 1) = k + 1 + j by omega]; exact h2, h3, h4⟩
    · have rest : ∀ (hh : ∀ b, Hf[k]? = some (some b) → id0 = id → b.rw = false), ∀ j sh b, ((id0, sh0) :: r)[j]? = some (id, sh) → Hf[k + j]? = some (some b) → b.rw = false := by
        intro hh j sh b e1 e2
        cases j with
        | zero => simp at e1; exact hh b e2 e1.1
        | succ j => exact h2 j sh b (by simpa using e1) (by rw [show k + 1 + j = k + (j + 1) by omega]; exact e2)
      split at h1
      · rename_i b hb
        cases hrw : b.rw with
        | false =>
          rw [hrw] at h1
          exact .inr ⟨h1, rest fun b' e _ => by rw [hb] at e; cases e; exact hrw⟩
        | true =>
          rw [hrw] at h1
          simp only [cond_true] at h1
          by_cases hid : id0 = id
          · subst hid
            by_cases hl : id0 < H.length
            · rw [List.getElem?_set_self hl] at h1
              exact .inl ⟨0, sh0, b, rfl, by simpa using hb, hrw, (Option.some.inj (Option.some.inj h1)).symm⟩
            · rw [List.getElem?_eq_none (by simp; omega)] at h1; cases h1
          · rw [List.getElem?_set_ne hid] at h1
            exact .inr ⟨h1, rest fun b' _ e => absurd e hid⟩
      · rename_i hno
        exact .inr ⟨h1, rest fun b e _ => absurd e (hno b)⟩
theorem SV.unren {σ : List (Nat × Nat)} {f : Nat → Nat × Nat} (hf : ∀ k, k < σ.length → σ[k]? = some (f k)) {ρ : Rho} {x : SV} {v : Value} (hp : x.idB (fun j => Nat.blt j σ.length) = true) (hr : (x.ren f).rep ρ v) : x.rep (foot ρ σ) v := by
  have key : ∀ k b o, Nat.blt k σ.length = true → ρ (f k).1 = some (b, o) → foot ρ σ k = some (b, o + (f k).2) := fun k b o h1 h2 => by
    simp [foot, hf k (Nat.blt_eq.mp h1), h2]
  cases x <;> simp only [SV.rep, SV.ren, SV.idB] at * <;> first
    | exact hr
    | (obtain ⟨b, o, h1, h2⟩ := hr
       exact ⟨b, _, key _ _ _ hp h1, by rw [h2]; simp [Nat.add_assoc, Nat.add_comm, Nat.add_left_comm]⟩)
    | (obtain ⟨b, o, c, h1, h2, h5⟩ := hr
       exact ⟨b, _, c, key _ _ _ hp h1, by rw [h2]; simp [Nat.add_assoc, Nat.add_comm, Nat.add_left_comm], h5⟩)
    | (obtain ⟨vs, h1, h2, h3⟩ := hr
       refine ⟨vs, h1, by simpa using h2, fun i c hc => ?_⟩
       obtain ⟨b, o, h4, h5⟩ := h3 i _ (by rw [List.getElem?_map, hc]; rfl)
       exact ⟨b, _, key _ _ _ (List.all_eq_true.1 hp c (List.mem_of_getElem? hc)) h4, by rw [h5]; simp [Nat.add_assoc, Nat.add_comm, Nat.add_left_comm]⟩)
theorem RowRep.unren {σ : List (Nat × Nat)} {f : Nat → Nat × Nat} (hf : ∀ k, k < σ.length → σ[k]? = some (f k)) {ρ : Rho} {l : List Seg} {g : Nat → Option Value} (hp : l.all (Seg.idB fun j => Nat.blt j σ.length) = true) (hr : ∀ i x, atS l i = some x → ∃ v, g i = some v ∧ (x.ren f).cell ρ v) : RowRep (foot ρ σ) l g := by
  intro i x hx
  obtain ⟨v, h1, h2, h3⟩ := hr i x hx
  exact ⟨v, h1, SV.unren hf (atS_idB hp hx) h2, h3⟩
theorem AV.unren {σ : List (Nat × Nat)} {f : Nat → Nat × Nat} (hf : ∀ k, k < σ.length → σ[k]? = some (f k)) {ρ : Rho} {x : AV} {v : Value} (hp : x.idB (fun j => Nat.blt j σ.length) = true) (hr : (x.ren f).rep ρ v) : x.rep (foot ρ σ) v := by
  cases x with
  | s x => exact SV.unren hf hp hr
  | agg l =>
    obtain ⟨cs, e1, e2, e3⟩ := hr
    refine ⟨cs, e1, by rw [sizeS_ren] at e2; exact e2, RowRep.unren hf hp fun i x hx => ?_⟩
    exact e3 i _ (by rw [atS_ren, hx]; rfl)
  | tup l =>
    obtain ⟨vs, e1, e2⟩ := hr
    simp only [AV.idB, List.all_eq_true] at hp
    refine ⟨vs, e1, fun i x hx => ?_⟩
    obtain ⟨u, hu, hr⟩ := e2 i _ (by rw [List.getElem?_map, hx]; rfl)
    have h2 := hp x (List.mem_of_getElem? hx)
    refine ⟨u, hu, ?_⟩
    cases x with
    | s y => exact SV.unren hf h2 hr
    | agg l =>
      obtain ⟨cs, e1, e2, e3⟩ := hr
      refine ⟨cs, e1, by rw [sizeS_ren] at e2; exact e2, RowRep.unren hf h2 fun i x hx => ?_⟩
      exact e3 i _ (by rw [atS_ren, hx]; rfl)
    | tup l => exact hr.elim
def idKnown (σ : List (Nat × Nat)) (picks : List Nat) (b : Blk) : Bool := b.segs.all (Seg.idB (knownB σ picks))
/-- What is asked of the callee's last heap: what was handed in to be written is told, and is to be written still; what is new is told. -/
def endOk (σ : List (Nat × Nat)) (picks : List Nat) (H0 Hf : Heap) : Bool :=
  ((List.range σ.length).all fun k => (match H0[k]? with | some (some b0) => !b0.rw || (match Hf[k]? with | some (some b) => b.rw && idKnown σ picks b | _ => false) | _ => true) &&
    (match Hf[k]? with | some (some b) => !b.rw || (match H0[k]? with | some (some b0) => b0.rw | _ => false) | _ => true)) &&
  picks.all fun p => Nat.ble σ.length p && (match Hf[p]? with | some (some b) => b.rw && idKnown σ picks b | _ => false)
theorem amut_gen {P : Program} {f : FuncId} {fn : Func} {c : Code} {n : Nat} {args0 args : List AV} {H0 H Hf H' : Heap} {v0 v : AV} (σ : List (Nat × Nat)) (picks : List Nat) (hf : P.funcs[f]? = some fn) (hb : fn.body = some c) (hn : fn.ntmps = n) (hl : args0.length ≤ n)
    (hσ : σ.length = H0.length)
    (hfoot : ∀ (k id sh : Nat) (b0 : Blk), σ[k]? = some (id, sh) → H0[k]? = some (some b0) → b0.segs.all (Seg.idB fun j => Nat.blt j σ.length) = true ∧ ∃ b : Blk, H[id]? = some (some b) ∧ (b0.rw = true → b.rw = true ∧ sh = 0) ∧ ∀ i x, atS b0.segs i = some x → atS b.segs (sh + i) = some (x.ren (namesOf σ picks H.length)))
    (honce : ∀ (k k' id sh sh' : Nat) (b0 : Blk), σ[k]? = some (id, sh) → σ[k']? = some (id, sh') → k ≠ k' → H0[k]? = some (some b0) → b0.rw = false)
    (hlive : ∀ (W : Nat → Prop) (ρ : Rho) (vals : Array Value) (w : World), HRep W ρ H w → ArgsRep ρ args vals → ∀ (k id sh : Nat), σ[k]? = some (id, sh) → ∃ x, ρ id = some x)
    (hargs : args0.map (AV.ren (namesOf σ picks H.length)) = args) (hargsB : args0.all (AV.idB fun j => Nat.blt j σ.length) = true)
    (hend : endOk σ picks H0 Hf = true) (hnd : picks.Nodup) (hvB : v0.idB (knownB σ picks) = true) (hv : v0.ren (namesOf σ picks H.length) = v) (hH' : afterH σ picks H.length Hf σ 0 H ++ newH σ picks H.length Hf = H')
    (h : ∀ W w ρ0 hW hdom, Wp ⟨P, W, w, ρ0, n, H0.length, hW, hdom⟩ c (argT 0 args0) H0 (DoneM ⟨P, W, w, ρ0, n, H0.length, hW, hdom⟩ fn v0 Hf)) : AMut P f H args v H' := by
  subst hn; subst hargs; subst hv; subst hH'
  generalize hg : namesOf σ picks H.length = g at *
  have gσ : ∀ k, k < σ.length → σ[k]? = some (g k) := fun k hk => by rw [← hg]; simp [namesOf, hk]
  simp only [endOk, Bool.and_eq_true, List.all_eq_true, List.mem_range] at hend
  have hup : ∀ (k : Nat) (b0 : Blk), H0[k]? = some (some b0) → b0.rw = true → ∃ b, Hf[k]? = some (some b) ∧ b.rw = true ∧ idKnown σ picks b = true := by
    intro k b0 e1 e2
    have hk : k < σ.length := by rw [hσ]; exact (List.getElem?_eq_some_iff.1 e1).1
    have := (hend.1 k hk).1
    rw [e1] at this
    simp only [e2, Bool.not_true, Bool.false_or] at this
    split at this
    · rename_i b hb'
      rw [Bool.and_eq_true] at this
      exact ⟨b, hb', this.1, this.2⟩
    · cases this
  have hdown : ∀ (k : Nat) (b : Blk), k < σ.length → Hf[k]? = some (some b) → b.rw = true → ∃ b0, H0[k]? = some (some b0) ∧ b0.rw = true := by
    intro k b hk e1 e2
    have := (hend.1 k hk).2
    rw [e1] at this
    simp only [e2, Bool.not_true, Bool.false_or] at this
    split at this
    · rename_i b0 hb0; exact ⟨b0, hb0, this⟩
    · cases this
  have hpk : ∀ p ∈ picks, σ.length ≤ p ∧ ∃ b, Hf[p]? = some (some b) ∧ b.rw = true ∧ idKnown σ picks b = true := by
    intro p hp
    have := hend.2 p hp
    refine ⟨Nat.le_of_ble_eq_true this.1, ?_⟩
    have := this.2
    split at this
    · rename_i b hb'
      rw [Bool.and_eq_true] at this
      exact ⟨b, hb', this.1, this.2⟩
    · cases this
  intro W ρ vals w hH hnone hW hrep
  have live := hlive W ρ vals w hH hrep
  let W' : Nat → Prop := fun b => w.heap.size ≤ b ∨ ∃ (k id sh : Nat) (b0 : Blk) (o : Nat), σ[k]? = some (id, sh) ∧ H0[k]? = some (some b0) ∧ b0.rw = true ∧ ρ id = some (b, o)
  have hW' : ∀ b, w.heap.size ≤ b → W' b := fun b hb => .inl hb
  have hWW : ∀ b, W' b → W b := by
    rintro b (h | ⟨k, id, sh, b0, o, e1, e2, e3, e4⟩)
    · exact hW b h
    · obtain ⟨_, bb, f1, f2, _⟩ := hfoot k id sh b0 e1 e2
      exact (hH.rep id b o bb e4 f1).2 (f2 e3).1
  have hdom : ∀ id, H0.length ≤ id → foot ρ σ id = none := fun id hid => by simp [foot, List.getElem?_eq_none (show σ.length ≤ id by omega)]
  have hfr : ∀ (k b o : Nat), foot ρ σ k = some (b, o) → ∃ id sh o', σ[k]? = some (id, sh) ∧ ρ id = some (b, o') ∧ o = o' + sh := by
    intro id b o e
    unfold foot at e
    cases hs : σ[id]? with
    | none => simp [hs] at e
    | some x =>
      obtain ⟨i, sh⟩ := x
      simp [hs] at e
      obtain ⟨a, o', h1, rfl, h2⟩ := e
      exact ⟨i, sh, o', rfl, h1, h2.symm⟩
  have hH0 : HRep W' (foot ρ σ) H0 w := by
    refine ⟨fun id b o e => ?_, fun k b o b0 e hk => ?_, fun k k' b o o' b0 b0' hne e e' hk hk' => ?_⟩
    · obtain ⟨i, sh, o', h1, h2, h3⟩ := hfr id b o e
      exact hH.lt _ _ _ h2
    · obtain ⟨id, sh, o', h1, h2, h3⟩ := hfr k b o e
      obtain ⟨f1, bb, f3, f2, f4⟩ := hfoot k id sh b0 h1 hk
      obtain ⟨⟨cells, t, fr, g1, g2, g3⟩, _⟩ := hH.rep id b o' bb h2 f3
      refine ⟨⟨cells, t, fr, g1, fun hr => g2 (f2 hr).1, RowRep.unren gσ f1 fun j x hx => ?_⟩, fun hr => .inr ⟨k, id, sh, b0, o', h1, hk, hr, h2⟩⟩
      obtain ⟨v, hv, hc⟩ := g3 _ _ (f4 j x hx)
      exact ⟨v, by show cells[o + j]? = some v; rw [h3, Nat.add_assoc]; exact hv, hc⟩
    · obtain ⟨id, sh, _, h1, h2, _⟩ := hfr k b o e
      obtain ⟨id', sh', _, h1', h2', _⟩ := hfr k' b o' e'
      obtain ⟨_, bb, f3, f2, _⟩ := hfoot k id sh b0 h1 hk
      obtain ⟨_, bb', f3', f2', _⟩ := hfoot k' id' sh' b0' h1' hk'
      by_cases hid : id = id'
      · subst hid
        exact ⟨honce k k' id sh sh' b0 h1 h1' hne hk, honce k' k id sh' sh b0' h1' h1 (Ne.symm hne) hk'⟩
      · have := hH.apart id id' b _ _ bb bb' hid h2 h2' f3 f3'
        constructor
        · cases hq : b0.rw with
          | false => rfl
          | true => rw [(f2 hq).1] at this; exact absurd this.1 (by simp)
        · cases hq : b0'.rw with
          | false => rfl
          | true => rw [(f2' hq).1] at this; exact absurd this.2 (by simp)
  refine calls_enter (W := W') (ρ0 := foot ρ σ) (H0 := H0) (args := args0) hf hb hW' hH0 hdom ⟨by rw [hrep.1, List.length_map], fun i x hx => ?_⟩ hl ((h W' w (foot ρ σ) hW' hdom).mono ?_)
  · exact AV.unren gσ (List.all_eq_true.1 hargsB x (List.mem_of_getElem? hx)) (hrep.2 i _ (by rw [List.getElem?_map, hx]; rfl))
  · rintro e T H1 ⟨he, hret, hheap⟩
    refine ⟨he, _, hret, fun v' ρ' w' h1 h2 h3 h4 h5 => ?_⟩
    let ρ'' : Rho := fun id => if H.length ≤ id ∧ id < H.length + picks.length then (picks[id - H.length]?).bind ρ' else ρ id
    have hnew : ∀ i, i < picks.length → ρ'' (H.length + i) = (picks[i]?).bind ρ' := fun i hi => by
      simp only [ρ'']
      rw [if_pos ⟨by omega, by omega⟩, Nat.add_sub_cancel_left]
    have hold : ∀ id, id < H.length → ρ'' id = ρ id := fun id hid => by simp only [ρ'']; rw [if_neg (by omega)]
    have hlen : (afterH σ picks H.length Hf σ 0 H ++ newH σ picks H.length Hf).length = H.length + picks.length := by simp [afterH_len, newH]
    have hren : RenOk (knownB σ picks) g ρ' ρ'' := by
      intro k b o hk hρ
      by_cases hks : k < σ.length
      · have e1 := gσ k hks
        obtain ⟨⟨b1, o1⟩, hx⟩ := live k (g k).1 (g k).2 (by rw [e1])
        have e2 : foot ρ σ k = some (b1, o1 + (g k).2) := by simp [foot, e1, hx]
        have e3 := h2 k _ e2
        rw [hρ] at e3
        cases e3
        have hlt : (g k).1 < H.length := by
          rcases Nat.lt_or_ge (g k).1 H.length with h | h
          · exact h
          · rw [hnone _ h] at hx; cases hx
        exact ⟨o1, by rw [hold _ hlt]; exact hx, rfl⟩
      · simp only [knownB, Bool.or_eq_true, Nat.blt_eq] at hk
        have hm : k ∈ picks := by
          rcases hk with h | h
          · exact absurd h hks
          · simpa using h
        have hi := List.idxOf_lt_length_of_mem hm
        have e1 : g k = (H.length + picks.idxOf k, 0) := by rw [← hg]; simp [namesOf, List.getElem?_eq_none (show σ.length ≤ k by omega)]
        refine ⟨o, ?_, by rw [e1]; simp⟩
        rw [e1, hnew _ hi]
        have : picks[picks.idxOf k]? = some k := by simp [hi]
        rw [this]; exact hρ
    have brep : ∀ {k : Nat} {b o : Nat} {q : Blk}, ρ' k = some (b, o) → Hf[k]? = some (some q) → idKnown σ picks q = true → BRep ρ'' (q.ren g) w' b o := by
      intro k b o q e1 e2 e3
      obtain ⟨⟨cells, t, fr, g1, g2, g3⟩, _⟩ := h3.rep k b o q e1 (hheap k q e2)
      exact ⟨cells, t, fr, g1, g2, g3.ren hren e3⟩
    -- a new block to be written lies in new memory
    have fresh : ∀ (p b o : Nat), p ∈ picks → ρ' p = some (b, o) → w.heap.size ≤ b := by
      intro p b o hp hρ
      obtain ⟨hps, q, e1, e2, _⟩ := hpk p hp
      rcases (h3.rep p b o q hρ (hheap p q e1)).2 e2 with h | ⟨k, id, sh, b0, o1, s1, s2, s3, s4⟩
      · exact h
      · obtain ⟨q', f1, f2, _⟩ := hup k b0 s2 s3
        have hks : k < σ.length := (List.getElem?_eq_some_iff.1 s1).1
        have e4 : foot ρ σ k = some (b, o1 + sh) := by simp [foot, s1, s4]
        have := h3.apart k p b _ o q' q (by omega) (h2 k _ e4) hρ (hheap k q' f1) (hheap p q e1)
        rw [f2] at this; exact absurd this.1 (by simp)
    -- an old block behind the call
    have oldB : ∀ (id b o : Nat) (q : Blk), id < H.length → ρ id = some (b, o) → (afterH σ picks H.length Hf σ 0 H)[id]? = some (some q) → BRep ρ'' q w' b o ∧ ∃ q0, H[id]? = some (some q0) ∧ (q.rw = true → q0.rw = true) := by
      intro id b o q hid hρ hq
      rcases afterH_get σ picks H.length Hf σ 0 H id q hq with ⟨j, sh, b1, s1, s2, s3, rfl⟩ | ⟨s1, s2⟩
      · rw [Nat.zero_add] at s2
        have hj : j < σ.length := (List.getElem?_eq_some_iff.1 s1).1
        obtain ⟨b0, t1, t2⟩ := hdown j b1 hj s2 s3
        obtain ⟨_, bb, f1, f2, _⟩ := hfoot j id sh b0 s1 t1
        obtain ⟨f3, f4⟩ := f2 t2
        subst f4
        obtain ⟨q', u1, _, u3⟩ := hup j b0 t1 t2
        rw [s2] at u1
        cases u1
        have e4 : foot ρ σ j = some (b, o) := by simp [foot, s1, hρ]
        rw [hg]
        exact ⟨brep (h2 j _ e4) s2 u3, bb, f1, fun _ => f3⟩
      · have hr := hH.rep id b o q hρ s1
        refine ⟨?_, q, s1, fun e => e⟩
        have hsame : w'.heap[b]? = w.heap[b]? := by
          refine h5.block b (hH.lt id b o hρ) ?_
          rintro (h | ⟨k, id', sh, b0, o1, t1, t2, t3, t4⟩)
          · have := hH.lt id b o hρ; omega
          · obtain ⟨_, bb, f1, f2, _⟩ := hfoot k id' sh b0 t1 t2
            by_cases hi : id = id'
            · subst hi
              obtain ⟨q', u1, u2, _⟩ := hup k b0 t2 t3
              have := s2 k sh q' t1 (by rw [Nat.zero_add]; exact u1)
              rw [u2] at this; cases this
            · have := hH.apart id id' b o o1 q bb hi hρ t4 s1 f1
              rw [(f2 t3).1] at this; exact absurd this.2 (by simp)
        refine (hr.1.world hsame).le fun i x hx => ?_
        have : i < H.length := by
          rcases Nat.lt_or_ge i H.length with h | h
          · exact h
          · rw [hnone i h] at hx; cases hx
        rw [hold i this]; exact hx
    have newB : ∀ (i : Nat) (q : Blk), (newH σ picks H.length Hf)[i]? = some (some q) → ∃ (p : Nat) (q0 : Blk), picks[i]? = some p ∧ Hf[p]? = some (some q0) ∧ q = q0.ren g ∧ p ∈ picks := by
      intro i q hq
      simp only [newH, List.getElem?_map, Option.map_eq_some_iff] at hq
      obtain ⟨p, hp, hq⟩ := hq
      obtain ⟨_, q0, e1, _, _⟩ := hpk p (List.mem_of_getElem? hp)
      rw [e1] at hq
      simp at hq
      exact ⟨p, q0, hp, e1, by rw [← hg]; exact hq.symm, List.mem_of_getElem? hp⟩
    have split' : ∀ (id b o : Nat) (q : Blk), ρ'' id = some (b, o) → (afterH σ picks H.length Hf σ 0 H ++ newH σ picks H.length Hf)[id]? = some (some q) →
        (id < H.length ∧ ρ id = some (b, o) ∧ (afterH σ picks H.length Hf σ 0 H)[id]? = some (some q)) ∨ (∃ (p : Nat) (q0 : Blk), id = H.length + (id - H.length) ∧ picks[id - H.length]? = some p ∧ ρ' p = some (b, o) ∧ Hf[p]? = some (some q0) ∧ q = q0.ren g ∧ p ∈ picks) := by
      intro id b o q hρ hq
      by_cases hid : id < H.length
      · rw [List.getElem?_append_left (by rw [afterH_len]; exact hid)] at hq
        rw [hold id hid] at hρ
        exact .inl ⟨hid, hρ, hq⟩
      · rw [List.getElem?_append_right (by rw [afterH_len]; omega), afterH_len] at hq
        obtain ⟨p, q0, e1, e2, e3, e4⟩ := newB _ q hq
        have hi : id - H.length < picks.length := (List.getElem?_eq_some_iff.1 e1).1
        have hh := hnew _ hi
        rw [show H.length + (id - H.length) = id by omega, hρ, e1] at hh
        exact .inr ⟨p, q0, by omega, e1, hh.symm, e2, e3, e4⟩
    refine ⟨v', ρ'', rfl, fun id hid => ?_, fun id x hx => ?_, ⟨fun id b o hρ => ?_, fun id b o q hρ hq => ?_, fun id id' b o o' q q' hne hρ hρ' hq hq' => ?_⟩, ⟨h5.os, h5.tape, h5.output, h5.size, fun k hk hn => h5.block k hk fun h => hn (hWW k h), h5.others⟩, AV.rep_ren hren hvB h1⟩
    · rw [hlen] at hid
      simp only [ρ'']
      rw [if_neg (by omega)]
      exact hnone id (by omega)
    · have : id < H.length := by
        rcases Nat.lt_or_ge id H.length with h | h
        · exact h
        · rw [hnone id h] at hx; cases hx
      rw [hold id this]; exact hx
    · by_cases hid : H.length ≤ id ∧ id < H.length + picks.length
      · have hh := hnew (id - H.length) (by omega)
        rw [show H.length + (id - H.length) = id by omega, hρ] at hh
        cases hp : picks[id - H.length]? with
        | none => rw [hp] at hh; cases hh
        | some p => rw [hp] at hh; exact h3.lt p b o hh.symm
      · simp only [ρ''] at hρ
        rw [if_neg hid] at hρ
        exact Nat.lt_of_lt_of_le (hH.lt id b o hρ) h5.size
    · rcases split' id b o q hρ hq with ⟨s1, s2, s3⟩ | ⟨p, q0, s1, s2, s3, s4, rfl, s6⟩
      · obtain ⟨t1, q0, t2, t3⟩ := oldB id b o q s1 s2 s3
        exact ⟨t1, fun e => (hH.rep id b o q0 s2 t2).2 (t3 e)⟩
      · obtain ⟨_, q1, u1, u2, u3⟩ := hpk p s6
        rw [s4] at u1
        cases u1
        exact ⟨brep s3 s4 u3, fun _ => hW b (fresh p b o s6 s3)⟩
    · rcases split' id b o q hρ hq with ⟨s1, s2, s3⟩ | ⟨p, q0, s1, s2, s3, s4, rfl, s6⟩ <;> rcases split' id' b o' q' hρ' hq' with ⟨s1', s2', s3'⟩ | ⟨p', q0', s1', s2', s3', s4', rfl, s6'⟩
      · obtain ⟨_, q0, t2, t3⟩ := oldB id b o q s1 s2 s3
        obtain ⟨_, q0', t2', t3'⟩ := oldB id' b o' q' s1' s2' s3'
        have := hH.apart id id' b o o' q0 q0' hne s2 s2' t2 t2'
        constructor
        · cases hb : q.rw with
          | false => rfl
          | true => rw [t3 hb] at this; exact absurd this.1 (by simp)
        · cases hb : q'.rw with
          | false => rfl
          | true => rw [t3' hb] at this; exact absurd this.2 (by simp)
      · have := fresh p' b o' s6' s3'
        have := hH.lt id b o s2
        omega
      · have := fresh p b o s6 s3
        have := hH.lt id' b o' s2'
        omega
      · have hpp : p ≠ p' := by
          intro e
          subst e
          have q1 := (List.getElem?_eq_some_iff.1 s2)
          have q2 := (List.getElem?_eq_some_iff.1 s2')
          have := (List.getElem_inj (h₀ := q1.1) (h₁ := q2.1) hnd).1 (q1.2.trans q2.2.symm)
          omega
        have := h3.apart p p' b o o' q0 q0' hpp s3 s3' (hheap p q0 s4) (hheap p' q0' s4')
        exact this
def pickOk (σ : List (Nat × Nat)) (picks : List Nat) (Hf : Heap) : Bool := picks.all fun p => Nat.ble σ.length p && (match Hf[p]? with | some (some b) => b.rw && idKnown σ picks b | _ => false)
/-- A function that writes nothing of what it is handed. -/
theorem acall_gen2 {P : Program} {f : FuncId} {fn : Func} {c : Code} {n : Nat} {args0 args : List AV} {H0 H Hf : Heap} {nb : List Blk} {v0 v : AV} (σ : List (Nat × Nat)) (picks : List Nat) (hf : P.funcs[f]? = some fn) (hb : fn.body = some c) (hn : fn.ntmps = n) (hl : args0.length ≤ n)
    (hσ : σ.length = H0.length)
    (hfoot : ∀ (k id sh : Nat) (b0 : Blk), σ[k]? = some (id, sh) → H0[k]? = some (some b0) → b0.rw = false ∧ b0.segs.all (Seg.idB fun j => Nat.blt j σ.length) = true ∧ ∃ b : Blk, H[id]? = some (some b) ∧ ∀ i x, atS b0.segs i = some x → atS b.segs (sh + i) = some (x.ren (namesOf σ picks H.length)))
    (hlive : ∀ (W : Nat → Prop) (ρ : Rho) (vals : Array Value) (w : World), HRep W ρ H w → ArgsRep ρ args vals → ∀ (k id sh : Nat), σ[k]? = some (id, sh) → id < H.length ∧ ∃ x, ρ id = some x)
    (hargs : args0.map (AV.ren (namesOf σ picks H.length)) = args) (hargsB : args0.all (AV.idB fun j => Nat.blt j σ.length) = true)
    (hend : pickOk σ picks Hf = true) (hnd : picks.Nodup) (hvB : v0.idB (knownB σ picks) = true) (hv : v0.ren (namesOf σ picks H.length) = v) (hnb : newH σ picks H.length Hf = nb.map some)
    (h : ∀ W w ρ0 hW hdom, Wp ⟨P, W, w, ρ0, n, H0.length, hW, hdom⟩ c (argT 0 args0) H0 (DoneM ⟨P, W, w, ρ0, n, H0.length, hW, hdom⟩ fn v0 Hf)) : ACall P f H args v nb := by
  subst hn; subst hargs; subst hv
  generalize hg : namesOf σ picks H.length = g at *
  have gσ : ∀ k, k < σ.length → σ[k]? = some (g k) := fun k hk => by rw [← hg]; simp [namesOf, hk]
  have hnl : nb.length = picks.length := by have := congrArg List.length hnb; simpa [newH] using this.symm
  simp only [pickOk, List.all_eq_true, Bool.and_eq_true] at hend
  have hpk : ∀ p ∈ picks, σ.length ≤ p ∧ ∃ b, Hf[p]? = some (some b) ∧ b.rw = true ∧ idKnown σ picks b = true := by
    intro p hp
    have := hend p hp
    refine ⟨Nat.le_of_ble_eq_true this.1, ?_⟩
    have := this.2
    split at this
    · rename_i b hb'
      rw [Bool.and_eq_true] at this
      exact ⟨b, hb', this.1, this.2⟩
    · cases this
  intro W ρ vals w hH hnone hrep
  rw [hnl] at hnone
  have live := hlive W ρ vals w hH hrep
  let W' : Nat → Prop := fun b => w.heap.size ≤ b
  have hW' : ∀ b, w.heap.size ≤ b → W' b := fun b hb => hb
  have hdom : ∀ id, H0.length ≤ id → foot ρ σ id = none := fun id hid => by simp [foot, List.getElem?_eq_none (show σ.length ≤ id by omega)]
  have hfr : ∀ (k b o : Nat), foot ρ σ k = some (b, o) → ∃ id sh o', σ[k]? = some (id, sh) ∧ ρ id = some (b, o') ∧ o = o' + sh := by
    intro id b o e
    unfold foot at e
    cases hs : σ[id]? with
    | none => simp [hs] at e
    | some x =>
      obtain ⟨i, sh⟩ := x
      simp [hs] at e
      obtain ⟨a, o', h1, rfl, h2⟩ := e
      exact ⟨i, sh, o', rfl, h1, h2.symm⟩
  have hH0 : HRep W' (foot ρ σ) H0 w := by
    refine ⟨fun id b o e => ?_, fun k b o b0 e hk => ?_, fun k k' b o o' b0 b0' hne e e' hk hk' => ?_⟩
    · obtain ⟨i, sh, o', h1, h2, h3⟩ := hfr id b o e
      exact hH.lt _ _ _ h2
    · obtain ⟨id, sh, o', h1, h2, h3⟩ := hfr k b o e
      obtain ⟨f0, f1, bb, f3, f4⟩ := hfoot k id sh b0 h1 hk
      obtain ⟨⟨cells, t, fr, g1, g2, g3⟩, _⟩ := hH.rep id b o' bb h2 f3
      refine ⟨⟨cells, t, fr, g1, fun hr => (by rw [f0] at hr; cases hr), RowRep.unren gσ f1 fun j x hx => ?_⟩, fun hr => (by rw [f0] at hr; cases hr)⟩
      obtain ⟨v, hv, hc⟩ := g3 _ _ (f4 j x hx)
      exact ⟨v, by show cells[o + j]? = some v; rw [h3, Nat.add_assoc]; exact hv, hc⟩
    · obtain ⟨id, sh, _, h1, h2, _⟩ := hfr k b o e
      obtain ⟨id', sh', _, h1', h2', _⟩ := hfr k' b o' e'
      exact ⟨(hfoot k id sh b0 h1 hk).1, (hfoot k' id' sh' b0' h1' hk').1⟩
  refine calls_enter (W := W') (ρ0 := foot ρ σ) (H0 := H0) (args := args0) hf hb hW' hH0 hdom ⟨by rw [hrep.1, List.length_map], fun i x hx => ?_⟩ hl ((h W' w (foot ρ σ) hW' hdom).mono ?_)
  · exact AV.unren gσ (List.all_eq_true.1 hargsB x (List.mem_of_getElem? hx)) (hrep.2 i _ (by rw [List.getElem?_map, hx]; rfl))
  · rintro e T H1 ⟨he, hret, hheap⟩
    refine ⟨he, _, hret, fun v' ρ' w' h1 h2 h3 h4 h5 => ?_⟩
    have hext : Ext w w' := ⟨h5.os, h5.tape, h5.output, h5.size, fun k hk => h5.block k hk (by simp [W']; omega)⟩
    let ρ'' : Rho := fun id => if H.length ≤ id ∧ id < H.length + picks.length then (picks[id - H.length]?).bind ρ' else ρ id
    have hnew : ∀ i, i < picks.length → ρ'' (H.length + i) = (picks[i]?).bind ρ' := fun i hi => by
      simp only [ρ'']
      rw [if_pos ⟨by omega, by omega⟩, Nat.add_sub_cancel_left]
    have hold : ∀ id, id < H.length → ρ'' id = ρ id := fun id hid => by simp only [ρ'']; rw [if_neg (by omega)]
    have hren : RenOk (knownB σ picks) g ρ' ρ'' := by
      intro k b o hk hρ
      by_cases hks : k < σ.length
      · have e1 := gσ k hks
        obtain ⟨hlt, ⟨b1, o1⟩, hx⟩ := live k (g k).1 (g k).2 (by rw [e1])
        have e2 : foot ρ σ k = some (b1, o1 + (g k).2) := by simp [foot, e1, hx]
        have e3 := h2 k _ e2
        rw [hρ] at e3
        cases e3
        exact ⟨o1, by rw [hold _ hlt]; exact hx, rfl⟩
      · simp only [knownB, Bool.or_eq_true, Nat.blt_eq] at hk
        have hm : k ∈ picks := by
          rcases hk with h | h
          · exact absurd h hks
          · simpa using h
        have hi := List.idxOf_lt_length_of_mem hm
        have e1 : g k = (H.length + picks.idxOf k, 0) := by rw [← hg]; simp [namesOf, List.getElem?_eq_none (show σ.length ≤ k by omega)]
        refine ⟨o, ?_, by rw [e1]; simp⟩
        rw [e1, hnew _ hi]
        have : picks[picks.idxOf k]? = some k := by simp [hi]
        rw [this]; exact hρ
    have fresh : ∀ (p b o : Nat), p ∈ picks → ρ' p = some (b, o) → w.heap.size ≤ b := by
      intro p b o hp hρ
      obtain ⟨hps, q, e1, e2, _⟩ := hpk p hp
      exact (h3.rep p b o q hρ (hheap p q e1)).2 e2
    have newB : ∀ (i : Nat) (q : Blk), nb[i]? = some q → ∃ (p : Nat) (q0 : Blk), picks[i]? = some p ∧ Hf[p]? = some (some q0) ∧ q = q0.ren g ∧ p ∈ picks := by
      intro i q hq
      have hq : (newH σ picks H.length Hf)[i]? = some (some q) := by rw [hnb, List.getElem?_map, hq]; rfl
      simp only [newH, List.getElem?_map, Option.map_eq_some_iff] at hq
      obtain ⟨p, hp, hq⟩ := hq
      obtain ⟨_, q0, e1, _, _⟩ := hpk p (List.mem_of_getElem? hp)
      rw [e1] at hq
      simp at hq
      exact ⟨p, q0, hp, e1, by rw [← hg]; exact hq.symm, List.mem_of_getElem? hp⟩
    have pickOf : ∀ (id b o : Nat), H.length ≤ id → id < H.length + picks.length → ρ'' id = some (b, o) → ∃ p, picks[id - H.length]? = some p ∧ p ∈ picks ∧ ρ' p = some (b, o) := by
      intro id b o h1 h2 hρ
      have hh := hnew (id - H.length) (by omega)
      rw [show H.length + (id - H.length) = id by omega, hρ] at hh
      cases hp : picks[id - H.length]? with
      | none => rw [hp] at hh; cases hh
      | some p => rw [hp] at hh; exact ⟨p, rfl, List.mem_of_getElem? hp, hh.symm⟩
    refine ⟨v', ρ'', rfl, ⟨fun id x hx => ?_, hext, fun id b o hρ => ?_, fun i q hq b o hρ => ?_, fun id id' b o o' a1 a2 a3 a4 hρ hρ' => ?_⟩, AV.rep_ren hren hvB h1⟩
    · simp only [ρ'']
      by_cases hid : H.length ≤ id ∧ id < H.length + picks.length
      · have := hnone (id - H.length) (by omega)
        rw [show H.length + (id - H.length) = id by omega, hx] at this
        cases this
      · rw [if_neg hid]; exact hx
    · by_cases hid : H.length ≤ id ∧ id < H.length + picks.length
      · obtain ⟨p, _, hp, hρ'⟩ := pickOf id b o hid.1 hid.2 hρ
        exact .inr ⟨hid.1, by omega, fresh p b o hp hρ', h3.lt p b o hρ'⟩
      · simp only [ρ''] at hρ
        rw [if_neg hid] at hρ; exact .inl hρ
    · obtain ⟨p, q0, e1, e2, rfl, e4⟩ := newB i q hq
      have hi : i < picks.length := (List.getElem?_eq_some_iff.1 e1).1
      rw [hnew i hi, e1] at hρ
      have hρ : ρ' p = some (b, o) := hρ
      obtain ⟨_, q1, u1, u2, u3⟩ := hpk p e4
      rw [e2] at u1
      cases u1
      obtain ⟨⟨cells, t, fr, g1, g2, g3⟩, _⟩ := h3.rep p b o q0 hρ (hheap p q0 e2)
      exact ⟨cells, t, fr, g1, g2, g3.ren hren u3⟩
    · obtain ⟨p, e1, e2, e3⟩ := pickOf id b o a1 (by omega) hρ
      obtain ⟨p', e1', e2', e3'⟩ := pickOf id' b o' a3 (by omega) hρ'
      apply Classical.byContradiction
      intro hne
      have hpp : p ≠ p' := by
        intro e
        subst e
        have q1 := (List.getElem?_eq_some_iff.1 e1)
        have q2 := (List.getElem?_eq_some_iff.1 e1')
        have := (List.getElem_inj (h₀ := q1.1) (h₁ := q2.1) hnd).1 (q1.2.trans q2.2.symm)
        omega
      obtain ⟨_, q, f1, f2, _⟩ := hpk p e2
      obtain ⟨_, q', f1', f2', _⟩ := hpk p' e2'
      have := h3.apart p p' b o o' q q' hpp e3 e3' (hheap p q f1) (hheap p' q' f1')
      rw [f2] at this; exact absurd this.1 (by simp)
end Go.Ab
