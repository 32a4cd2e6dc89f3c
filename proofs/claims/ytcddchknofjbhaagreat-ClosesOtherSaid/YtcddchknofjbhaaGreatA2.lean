/- A part of the proofs of this claim: Bx10, Bx11, Bx12, Bx13. No conditions. -/
import Derived.Test.YtcddchknofjbhaaGreatA1
import Derived.Laws.AppendOwn
import Derived.Deep.AppendSrc
import Derived.Laws.MakeOwn
import Derived.Laws.IdiomStrings
import Derived.Laws.BytesArg
import Derived.Laws.Strings
import Derived.Great.FillDense
import Derived.Laws.StructEq
set_option linter.unusedVariables false
set_option linter.unusedSimpArgs false
section
/- A call, by a contract: what is handed in, told as the contract wants it. No program. -/
namespace Go.Bx

def AConv (R : List Nat) (H : Heap) (x y : AV) : Prop := ∀ (c : Nat → Option Blk) (W : Nat → Prop) (ρ : Rho) (w : World) (u : Value), (∀ id ∈ R, c id = hget H id) → HRep W ρ c w → x.rep ρ u → y.rep ρ u
theorem AConv.same {H : Heap} {x : AV} : AConv [] H x x := fun _ _ _ _ _ _ _ h => h
theorem AConv.eq {H : Heap} {x y : AV} (e : x = y) : AConv [] H x y := e ▸ .same
theorem AConv.sub {R R' : List Nat} {H : Heap} {x y : AV} (h : AConv R H x y) (hs : ∀ id ∈ R, id ∈ R') : AConv R' H x y := fun c W ρ w u hc => h c W ρ w u fun id hi => hc id (hs id hi)
theorem AConv.trans {R1 R2 : List Nat} {H : Heap} {x y z : AV} (h : AConv R1 H x y) (k : AConv R2 H y z) : AConv (R1 ++ R2) H x z := fun c W ρ w u hc hH hr =>
  k c W ρ w u (fun id hi => hc id (by simp [hi])) hH (h c W ρ w u (fun id hi => hc id (by simp [hi])) hH hr)
theorem conv_nil {H : Heap} {k : IntKind} : AConv [] H (.s .nils) (.s (.fzi k [])) := fun _ _ _ _ _ _ _ h => .inl ⟨rfl, none, 0, h⟩
theorem conv_sl {H : Heap} {id base idx len cap n : Nat} {k : Blk} {kk : IntKind} {l l' : List Int} (hb : hget H id = some k) (hro : k.rw = false) (hs : segAt k.segs base = some (.ints kk n l)) (hn : idx + len ≤ n) (hc : len ≤ cap) (hl : l.length = n) (hl' : (l.drop idx).take len = l') :
    AConv [id] H (.s (.slice id base idx len cap)) (.s (.fzi kk l')) := by
  subst hl'
  rintro c W ρ w u hcc hH ⟨b, o, h1, rfl⟩
  obtain ⟨⟨cells, t, fr, g1, g2, g3, g4⟩, _⟩ := hH.rep id b o k h1 ((hcc id (by simp)).trans hb)
  have hlen : ((l.drop idx).take len).length = len := by simp; omega
  refine .inr ⟨b, o + base + idx, cap, cells, by rw [hlen], by rw [hlen]; exact hc, g3 hro, fun i hi => ?_⟩
  rw [hlen] at hi
  obtain ⟨v, hv, hr⟩ := g4 (base + (idx + i)) _ (segAt_at hs (idx + i) (by show idx + i < n; omega))
  have hr : v = .int kk (l.getD (idx + i) 0) := hr.1
  have hv : cells[o + (base + (idx + i))]? = some v := hv
  rw [show o + base + idx + i = o + (base + (idx + i)) by omega, hv, hr]
  congr 2
  rw [List.getD_eq_getElem?_getD, List.getD_eq_getElem?_getD, List.getElem?_take_of_lt hi, List.getElem?_drop]
theorem noM_ren {p : Nat → Bool} (hp : ∀ id, p id = false) (ρ : Rho) : RenOk p (fun i => i) ρ ρ.noM := ⟨fun id _ h => (by rw [hp] at h; cases h), fun _ _ h => h, fun _ _ h => h⟩
theorem SV.ren_id (x : SV) : x.ren (fun i => i) = x := by
  induction x with
  | clo f n g ih => simp only [SV.ren]; congr; funext i; exact ih i
  | ifc t x ih => simp only [SV.ren, ih]
  | _ => rfl
theorem SV.to_noM {x : SV} {ρ : Rho} {v : Value} (hx : x.idB (fun _ => false) = true) (h : x.rep ρ v) : x.rep ρ.noM v := SV.rep_ren (noM_ren (fun _ => rfl) ρ) hx (by rwa [SV.ren_id])
theorem conv_ptr {H : Heap} {id base idx n : Nat} {k : Blk} (hb : hget H id = some k) (hro : k.rw = false) (hn : sizeS k.segs = n) (hid : k.segs.all (Seg.idB fun _ => false) = true) :
    AConv [id] H (.s (.ptr id base idx)) (.s (.fptr n (cellsF k.segs) base idx)) := by
  subst hn
  rintro c W ρ w u hcc hH ⟨b, o, h1, rfl⟩
  obtain ⟨⟨cells, t, fr, g1, g2, g3, g4⟩, _⟩ := hH.rep id b o k h1 ((hcc id (by simp)).trans hb)
  refine ⟨b, o, cells, rfl, g3 hro, fun j hj => ?_⟩
  obtain ⟨x, hx⟩ := atS_some hj
  obtain ⟨v, hv, hr⟩ := g4 j x hx
  refine ⟨v, hv, ?_, hr.2⟩
  simp only [cellsF, hx, Option.getD_some]
  exact SV.to_noM (atS_idB hid hx) hr.1
theorem conv_rows {H : Heap} {R : List Nat} {id base idx len cap wd : Nat} {k : Blk} {g : Nat → Nat → SV} (hb : hget H id = some k) (hro : k.rw = false) (hc : len ≤ cap)
    (hg : ∀ i j, i < len → j < wd → ∃ x, atS k.segs (base + idx + (i * wd + j)) = some x ∧ AConv R H (.s x) (.s (g i j)) ∧ (g i j).idB (fun _ => false) = true) :
    AConv (id :: R) H (.s (.slice id base idx len cap)) (.s (.fz len wd g)) := by
  rintro c W ρ w u hcc hH ⟨b, o, h1, rfl⟩
  obtain ⟨⟨cells, t, fr, g1, g2, g3, g4⟩, _⟩ := hH.rep id b o k h1 ((hcc id (by simp)).trans hb)
  refine .inr ⟨b, o + base + idx, cap, cells, rfl, hc, g3 hro, fun i j hi hj => ?_⟩
  obtain ⟨x, hx, hcv, hid⟩ := hg i j hi hj
  obtain ⟨v, hv, hr⟩ := g4 _ x hx
  have hv : cells[o + (base + idx + (i * wd + j))]? = some v := hv
  refine ⟨v, by rw [show o + base + idx + (i * wd + j) = o + (base + idx + (i * wd + j)) by omega]; exact hv, ?_, hr.2⟩
  exact SV.to_noM hid (hcv c W ρ w v (fun q hq => hcc q (by simp [hq])) hH hr.1)
inductive SegC (R : List Nat) (H : Heap) : List Seg → List Seg → Prop
  | nil : SegC R H [] []
  | one {x y r s} (h : AConv R H (.s x) (.s y)) (k : SegC R H r s) : SegC R H (.one x :: r) (.one y :: s)
  | same {x r s} (k : SegC R H r s) : SegC R H (x :: r) (x :: s)
theorem SegC.at {R : List Nat} {H : Heap} {l m : List Seg} (h : SegC R H l m) : sizeS m = sizeS l ∧ ∀ i y, atS m i = some y → ∃ x, atS l i = some x ∧ AConv R H (.s x) (.s y) := by
  induction h with
  | nil => exact ⟨rfl, fun i y h => by simp [atS] at h⟩
  | @one x y r s h k ih =>
    refine ⟨by simp [sizeS, Seg.size, ih.1], fun i z hz => ?_⟩
    cases i with
    | zero => simp [atS, Seg.size, Seg.at] at hz; subst hz; exact ⟨x, by simp [atS, Seg.size, Seg.at], h⟩
    | succ i =>
      simp [atS, Seg.size] at hz
      obtain ⟨q, hq, hc⟩ := ih.2 i z hz
      exact ⟨q, by simp [atS, Seg.size, hq], hc⟩
  | @same x r s k ih =>
    refine ⟨by simp [sizeS, ih.1], fun i z hz => ?_⟩
    simp only [atS] at hz ⊢
    by_cases hi : i < x.size
    · rw [if_pos hi] at hz ⊢; exact ⟨z, hz, fun _ _ _ _ _ _ _ h => h⟩
    · rw [if_neg hi] at hz ⊢; exact ih.2 _ z hz
theorem conv_agg {H : Heap} {R : List Nat} {l m : List Seg} (h : SegC R H l m) : AConv R H (.agg l) (.agg m) := by
  rintro c W ρ w u hcc hH ⟨cs, rfl, h2, h3⟩
  obtain ⟨a1, a2⟩ := h.at
  refine ⟨cs, rfl, by rw [h2, a1], fun i y hy => ?_⟩
  obtain ⟨x, hx, hcv⟩ := a2 i y hy
  obtain ⟨v, hv, hr⟩ := h3 i x hx
  exact ⟨v, hv, hcv c W ρ w v hcc hH hr.1, hr.2⟩

inductive ConvL (T : Tm) (H : Heap) : List Nat → List Operand → List AV → Prop
  | nil : ConvL T H [] [] []
  | cons {x u a R1 R2 xs as} (hx : ev T x = u) (h : AConv R1 H u a) (k : ConvL T H R2 xs as) : ConvL T H (R1 ++ R2) (x :: xs) (a :: as)
theorem ConvL.get {T : Tm} {H : Heap} {R : List Nat} {xs : List Operand} {as : List AV} (h : ConvL T H R xs as) : xs.length = as.length ∧ ∀ (i : Nat) (x : Operand) (a : AV), xs[i]? = some x → as[i]? = some a → AConv R H (ev T x) a := by
  induction h with
  | nil => exact ⟨rfl, fun i x a h => by simp at h⟩
  | @cons x u a R1 R2 xs as hx h k ih =>
    refine ⟨by simp [ih.1], fun i y b hy hb => ?_⟩
    cases i with
    | zero => simp at hy hb; subst hy; subst hb; rw [hx]; exact h.sub fun id hi => by simp [hi]
    | succ i => simp at hy hb; exact (ih.2 i y b hy hb).sub fun id hi => by simp [hi]

structure FwdOk (p : Nat → Bool) (f : Nat → Nat) (ρ ρ' : Rho) : Prop where
  m : ∀ id x, p id = true → ρ.m id = some x → ρ'.m (f id) = some x
  fz : ∀ b x, ρ.fz b = some x → ρ'.fz b = some x
  sz : ∀ b x, ρ.sz b = some x → ρ'.sz b = some x
theorem FwdOk.noM {p : Nat → Bool} {f : Nat → Nat} {ρ ρ' : Rho} (h : FwdOk p f ρ ρ') : Rle ρ.noM ρ'.noM := ⟨fun _ _ e => (by cases e), h.fz, h.sz⟩
theorem SV.rep_fwd {p : Nat → Bool} {f : Nat → Nat} {ρ ρ' : Rho} (h : FwdOk p f ρ ρ') {x : SV} : ∀ {v : Value}, x.idB p = true → x.rep ρ v → (x.ren f).rep ρ' v := by
  induction x with
  | int | bool | nilp | nils | val | junk => exact fun _ h => h
  | ptr => rintro v hp ⟨b, o, h1, h2⟩; exact ⟨b, o, h.m _ _ hp h1, h2⟩
  | slice => rintro v hp ⟨b, o, h1, h2⟩; exact ⟨b, o, h.m _ _ hp h1, h2⟩
  | slx => rintro v hp ⟨b, o, c, h1, h2⟩; exact ⟨b, o, c, h.m _ _ hp h1, h2⟩
  | gro =>
    rintro v hp (h1 | ⟨b, o, c, n, h1, h2, h3, h4, h5⟩)
    · exact .inl h1
    · exact .inr ⟨b, o, c, n, h.m _ _ hp h1, h2, h3, h.sz _ _ h4, h5⟩
  | clo fn n g ih =>
    rintro v hp ⟨vs, h1, h2, h3⟩
    refine ⟨vs, h1, h2, fun i hi => ?_⟩
    obtain ⟨u, hu, hr⟩ := h3 i hi
    refine ⟨u, hu, ih i ?_ hr⟩
    simp only [SV.idB, List.all_eq_true, List.mem_range] at hp
    exact hp i hi
  | ifc t x ih => rintro v hp ⟨u, h1, h2, h3⟩; exact ⟨u, h1, ih hp h2, h3⟩
  | fzi k l =>
    rintro v hp (h1 | ⟨b, o, c, cs, h1, h2, h3, h4⟩)
    · exact .inl h1
    · exact .inr ⟨b, o, c, cs, h1, h2, h.fz _ _ h3, h4⟩
  | fz n w g ih =>
    rintro v hp (h1 | ⟨b, o, c, cs, h1, h2, h3, h4⟩)
    · exact .inl h1
    · exact .inr ⟨b, o, c, cs, h1, h2, h.fz _ _ h3, fun i j hi hj => let ⟨u, hu, hr, hc⟩ := h4 i j hi hj; ⟨u, hu, SV.rep_le h.noM hr, hc⟩⟩
  | fptr n g base idx ih =>
    rintro v hp ⟨b, o, cs, h1, h3, h4⟩
    exact ⟨b, o, cs, h1, h.fz _ _ h3, fun j hj => let ⟨u, hu, hr, hc⟩ := h4 j hj; ⟨u, hu, SV.rep_le h.noM hr, hc⟩⟩
  | noid x ih => rintro v hp ⟨h1, h2⟩; exact ⟨SV.rep_le h.noM h1, h2⟩
theorem RowRep.fwd {p : Nat → Bool} {f : Nat → Nat} {ρ ρ' : Rho} (h : FwdOk p f ρ ρ') {l : List Seg} {g : Nat → Option Value} (hp : l.all (Seg.idB p) = true) (hr : RowRep ρ l g) : RowRep ρ' (l.map (Seg.ren f)) g := fun i y hy => by
  rw [atS_ren, Option.map_eq_some_iff] at hy
  obtain ⟨x, hx, rfl⟩ := hy
  obtain ⟨v, h1, h2, h3⟩ := hr i x hx
  exact ⟨v, h1, SV.rep_fwd h (atS_idB hp hx) h2, h3⟩
theorem AV.rep_fwd {p : Nat → Bool} {f : Nat → Nat} {ρ ρ' : Rho} (h : FwdOk p f ρ ρ') {x : AV} {v : Value} (hp : x.idB p = true) (hr : x.rep ρ v) : (x.ren f).rep ρ' v := by
  cases x with
  | s x => exact SV.rep_fwd h hp hr
  | agg l => obtain ⟨cs, e1, e2, e3⟩ := hr; exact ⟨cs, e1, by rw [e2, sizeS_ren], e3.fwd h hp⟩
  | tup l =>
    obtain ⟨vs, e1, e2⟩ := hr
    simp only [AV.idB, List.all_eq_true] at hp
    refine ⟨vs, e1, fun i y hy => ?_⟩
    rw [List.getElem?_map, Option.map_eq_some_iff] at hy
    obtain ⟨x, hx, rfl⟩ := hy
    have hpx := hp x (List.mem_of_getElem? hx)
    obtain ⟨u, hu, hr⟩ := e2 i x hx
    refine ⟨u, hu, ?_⟩
    cases x with
    | s x => exact SV.rep_fwd h hpx hr
    | agg l => obtain ⟨cs, e1, e2, e3⟩ := hr; exact ⟨cs, e1, by rw [e2, sizeS_ren], e3.fwd h hpx⟩
    | tup q => exact hr.elim

def muts : List Nat → Heap → Nat → List (Nat × Nat)
  | x :: r, some b :: H0, k => bif b.rw then (x, k) :: muts r H0 (k + 1) else muts r H0 (k + 1)
  | _ :: r, none :: H0, k => muts r H0 (k + 1)
  | _, _, _ => []
theorem muts_mem : ∀ {σ : List Nat} {H0 : Heap} {k : Nat} {p : Nat × Nat}, p ∈ muts σ H0 k → k ≤ p.2 ∧ σ[p.2 - k]? = some p.1 ∧ ∃ b, hget H0 (p.2 - k) = some b ∧ b.rw = true
  | [], _, _, _, h => by simp [muts] at h
  | x :: r, [], _, _, h => by simp [muts] at h
  | x :: r, none :: H0, k, p, h => by
    obtain ⟨h1, h2, b, h3, h4⟩ := muts_mem (σ := r) (H0 := H0) (k := k + 1) h
    rw [show p.2 - k = (p.2 - (k + 1)) + 1 by omega]
    exact ⟨by omega, by simpa using h2, b, by simpa [hget] using h3, h4⟩
  | x :: r, some b :: H0, k, p, h => by
    simp only [muts] at h
    have tail : p ∈ muts r H0 (k + 1) → k ≤ p.2 ∧ (x :: r)[p.2 - k]? = some p.1 ∧ ∃ b', hget (some b :: H0) (p.2 - k) = some b' ∧ b'.rw = true := by
      intro h
      obtain ⟨h1, h2, b', h3, h4⟩ := muts_mem (σ := r) (H0 := H0) (k := k + 1) h
      rw [show p.2 - k = (p.2 - (k + 1)) + 1 by omega]
      exact ⟨by omega, by simpa using h2, b', by simpa [hget] using h3, h4⟩
    cases hb : b.rw with
    | true =>
      rw [hb] at h
      simp only [cond_true, List.mem_cons] at h
      rcases h with rfl | h
      · exact ⟨Nat.le_refl _, by simp, b, by simp [hget], hb⟩
      · exact tail h
    | false =>
      rw [hb] at h
      exact tail h
theorem muts_of : ∀ {σ : List Nat} {H0 : Heap} {k i id : Nat} {b : Blk}, σ[i]? = some id → hget H0 i = some b → b.rw = true → (id, k + i) ∈ muts σ H0 k
  | [], _, _, _, _, _, h, _, _ => by simp at h
  | x :: r, [], _, i, _, _, _, h, _ => by simp [hget] at h
  | x :: r, none :: H0, k, i, id, b, h1, h2, h3 => by
    cases i with
    | zero => simp [hget] at h2
    | succ i =>
      have := muts_of (σ := r) (H0 := H0) (k := k + 1) (i := i) (by simpa using h1) (by simpa [hget] using h2) h3
      rwa [show k + 1 + i = k + (i + 1) by omega] at this
  | x :: r, some c :: H0, k, i, id, b, h1, h2, h3 => by
    cases i with
    | zero =>
      simp [hget] at h1 h2
      subst h1; subst h2
      simp [muts, h3]
    | succ i =>
      have := muts_of (σ := r) (H0 := H0) (k := k + 1) (i := i) (by simpa using h1) (by simpa [hget] using h2) h3
      rw [show k + 1 + i = k + (i + 1) by omega] at this
      simp only [muts]
      cases c.rw with
      | true => exact List.mem_cons_of_mem _ this
      | false => exact this
def setAll : Heap → List (Nat × Nat) → Heap → (Nat → Nat) → Heap
  | H, [], _, _ => H
  | H, (id, k) :: r, H1, f => setAll (H.set id ((hget H1 k).map (Blk.ren f))) r H1 f
def renAll (f : Nat → Nat) : Heap → Heap
  | [] => []
  | b :: r => b.map (Blk.ren f) :: renAll f r
theorem renAll_get (f : Nat → Nat) : ∀ (H : Heap) (i : Nat), hget (renAll f H) i = (hget H i).map (Blk.ren f)
  | [], i => by simp [renAll, hget]
  | b :: r, i => by
    cases i with
    | zero => simp [renAll, hget]
    | succ i => have := renAll_get f r i; simpa [renAll, hget] using this
theorem renAll_len (f : Nat → Nat) : ∀ H : Heap, (renAll f H).length = H.length
  | [] => rfl
  | _ :: r => by simp [renAll, renAll_len f r]
theorem setAll_len : ∀ (l : List (Nat × Nat)) (H H1 : Heap) (f : Nat → Nat), (setAll H l H1 f).length = H.length
  | [], _, _, _ => rfl
  | _ :: r, H, H1, f => by simp only [setAll]; rw [setAll_len r]; simp
theorem setAll_out : ∀ {l : List (Nat × Nat)} {H H1 : Heap} {f : Nat → Nat} {id : Nat}, id ∉ l.map (·.1) → hget (setAll H l H1 f) id = hget H id
  | [], _, _, _, _, _ => rfl
  | (j, k) :: r, H, H1, f, id, h => by
    simp only [List.map_cons, List.mem_cons, not_or] at h
    simp only [setAll]
    rw [setAll_out h.2]
    unfold hget
    rw [List.getElem?_set_ne (fun e => h.1 e.symm)]
theorem setAll_in : ∀ {l : List (Nat × Nat)} {H H1 : Heap} {f : Nat → Nat} {id k : Nat}, (l.map (·.1)).Nodup → (id, k) ∈ l → id < H.length → hget (setAll H l H1 f) id = (hget H1 k).map (Blk.ren f)
  | (j, q) :: r, H, H1, f, id, k, hn, h, hl => by
    simp only [List.map_cons, List.nodup_cons] at hn
    simp only [setAll]
    rcases List.mem_cons.1 h with e | h
    · cases e
      rw [setAll_out hn.1, hget_set hl, if_pos rfl]
    · exact setAll_in hn.2 h (by simpa using hl)
def nmsF (σ : List Nat) (n : Nat) : Nat → Nat := fun k => match σ[k]? with
  | some id => id
  | none => n + (k - σ.length)
def aftH (H : Heap) (σ : List Nat) (H0 H1 : Heap) : Heap := setAll H (muts σ H0 0) H1 (nmsF σ H.length) ++ renAll (nmsF σ H.length) (H1.drop H0.length)

def Callable (P : Program) (f : FuncId) : Prop := ∃ fn, P.funcs[f]? = some fn ∧ (fn.name == "runtime.NumGoroutine") = false ∧ fn.body.isNone = false
theorem run_callFunc {P : Program} {f : FuncId} (hf : Callable P f) (vals : Array Value) (w : World) : (callFunc f vals).run P w = .ok (.enter f vals) w := by
  obtain ⟨fn, h1, h2, h3⟩ := hf
  have h2' : ¬ fn.name = "runtime.NumGoroutine" := by simpa using h2
  have h3' : ¬ fn.body = none := by intro h; rw [h] at h3; simp at h3
  simp [callFunc, Sem.run_bind, h1, h2', h3']

theorem hget_drop (H : Heap) (n i : Nat) : hget (H.drop n) i = hget H (n + i) := by unfold hget; rw [List.getElem?_drop]

theorem step_call {P : Program} {o : Oper} {T : Tm} {f : FuncId} {args0 : List AV} {H H0 H1 : Heap} {v0 : AV} (σ R : List Nat) (con : Con P f args0 H0 v0 H1)
    (hgive : ∀ (ρ : Rho) (a : Act) (w : World), Ops o T ρ a → ∃ vals, (execOp a.eval o).run P w = .ok (.enter f vals) w ∧ (∀ c W, (∀ id ∈ R, c id = hget H id) → HRep W ρ c w → ArgsRep ρ (args0.map (AV.ren (nmsF σ H.length))) vals))
    (hk : args0.all (AV.idB (inB σ.length)) = true) (hσ : ∀ k b, hget H0 k = some b → ∃ id, σ[k]? = some id ∧ hget H id = some (b.ren (nmsF σ H.length)) ∧ b.segs.all (Seg.idB (inB σ.length)) = true) (hall : ∀ k, k < H0.length → ∃ b, hget H0 k = some b) (hσl : σ.length = H0.length) (hd : distinct σ = true) (hlt : ∀ id ∈ σ ++ R, id < H.length)
    (hk1 : ∀ k b, hget H1 k = some b → b.segs.all (Seg.idB (inB H1.length)) = true) (hv : v0.idB (inB H1.length) = true) (hR : ∀ id ∈ R, ∃ b, hget H id = some b ∧ b.rw = false) :
    LOk P o T H (aftH H σ H0 H1) (v0.ren (nmsF σ H.length)) (σ ++ R) ((muts σ H0 0).map (·.1)) := by
  have hnd := distinct_nodup hd
  have hinj : ∀ (i j id : Nat), σ[i]? = some id → σ[j]? = some id → i = j := fun i j id h1 h2 => by
    have l1 := List.getElem?_eq_some_iff.1 h1
    have l2 := List.getElem?_eq_some_iff.1 h2
    exact (List.getElem_inj (h₀ := l1.1) (h₁ := l2.1) hnd).1 (l1.2.trans l2.2.symm)
  have hmnd : ((muts σ H0 0).map (·.1)).Nodup := by
    have : ∀ {σ : List Nat} {H0 : Heap} {k : Nat}, σ.Nodup → ((muts σ H0 k).map (·.1)).Nodup ∧ ∀ id ∈ (muts σ H0 k).map (·.1), id ∈ σ := by
      intro σ
      induction σ with
      | nil => intro H0 k _; simp [muts]
      | cons x r ih =>
        intro H0 k hn
        have hn' := List.nodup_cons.1 hn
        cases H0 with
        | nil => simp [muts]
        | cons b H0 =>
          obtain ⟨i1, i2⟩ := ih (H0 := H0) (k := k + 1) hn'.2
          cases b with
          | none => exact ⟨i1, fun id hi => List.mem_cons_of_mem _ (i2 id hi)⟩
          | some b =>
            simp only [muts]
            cases b.rw with
            | false => exact ⟨i1, fun id hi => List.mem_cons_of_mem _ (i2 id hi)⟩
            | true =>
              simp only [cond_true, List.map_cons, List.nodup_cons, List.mem_cons]
              exact ⟨⟨fun h => hn'.1 (i2 _ h), i1⟩, fun id hi => hi.imp (fun h => h) (i2 id)⟩
    exact (this hnd).1
  have hM : ∀ id, id ∈ (muts σ H0 0).map (·.1) → ∃ k b, (id, k) ∈ muts σ H0 0 ∧ σ[k]? = some id ∧ hget H0 k = some b ∧ b.rw = true := by
    intro id hi
    obtain ⟨⟨i, k⟩, hp, rfl⟩ := List.mem_map.1 hi
    obtain ⟨_, h2, b, h3, h4⟩ := muts_mem hp
    exact ⟨k, b, hp, by simpa using h2, by simpa using h3, h4⟩
  have hlen : (aftH H σ H0 H1).length = H.length + (H1.length - H0.length) := by simp [aftH, setAll_len, renAll_len]
  have gOld : ∀ id, id < H.length → id ∉ (muts σ H0 0).map (·.1) → hget (aftH H σ H0 H1) id = hget H id := fun id h1 h2 => by
    unfold aftH; rw [hget_app, if_pos (by rw [setAll_len]; exact h1), setAll_out h2]
  have gMut : ∀ id k, (id, k) ∈ muts σ H0 0 → hget (aftH H σ H0 H1) id = (hget H1 k).map (Blk.ren (nmsF σ H.length)) := fun id k h => by
    have hi : id < H.length := by
      obtain ⟨_, h2, _⟩ := muts_mem h
      exact hlt id (List.mem_append.2 (.inl (List.mem_of_getElem? h2)))
    unfold aftH; rw [hget_app, if_pos (by rw [setAll_len]; exact hi), setAll_in hmnd h hi]
  have gNew : ∀ id, H.length ≤ id → hget (aftH H σ H0 H1) id = (hget H1 (σ.length + (id - H.length))).map (Blk.ren (nmsF σ H.length)) := fun id h => by
    unfold aftH; rw [hget_app, if_neg (by rw [setAll_len]; omega), setAll_len, renAll_get, hget_drop, hσl]
  have nmsOld : ∀ k id, σ[k]? = some id → nmsF σ H.length k = id := fun k id h => by simp [nmsF, h]
  have nmsNew : ∀ k, σ.length ≤ k → nmsF σ H.length k = H.length + (k - σ.length) := fun k h => by simp [nmsF, List.getElem?_eq_none h]
  refine ⟨by omega, fun id h1 h2 => gOld id h1 h2, fun id hi => ?_, hlt, ?_⟩
  · obtain ⟨k, b, _, h2, _⟩ := hM id hi
    exact List.mem_append.2 (.inl (List.mem_of_getElem? h2))
  intro W ρ a w hH hnone hW ho next Q hq
  rw [msk_len, msk_len, hlen] at hnone
  have hFm : ∀ id, id ∈ σ ++ R → hget (msk (σ ++ R) H.length H) id = hget H id := fun id hi => by rw [hget_msk, if_pos (.inl hi)]
  obtain ⟨vals, hrun, hvals⟩ := hgive ρ a w ho
  have hvals := hvals _ W (fun id hi => hFm id (List.mem_append.2 (.inr hi))) hH
  rw [hrun]
  let ρc : Rho := ⟨fun k => match σ[k]? with | some id => ρ.m id | none => none, ρ.fz, ρ.sz⟩
  have hρc : ∀ k x, ρc.m k = some x → ∃ id, σ[k]? = some id ∧ ρ.m id = some x := by
    intro k x hx
    have hx : (match σ[k]? with | some id => ρ.m id | none => none) = some x := hx
    cases h : σ[k]? with
    | none => rw [h] at hx; cases hx
    | some id => rw [h] at hx; exact ⟨id, rfl, hx⟩
  have hρc' : ∀ k id, σ[k]? = some id → ρc.m k = ρ.m id := fun k id h => by
    show (match σ[k]? with | some id => ρ.m id | none => none) = ρ.m id
    rw [h]
  have hren : RenOk (inB σ.length) (nmsF σ H.length) ρ ρc := ⟨fun k x hp hx => by
    have hkl : k < σ.length := Nat.blt_eq.mp hp
    have hs : σ[k]? = some σ[k] := by simp [hkl]
    rw [nmsOld k _ hs] at hx
    rw [hρc' k _ hs]; exact hx, fun _ _ h => h, fun _ _ h => h⟩
  have hH0 : HRep W ρc (hget H0) w := by
    refine ⟨fun k b o e => ?_, fun k b o q e1 e2 => ?_, fun k k' b o o' q q' hne e1 e2 e3 e4 => ?_, hH.fz, hH.sz⟩
    · obtain ⟨id, _, h⟩ := hρc k _ e; exact hH.lt _ _ _ h
    · obtain ⟨id, h1, h2⟩ := hρc k _ e1
      obtain ⟨id', h3, h4, h5⟩ := hσ k q e2
      rw [h1] at h3; cases h3
      obtain ⟨⟨cells, t, fr, g1, g2, g3, g4⟩, hw⟩ := hH.rep id b o _ h2 ((hFm id (List.mem_append.2 (.inl (List.mem_of_getElem? h1)))).trans h4)
      exact ⟨⟨cells, t, fr, g1, g2, g3, g4.ren hren h5⟩, hw⟩
    · obtain ⟨id, h1, h2⟩ := hρc k _ e1
      obtain ⟨id', h1', h2'⟩ := hρc k' _ e2
      obtain ⟨j, h3, h4, _⟩ := hσ k q e3
      obtain ⟨j', h3', h4', _⟩ := hσ k' q' e4
      rw [h1] at h3; cases h3
      rw [h1'] at h3'; cases h3'
      exact hH.apart id id' b o o' (q.ren (nmsF σ H.length)) (q'.ren (nmsF σ H.length)) (fun e => hne (hinj _ _ id h1 (e ▸ h1'))) h2 h2' ((hFm id (List.mem_append.2 (.inl (List.mem_of_getElem? h1)))).trans h4) ((hFm id' (List.mem_append.2 (.inl (List.mem_of_getElem? h1')))).trans h4')
  have hargs : ArgsRep ρc args0 vals := by
    refine ⟨by rw [hvals.1]; simp, fun i x hx => ?_⟩
    have h1 := hvals.2 i _ (by rw [List.getElem?_map, hx]; rfl)
    exact AV.rep_ren hren (List.all_eq_true.1 hk x (List.mem_of_getElem? hx)) h1
  refine (con.run W ρc vals w hH0 (fun k hk => ?_) hW hargs).mono ?_
  · show (match σ[k]? with | some id => ρ.m id | none => none) = none
    rw [List.getElem?_eq_none (by omega)]
  rintro e w' ⟨v', ρ1, W1, rfl, k, hvr⟩
  let ρ' : Rho := ⟨fun id => if H.length ≤ id ∧ id < H.length + (H1.length - H0.length) then ρ1.m (σ.length + (id - H.length)) else ρ.m id, ρ1.fz, ρ1.sz⟩
  have hρ' : ∀ id x, ρ'.m id = some x → ((H.length ≤ id ∧ id < H.length + (H1.length - H0.length)) ∧ ρ1.m (σ.length + (id - H.length)) = some x) ∨ (¬ (H.length ≤ id ∧ id < H.length + (H1.length - H0.length)) ∧ ρ.m id = some x) := by
    intro id x hx
    have hx : (if H.length ≤ id ∧ id < H.length + (H1.length - H0.length) then ρ1.m (σ.length + (id - H.length)) else ρ.m id) = some x := hx
    split at hx
    · rename_i h; exact .inl ⟨h, hx⟩
    · rename_i h; exact .inr ⟨h, hx⟩
  have hnew1 : ∀ q x, σ.length ≤ q → ρ1.m q = some x → q < H1.length ∧ W x.1 := by
    intro q x h1 h2
    rcases k.old q x h2 with h3 | h3
    · obtain ⟨id, h4, _⟩ := hρc q x h3
      have := (List.getElem?_eq_some_iff.1 h4).1; omega
    · exact ⟨h3.2.1, h3.2.2⟩
  have hle : Rle ρ ρ' := by
    refine ⟨fun id x hx => ?_, fun b x hx => k.le.fz b x hx, fun b x hx => k.le.sz b x hx⟩
    show (if H.length ≤ id ∧ id < H.length + (H1.length - H0.length) then ρ1.m (σ.length + (id - H.length)) else ρ.m id) = some x
    split
    · rename_i h; rw [hnone id h.1 h.2] at hx; cases hx
    · exact hx
  have hfwd : FwdOk (inB H1.length) (nmsF σ H.length) ρ1 ρ' := by
    refine ⟨fun q x hp hx => ?_, fun _ _ h => h, fun _ _ h => h⟩
    have hql : q < H1.length := Nat.blt_eq.mp hp
    rcases Nat.lt_or_ge q σ.length with h | h
    · have hs : σ[q]? = some σ[q] := by simp [h]
      rw [nmsOld q _ hs]
      rcases k.old q x hx with h3 | h3
      · rw [hρc' q _ hs] at h3
        exact hle.m _ _ h3
      · omega
    · rw [nmsNew q h]
      show (if H.length ≤ H.length + (q - σ.length) ∧ H.length + (q - σ.length) < H.length + (H1.length - H0.length) then ρ1.m (σ.length + (H.length + (q - σ.length) - H.length)) else ρ.m (H.length + (q - σ.length))) = some x
      rw [if_pos ⟨by omega, by omega⟩, show σ.length + (H.length + (q - σ.length) - H.length) = q by omega]
      exact hx
  -- where a number's block comes from
  have hsrc : ∀ id b o q, ρ'.m id = some (b, o) → hget (msk (σ ++ R) H.length (aftH H σ H0 H1)) id = some q →
      (∃ j q0, ρ1.m j = some (b, o) ∧ hget H1 j = some q0 ∧ q = q0.ren (nmsF σ H.length) ∧ nmsF σ H.length j = id ∧ j < H1.length) ∨ (ρ.m id = some (b, o) ∧ hget H id = some q ∧ q.rw = false ∧ id ∈ σ ++ R) := by
    intro id b o q e1 e2
    rcases hρ' id _ e1 with ⟨h1, h2⟩ | ⟨h1, h2⟩
    · rw [hget_msk, if_pos (.inr h1.1), gNew id h1.1, Option.map_eq_some_iff] at e2
      obtain ⟨q0, h3, rfl⟩ := e2
      exact .inl ⟨_, q0, h2, h3, rfl, by rw [nmsNew _ (by omega)]; omega, hget_lt h3⟩
    · have hlt' : id < H.length := by
        have := hget_lt e2
        rw [msk_len, hlen] at this
        rcases Nat.lt_or_ge id H.length with h | h
        · exact h
        · exact absurd ⟨h, this⟩ h1
      have hF : id ∈ σ ++ R := by
        rw [hget_msk] at e2
        split at e2
        · rename_i h; exact h.resolve_right (by omega)
        · cases e2
      rw [hget_msk, if_pos (.inl hF)] at e2
      by_cases hm : id ∈ (muts σ H0 0).map (·.1)
      · obtain ⟨j, b0, h3, h4, h5, h6⟩ := hM id hm
        rw [gMut id j h3, Option.map_eq_some_iff] at e2
        obtain ⟨q0, h7, rfl⟩ := e2
        have h8 : ρ1.m j = some (b, o) := k.le.m j _ ((hρc' j id h4).trans h2)
        exact .inl ⟨j, q0, h8, h7, rfl, nmsOld j id h4, hget_lt h7⟩
      · rw [gOld id hlt' hm] at e2
        refine .inr ⟨h2, e2, ?_, hF⟩
        rcases List.mem_append.1 hF with hs | hs
        · obtain ⟨j, hj, hje⟩ := List.getElem_of_mem hs
          have hjs : σ[j]? = some id := by rw [List.getElem?_eq_getElem hj, hje]
          -- is it told to the callee?
          cases hb : hget H0 j with
          | some b0 =>
            obtain ⟨id', h3, h4, _⟩ := hσ j b0 hb
            rw [hjs] at h3; cases h3
            rw [e2] at h4; cases h4
            cases hrw : b0.rw with
            | false => exact hrw
            | true =>
              have := muts_of (k := 0) hjs hb hrw
              exact absurd (List.mem_map.2 ⟨_, this, rfl⟩) hm
          | none => obtain ⟨b1, h1⟩ := hall j (by omega); rw [hb] at h1; cases h1
        · obtain ⟨b0, h3, h4⟩ := hR id hs
          rw [e2] at h3; cases h3; exact h4
  have hkept : ∀ id b o q, ρ.m id = some (b, o) → hget H id = some q → q.rw = false → id ∈ σ ++ R → BRep ρ q w b o ∧ ¬ W1 b ∧ b < w.heap.size ∧ ∃ cs, ρ1.fz b = some cs := by
    intro id b o q h1 h2 h3 h4
    have h5 := (hH.rep id b o q h1 ((hFm id h4).trans h2)).1
    obtain ⟨cells, t, fr, g1, g2, g3, g4⟩ := h5
    have h6 := k.le.fz b _ (g3 h3)
    exact ⟨⟨cells, t, fr, g1, g2, g3, g4⟩, (k.rep.fz b _ h6).1, hH.lt _ _ _ h1, _, h6⟩
  refine hq v' w' ⟨ρ', W1, ?_, AV.rep_fwd hfwd hv hvr⟩
  rw [msk_len, msk_len, hlen]
  refine ⟨hle, fun id x hx => ?_, ⟨fun id b o e => ?_, fun id b o q e1 e2 => ?_, fun id id' b o o' q q' hne e1 e2 e3 e4 => ?_, k.rep.fz, k.rep.sz⟩, k.fr, k.sub, k.fresh, k.fzn⟩
  · rcases hρ' id x hx with ⟨h1, h2⟩ | ⟨_, h2⟩
    · exact .inr ⟨h1.1, h1.2, (hnew1 _ _ (by omega) h2).2⟩
    · exact .inl h2
  · rcases hρ' id _ e with ⟨h1, h2⟩ | ⟨_, h2⟩
    · exact k.rep.lt _ _ _ h2
    · exact Nat.lt_of_lt_of_le (hH.lt _ _ _ h2) k.fr.size
  · rcases hsrc id b o q e1 e2 with ⟨j, q0, h1, h2, rfl, h3, h4⟩ | ⟨h1, h2, h3, h4⟩
    · obtain ⟨⟨cells, t, fr, g1, g2, g3, g4⟩, hw⟩ := k.rep.rep j b o q0 h1 h2
      exact ⟨⟨cells, t, fr, g1, g2, g3, g4.fwd hfwd (hk1 j q0 h2)⟩, hw⟩
    · obtain ⟨⟨cells, t, fr, g1, g2, g3, g4⟩, h6, h7, cs, h8⟩ := hkept id b o q h1 h2 h3 h4
      obtain ⟨_, t', fr', h9⟩ := k.rep.fz b cs h8
      have : cs = cells := by
        have := k.le.fz b _ (g3 h3)
        rw [h8] at this; exact Option.some.inj this
      subst this
      exact ⟨⟨cs, t', fr', h9, fun e => (by rw [h3] at e; cases e), fun _ => h8, g4.le hle⟩, fun e => (by rw [h3] at e; cases e)⟩
  · have mixed : ∀ (j : Nat) (q0 : Blk) (i o1 o2 : Nat) (q2 : Blk), ρ1.m j = some (b, o1) → hget H1 j = some q0 → (ρ.m i = some (b, o2) ∧ hget H i = some q2 ∧ q2.rw = false ∧ i ∈ σ ++ R) → q0.rw = false := by
      intro j q0 i o1 o2 q2 h1 h2 ⟨h3, h4, h5, h6⟩
      obtain ⟨_, h7, _, _⟩ := hkept i b o2 q2 h3 h4 h5 h6
      cases hrw : q0.rw with
      | false => rfl
      | true => exact absurd ((k.rep.rep j b o1 q0 h1 h2).2 hrw) h7
    rcases hsrc id b o q e1 e3 with ⟨j, q0, h1, h2, rfl, h3, h4⟩ | h1 <;> rcases hsrc id' b o' q' e2 e4 with ⟨j', q0', h1', h2', rfl, h3', h4'⟩ | h1'
    · exact k.rep.apart j j' b o o' q0 q0' (fun e => hne (by rw [← h3, ← h3', e])) h1 h1' h2 h2'
    · exact ⟨mixed j q0 id' o o' q' h1 h2 h1', h1'.2.2.1⟩
    · exact ⟨h1.2.2.1, mixed j' q0' id o' o q h1' h2' h1⟩
    · exact ⟨h1.2.2.1, h1'.2.2.1⟩

section rules
variable {P : Program} {T : Tm} {H : Heap} {d : Option Tmp} {ty : TypeId} {pos : String} {af : Array Edge} {g : Option (Nat × Bool)}
theorem run_call {f : FuncId} (hf : Callable P f) (xs : Array Operand) (at_ : Array TypeId) (a : Act) (w : World) :
    (execOp a.eval ⟨d, .call ⟨.value (.func f), xs, at_⟩, ty, pos, af, g⟩).run P w = .ok (.enter f (xs.map a.eval)) w := by
  simp [execOp, resolve, Deferred.ofValue, invoke, Act.eval, Sem.run_bind, run_callFunc hf]
def callOk (σ R : List Nat) (args0 : List AV) (H0 H1 : Heap) (v0 : AV) (n : Nat) : Bool :=
  args0.all (AV.idB (inB σ.length)) && (Nat.beq σ.length H0.length && (distinct σ && ((σ ++ R).all (fun id => Nat.blt id n) && ((H0.all fun | some b => b.segs.all (Seg.idB (inB σ.length)) | none => false) && ((H1.all fun | some b => b.segs.all (Seg.idB (inB H1.length)) | none => true) && v0.idB (inB H1.length))))))
def AllIn (H : Heap) (f : Nat → Nat) (σ : List Nat) : Nat → Heap → Prop
  | _, [] => True
  | _, none :: _ => False
  | k, some b :: r => hget H (f k) = some (b.ren f) ∧ AllIn H f σ (k + 1) r
theorem allIn {H : Heap} {f : Nat → Nat} {σ : List Nat} : ∀ {H0 : Heap} {i : Nat}, AllIn H f σ i H0 → ∀ k b, hget H0 k = some b → hget H (f (i + k)) = some (b.ren f)
  | [], i, _, k, b, hk => by simp [hget] at hk
  | none :: r, i, h, k, b, hk => h.elim
  | some c :: r, i, h, k, b, hk => by
    cases k with
    | zero => simp [hget] at hk; subst hk; exact h.1
    | succ k =>
      have := allIn (H0 := r) (i := i + 1) h.2 k b (by simpa [hget] using hk)
      rwa [show i + 1 + k = i + (k + 1) by omega] at this
def frozenIn (H : Heap) : List Nat → Bool
  | [] => true
  | id :: r => (match hget H id with | some b => !b.rw | none => false) && frozenIn H r
theorem frozenIn_get {H : Heap} : ∀ {R : List Nat}, frozenIn H R = true → ∀ id ∈ R, ∃ b, hget H id = some b ∧ b.rw = false
  | [], _, id, h => by cases h
  | x :: r, h, id, hm => by
    simp only [frozenIn, Bool.and_eq_true] at h
    rcases List.mem_cons.1 hm with rfl | hm
    · cases hb : hget H id with
      | none => rw [hb] at h; simp at h
      | some b => rw [hb] at h; exact ⟨b, rfl, by simpa using h.1⟩
    · exact frozenIn_get h.2 id hm
theorem nmsF_at {σ : List Nat} {k n : Nat} (h : k < σ.length) : ∃ id, σ[k]? = some id ∧ nmsF σ n k = id := ⟨σ[k], by simp [h], by simp [nmsF, h]⟩

theorem step_call' {o : Oper} {f : FuncId} {args0 : List AV} {H0 H1 H' : Heap} {v0 v : AV} (σ R : List Nat) (con : Con P f args0 H0 v0 H1)
    (hgive : ∀ (ρ : Rho) (a : Act) (w : World), Ops o T ρ a → ∃ vals, (execOp a.eval o).run P w = .ok (.enter f vals) w ∧ (∀ c W, (∀ id ∈ R, c id = hget H id) → HRep W ρ c w → ArgsRep ρ (args0.map (AV.ren (nmsF σ H.length))) vals))
    (hok : callOk σ R args0 H0 H1 v0 H.length = true) (hσ : AllIn H (nmsF σ H.length) σ 0 H0) (hR : frozenIn H R = true) (hv : v0.ren (nmsF σ H.length) = v) (hH : aftH H σ H0 H1 = H') :
    LOk P o T H H' v (σ ++ R) ((muts σ H0 0).map (·.1)) := by
  subst hv; subst hH
  simp only [callOk, Bool.and_eq_true] at hok
  obtain ⟨h1, h2, h3, h4, h5, h6, h7⟩ := hok
  have hσl := Nat.eq_of_beq_eq_true h2
  simp only [List.all_eq_true] at h4 h5 h6
  have hin : ∀ {X : Heap} {k : Nat} {b : Blk}, hget X k = some b → some b ∈ X := by
    intro X k b hb
    unfold hget at hb
    cases hq : X[k]? with
    | none => rw [hq] at hb; cases hb
    | some x => rw [hq] at hb; simp at hb; subst hb; exact List.mem_of_getElem? hq
  refine step_call σ R con hgive h1 (fun k b hb => ?_) (fun k hk => ?_) hσl h3 (fun id hi => Nat.blt_eq.mp (h4 id hi)) (fun k b hb => ?_) h7 (frozenIn_get hR)
  · have hk := hget_lt hb
    obtain ⟨id, e1, e2⟩ := nmsF_at (σ := σ) (n := H.length) (k := k) (by omega)
    have := allIn hσ k b hb
    rw [Nat.zero_add, e2] at this
    exact ⟨id, e1, this, by have := h5 _ (hin hb); simpa [List.all_eq_true] using this⟩
  · have h8 := h5 H0[k] (List.getElem_mem hk)
    cases hq : H0[k] with
    | none => rw [hq] at h8; cases h8
    | some b => exact ⟨b, by unfold hget; rw [List.getElem?_eq_getElem hk, hq]; rfl⟩
  · have := h6 _ (hin hb); simpa [List.all_eq_true] using this

theorem l_call {f : FuncId} {xs : Array Operand} {l : List Operand} {at_ : Array TypeId} {args0 : List AV} {H0 H1 H' : Heap} {v0 v : AV} {R : List Nat} (σ : List Nat) (hf : Callable P f) (con : Con P f args0 H0 v0 H1) (hl : xs.toList = l)
    (hargs : ConvL T H R l (args0.map (AV.ren (nmsF σ H.length)))) (hok : callOk σ R args0 H0 H1 v0 H.length = true) (hσ : AllIn H (nmsF σ H.length) σ 0 H0) (hR : frozenIn H R = true) (hv : v0.ren (nmsF σ H.length) = v) (hH : aftH H σ H0 H1 = H') :
    LOk P ⟨d, .call ⟨.value (.func f), xs, at_⟩, ty, pos, af, g⟩ T H H' v (σ ++ R) ((muts σ H0 0).map (·.1)) := by
  subst hl
  refine step_call' σ R con (fun ρ a w ho => ⟨_, run_call hf xs at_ a w, fun c W hc hH => ?_⟩) hok hσ hR hv hH
  obtain ⟨h1, h2⟩ := hargs.get
  refine ⟨by simpa using h1, fun i x hx => ?_⟩
  have hi : i < xs.toList.length := by rw [h1]; exact (List.getElem?_eq_some_iff.1 hx).1
  have hy : xs.toList[i]? = some xs.toList[i] := by simp [hi]
  have hm : xs.toList[i] ∈ (Op.call ⟨.value (.func f), xs, at_⟩).operands := by
    simp only [Op.operands, Call.operands]
    exact Array.mem_append.2 (.inr (Array.mem_toList_iff.1 (List.getElem_mem hi)))
  have := h2 i _ x hy hx c W ρ w _ hc hH (ho _ hm)
  have hi' : i < xs.size := by simpa using hi
  simpa [hi'] using this
theorem l_callc {f n : Nat} {x : Operand} {q : Nat → SV} {xs : Array Operand} {l : List Operand} {at_ : Array TypeId} {args0 : List AV} {H0 H1 H' : Heap} {v0 v : AV} {R : List Nat} (σ : List Nat) (hx : ev T x = .s (.clo f n q)) (hf : Callable P f) (con : Con P f args0 H0 v0 H1) (hl : xs.toList = l)
    (hargs : ConvL T H R l ((args0.take l.length).map (AV.ren (nmsF σ H.length)))) (hcap : (args0.drop l.length).map (AV.ren (nmsF σ H.length)) = (List.range n).map fun i => .s (q i)) (hok : callOk σ R args0 H0 H1 v0 H.length = true) (hσ : AllIn H (nmsF σ H.length) σ 0 H0) (hR : frozenIn H R = true) (hv : v0.ren (nmsF σ H.length) = v) (hH : aftH H σ H0 H1 = H') :
    LOk P ⟨d, .call ⟨.value x, xs, at_⟩, ty, pos, af, g⟩ T H H' v (σ ++ R) ((muts σ H0 0).map (·.1)) := by
  subst hl
  have hlen0 := hargs.get.1
  rw [List.length_map, List.length_take] at hlen0
  have hlc := congrArg List.length hcap
  simp only [List.length_map, List.length_drop, List.length_range] at hlc
  have hmem : x ∈ (Op.call ⟨.value x, xs, at_⟩).operands := by simp [Op.operands, Call.operands]
  refine step_call' σ R con (fun ρ a w ho => ?_) hok hσ hR hv hH
  have h1 := ho _ hmem
  rw [hx] at h1
  obtain ⟨vs, e1, e2, e3⟩ := h1
  refine ⟨xs.map a.eval ++ vs, by simp [execOp, resolve, Deferred.ofValue, invoke, e1, Sem.run_bind, run_callFunc hf], fun c W hc hH => ?_⟩
  obtain ⟨h1, h2⟩ := hargs.get
  have hsz : xs.size ≤ args0.length := by
    have : xs.toList.length = xs.size := by simp
    omega
  refine ⟨by simp at hlen0 hlc ⊢; omega, fun i y hy => ?_⟩
  rcases Nat.lt_or_ge i xs.size with hi | hi
  · have hi2 : i < xs.toList.length := by simpa using hi
    have hy2 : xs.toList[i]? = some xs.toList[i] := by simp [hi]
    have hm : xs.toList[i] ∈ (Op.call ⟨.value x, xs, at_⟩).operands := by
      simp only [Op.operands, Call.operands]
      exact Array.mem_append.2 (.inr (Array.mem_toList_iff.1 (List.getElem_mem hi2)))
    have hy3 : ((args0.take xs.toList.length).map (AV.ren (nmsF σ H.length)))[i]? = some y := by
      rw [List.getElem?_map] at hy ⊢
      rw [List.getElem?_take_of_lt hi2]; exact hy
    have := h2 i _ y hy2 hy3 c W ρ w _ hc hH (ho _ hm)
    rw [Array.getD_eq_getD_getElem?, Array.getElem?_append_left (by simpa using hi)]
    simpa [hi] using this
  · have hj := congrArg (fun l => l[i - xs.size]?) hcap
    simp only [List.getElem?_map, List.getElem?_drop] at hj
    rw [show xs.toList.length + (i - xs.size) = i by simp; omega] at hj
    rw [List.getElem?_map] at hy
    rw [hy] at hj
    have hin : i - xs.size < n := by
      rcases Nat.lt_or_ge (i - xs.size) n with h | h
      · exact h
      · rw [List.getElem?_eq_none (by simpa using h)] at hj; cases hj
    rw [List.getElem?_range hin] at hj
    simp only [Option.map_some, Option.some.injEq] at hj
    subst hj
    obtain ⟨u, hu, hr⟩ := e3 _ hin
    rw [Array.getD_eq_getD_getElem?, Array.getElem?_append_right (by simpa using hi)]
    simp only [Array.size_map, hu, Option.getD_some]
    exact hr
end rules

theorem hrep_frz {W : Nat → Prop} {ρ : Rho} {H : Heap} {w : World} {id : Nat} {segs : List Seg} (hH : HRep W ρ (hget H) w) (hb : hget H id = some ⟨true, segs⟩) (hfr : ∀ b, w.heap.size ≤ b → W b) :
    ∃ ρ' W', Rle ρ ρ' ∧ ρ'.m = ρ.m ∧ HRep W' ρ' (hget (H.set id (some ⟨false, segs⟩))) w ∧ (∀ b, W' b → W b) ∧ (∀ b, w.heap.size ≤ b → W' b) ∧ ∀ b c, ρ'.fz b = some c → ρ.fz b = some c ∨ W b := by
  have hlt := hget_lt hb
  cases hm : ρ.m id with
  | none =>
    refine ⟨ρ, W, .refl _, rfl, ⟨hH.lt, fun j b o k e1 e2 => ?_, fun j j' b o o' k k' hne e1 e2 e3 e4 => ?_, hH.fz, hH.sz⟩, fun _ h => h, hfr, fun _ _ h => .inl h⟩
    · rw [hget_set hlt] at e2
      by_cases hj : j = id
      · subst hj; rw [hm] at e1; cases e1
      · rw [if_neg hj] at e2; exact hH.rep j b o k e1 e2
    · rw [hget_set hlt] at e3 e4
      by_cases hj : j = id
      · subst hj; rw [hm] at e1; cases e1
      · by_cases hj' : j' = id
        · subst hj'; rw [hm] at e2; cases e2
        · rw [if_neg hj] at e3; rw [if_neg hj'] at e4; exact hH.apart j j' b o o' k k' hne e1 e2 e3 e4
  | some x =>
    obtain ⟨b0, o0⟩ := x
    obtain ⟨⟨cells, t, fr, g1, g2, g3, g4⟩, hW0⟩ := hH.rep id b0 o0 _ hm hb
    have hW0 := hW0 rfl
    have hnone : ρ.fz b0 = none := by
      cases h : ρ.fz b0 with
      | none => rfl
      | some c => exact absurd hW0 (hH.fz b0 c h).1
    let ρ' : Rho := ⟨ρ.m, fun b => if b = b0 then some cells else ρ.fz b, ρ.sz⟩
    have hcase : ∀ b x, ρ'.fz b = some x → (b = b0 ∧ x = cells) ∨ (b ≠ b0 ∧ ρ.fz b = some x) := by
      intro b x hx
      have hx : (if b = b0 then some cells else ρ.fz b) = some x := hx
      by_cases hb : b = b0
      · rw [if_pos hb] at hx; exact .inl ⟨hb, (Option.some.inj hx).symm⟩
      · rw [if_neg hb] at hx; exact .inr ⟨hb, hx⟩
    have hle : Rle ρ ρ' := by
      refine ⟨fun _ _ h => h, fun b x hx => ?_, fun _ _ h => h⟩
      show (if b = b0 then some cells else ρ.fz b) = some x
      by_cases hb : b = b0
      · subst hb; rw [hnone] at hx; cases hx
      · rw [if_neg hb]; exact hx
    have hother : ∀ j b o k, j ≠ id → ρ.m j = some (b, o) → hget H j = some k → k.rw = true → b ≠ b0 := by
      intro j b o k hj e1 e2 hk e
      subst e
      have := (hH.apart j id b o o0 k _ hj e1 hm e2 hb).1
      rw [hk] at this; cases this
    refine ⟨ρ', fun b => W b ∧ b ≠ b0, hle, rfl, ⟨hH.lt, fun j b o k e1 e2 => ?_, fun j j' b o o' k k' hne e1 e2 e3 e4 => ?_, fun b cs e => ?_, hH.sz⟩, fun _ h => h.1, fun b hb' => ⟨hfr b hb', fun e => ?_⟩, fun b c e => ?_⟩
    · rw [hget_set hlt] at e2
      by_cases hj : j = id
      · subst hj
        rw [if_pos rfl] at e2
        cases e2
        have e1 : ρ.m j = some (b, o) := e1
        rw [hm] at e1
        cases e1
        exact ⟨⟨cells, t, fr, g1, fun e => (by cases e), fun _ => (by show (if b0 = b0 then some cells else ρ.fz b0) = some cells; rw [if_pos rfl]), g4.le hle⟩, fun e => (by cases e)⟩
      · rw [if_neg hj] at e2
        have := hH.rep j b o k e1 e2
        exact ⟨this.1.le hle, fun hk => ⟨this.2 hk, hother j b o k hj e1 e2 hk⟩⟩
    · rw [hget_set hlt] at e3 e4
      have old : ∀ j k, (if j = id then some (⟨false, segs⟩ : Blk) else hget H j) = some k → ∃ k0, hget H j = some k0 ∧ (k0.rw = false → k.rw = false) := by
        intro j k h
        by_cases hj : j = id
        · rw [if_pos hj] at h; cases h; subst hj; exact ⟨_, hb, fun _ => rfl⟩
        · rw [if_neg hj] at h; exact ⟨k, h, fun h => h⟩
      obtain ⟨a1, a2, a3⟩ := old j k e3
      obtain ⟨c1, c2, c3⟩ := old j' k' e4
      have := hH.apart j j' b o o' a1 c1 hne e1 e2 a2 c2
      exact ⟨a3 this.1, c3 this.2⟩
    · rcases hcase b cs e with ⟨rfl, rfl⟩ | ⟨h1, h2⟩
      · exact ⟨fun h => h.2 rfl, t, fr, g1⟩
      · exact ⟨fun h => (hH.fz b cs h2).1 h.1, (hH.fz b cs h2).2⟩
    · have := hH.lt _ _ _ hm; omega
    · rcases hcase b c e with ⟨rfl, rfl⟩ | ⟨h1, h2⟩
      · exact .inr hW0
      · exact .inl h2
theorem weak_frz {E : Env} {T : Tm} {H H' : Heap} (id : Nat) {segs : List Seg} (hb : hget H id = some ⟨true, segs⟩) (hH : H.set id (some ⟨false, segs⟩) = H') : Weak E T H T H' := by
  subst hH
  rintro a w ⟨ρ, W, p, hn, hT, hE⟩
  obtain ⟨ρ', W', h1, h2, h3, h4, h5, h6⟩ := hrep_frz p.rep hb p.fresh
  refine ⟨ρ', W', ⟨p.le.trans h1, h3, p.size, p.defs, p.fr, fun b hb => p.sub b (h4 b hb), h5, fun b c e => ?_, fun id x e => p.old id x (by rwa [h2] at e)⟩, fun id hid => by rw [h2]; exact hn id (by simpa using hid), hT.le h1, by simpa using hE⟩
  rcases h6 b c e with h7 | h7
  · exact p.fzn b c h7
  · exact .inr (p.sub b h7)
theorem lok_frz {P : Program} {o : Oper} {T : Tm} {H H' : Heap} {v : AV} {F M : List Nat} (id : Nat) {segs : List Seg} (hb : hget H id = some ⟨true, segs⟩) (h : LOk P o T (H.set id (some ⟨false, segs⟩)) H' v F M) (hF : id ∈ F) : LOk P o T H H' v F (id :: M) := by
  have hlt := hget_lt hb
  refine ⟨by have := h.len; simpa using this, fun j hj hn => ?_, fun j hj => ?_, fun j hj => by have := h.lt j hj; simpa using this, ?_⟩
  · simp only [List.mem_cons, not_or] at hn
    rw [h.keep j (by simpa using hj) hn.2, hget_set hlt, if_neg hn.1]
  · rcases List.mem_cons.1 hj with rfl | hj
    · exact hF
    · exact h.sub j hj
  · have hrun := h.run
    rw [List.length_set, msk_set _ _ _ hF] at hrun
    intro W ρ a w hH hn hW ho next Q hq
    have hbm : hget (msk F H.length H) id = some ⟨true, segs⟩ := by rw [hget_msk, if_pos (.inl hF)]; exact hb
    obtain ⟨ρ1, W1, h1, h2, h3, h4, h5, h6⟩ := hrep_frz hH hbm hW
    rw [msk_len, msk_len] at hn
    refine hrun W1 ρ1 a w h3 (fun i a1 a2 => by rw [h2]; rw [List.length_set, msk_len] at a1; rw [msk_len] at a2; exact hn i a1 a2) h5 (fun x hx => AV.rep_le h1 (ho x hx)) next Q ?_
    rintro v' w' ⟨ρ', W', k, hv⟩
    rw [List.length_set, msk_len, msk_len] at k
    refine hq v' w' ⟨ρ', W', ?_, hv⟩
    rw [msk_len, msk_len]
    refine ⟨h1.trans k.le, fun i x e => ?_, k.rep, k.fr.mono h4, fun b hb => h4 b (k.sub b hb), k.fresh, fun b c e => ?_⟩
    · rcases k.old i x e with h7 | h7
      · rw [h2] at h7; exact .inl h7
      · exact .inr ⟨h7.1, h7.2.1, h4 _ h7.2.2⟩
    · rcases k.fzn b c e with h7 | h7
      · exact h6 b c h7
      · exact .inr (h4 b h7)
theorem weak_conv {E : Env} {T : Tm} {H : Heap} {R : List Nat} (t : Nat) {x y : AV} (hx : look T t = x) (h : AConv R H x y) : Weak E T H ((t, y) :: T) H := by
  rintro a w ⟨ρ, W, p, hn, hT, hE⟩
  refine ⟨ρ, W, p, hn, fun i => ?_, hE⟩
  rw [look_cons]
  by_cases hi : t = i
  · subst hi
    rw [if_pos rfl]
    have := hT t
    rw [hx] at this
    exact h _ W ρ w _ (fun _ _ => rfl) p.rep this
  · rw [if_neg hi]; exact hT i
end Go.Bx
end

section
/- Slices: made, cut, copied, grown. No program. -/
namespace Go.Bx

def ASrc (P : Program) (tx : TypeId) (size : Nat) (R : List Nat) (H : Heap) (u : SV) (n : Nat) (sub : List Seg) : Prop :=
  sizeS sub = n * size ∧ ∀ (c : Nat → Option Blk) (W : Nat → Prop) (ρ : Rho) (w : World) (v : Value), (∀ id ∈ R, c id = hget H id) → HRep W ρ c w → u.rep ρ v → ∃ news, Src P size tx v n news w ∧ RowRep ρ sub (fun i => news[i]?) ∧ ∀ q, q ≤ n → (Builtin.firstCells size q v).run P w = .ok (news.take (q * size)).toArray w
theorem cells_list {ρ : Rho} {sub : List Seg} {cells : Array Value} {o n : Nat} (hs : sizeS sub = n) (hr : RowRep ρ sub (fun i => cells[o + i]?)) : ∃ news : List Value, news.length = n ∧ (∀ j u, news[j]? = some u → cells[o + j]? = some u) ∧ (∀ u ∈ news, u.oneCell' = true) ∧ RowRep ρ sub (fun i => news[i]?) := by
  have hin : ∀ j, j < n → ∃ v, cells[o + j]? = some v ∧ v.oneCell' = true := fun j hj => by
    obtain ⟨x, hx⟩ := atS_some (l := sub) (i := j) (by omega)
    obtain ⟨v, hv, hc⟩ := hr j x hx
    exact ⟨v, hv, hc.2⟩
  have hget : ∀ j, ((cells.toList.drop o).take n)[j]? = if j < n then cells[o + j]? else none := fun j => by
    rw [List.getElem?_take]
    by_cases h : j < n
    · rw [if_pos h, if_pos h, List.getElem?_drop]; simp
    · rw [if_neg h, if_neg h]
  refine ⟨(cells.toList.drop o).take n, ?_, fun j u hu => ?_, fun u hu => ?_, fun i x hx => ?_⟩
  · rcases Nat.eq_zero_or_pos n with h0 | h0
    · simp [h0]
    · obtain ⟨v, hv, _⟩ := hin (n - 1) (by omega)
      have := (Array.getElem?_eq_some_iff.1 hv).1
      simp; omega
  · rw [hget] at hu
    split at hu
    · exact hu
    · cases hu
  · obtain ⟨j, hj⟩ := List.getElem?_of_mem hu
    rw [hget] at hj
    split at hj
    · rename_i h
      obtain ⟨v, hv, hc⟩ := hin j h
      rw [hj] at hv; cases hv; exact hc
    · cases hj
  · obtain ⟨v, hv, hc⟩ := hr i x hx
    refine ⟨v, ?_, hc⟩
    show ((cells.toList.drop o).take n)[i]? = some v
    rw [hget, if_pos (by have := atS_lt hx; omega)]; exact hv
theorem asrc_blk {P : Program} {tx e : TypeId} {size n : Nat} {ρ : Rho} {w : World} {b o cap : Nat} {cells : Array Value} {t : TypeId} {fr : Nat × Nat} {sub : List Seg} (hk : P.underlying tx = some (.slice e)) (g1 : w.heap[b]? = some (.cells cells t fr)) (hs : sizeS sub = n * size) (hr : RowRep ρ sub (fun i => cells[o + i]?)) :
    ∃ news, Src P size tx (.slice (some ⟨b, o, none⟩) n cap) n news w ∧ RowRep ρ sub (fun i => news[i]?) ∧ ∀ q, q ≤ n → (Builtin.firstCells size q (.slice (some ⟨b, o, none⟩) n cap)).run P w = .ok (news.take (q * size)).toArray w := by
  obtain ⟨news, h1, h2, h3, h4⟩ := cells_list hs hr
  have hc : ∀ j u, news[j]? = some u → w.cell? ((⟨b, o, none⟩ : Addr).add j) = some u := fun j u hu => by
    rw [addr_add]
    simp [World.cell?, g1]
    exact h2 j u hu
  refine ⟨news, .ofSlice w hk _ n cap news h1 hc h3, h4, fun q hq => run_firstCells_some w size q _ n cap _ ?_ fun j u hu => hc j u ?_⟩
  · rw [List.length_take, h1]; exact Nat.min_eq_left (Nat.mul_le_mul_right size hq)
  · rw [List.getElem?_take] at hu
    split at hu
    · exact hu
    · cases hu
theorem asrc_sl {P : Program} {tx e : TypeId} {size n id base idx cap : Nat} {H : Heap} {k : Blk} {sub : List Seg} (hk : P.underlying tx = some (.slice e)) (hb : hget H id = some k) (hs : SubS k.segs (base + idx) (n * size) sub) : ASrc P tx size [id] H (.slice id base idx n cap) n sub :=
  ⟨hs.1, fun c W ρ w v hc hH ⟨b, o, h1, h2⟩ => by
    subst h2
    obtain ⟨cells, t, fr, g1, _, _, g4⟩ := (hH.rep id b o k h1 ((hc id (by simp)).trans hb)).1
    exact asrc_blk hk g1 hs.1 (by have := sub_row g4 hs; simpa [Nat.add_assoc] using this)⟩
theorem asrc_gro {P : Program} {tx e : TypeId} {size n id wd : Nat} {H : Heap} {k : Blk} {sub : List Seg} (hk : P.underlying tx = some (.slice e)) (hb : hget H id = some k) (hs : SubS k.segs 0 (n * size) sub) : ASrc P tx size [id] H (.gro id wd n) n sub :=
  ⟨hs.1, fun c W ρ w v hc hH h => by
    rcases h with ⟨rfl, rfl⟩ | ⟨b, o, cap, q, h1, h2, _⟩
    · exact ⟨[], .ofNil w hk 0, fun i x h => by have := atS_lt h; rw [hs.1] at this; omega, fun q _ => by rw [run_firstCells_none]; simp⟩
    · subst h2
      obtain ⟨cells, t, fr, g1, _, _, g4⟩ := (hH.rep id b o k h1 ((hc id (by simp)).trans hb)).1
      exact asrc_blk hk g1 hs.1 (by have := sub_row g4 hs; simpa using this)⟩
theorem asrc_fzi {P : Program} {tx e : TypeId} {H : Heap} {k : IntKind} {l : List Int} (hk : P.underlying tx = some (.slice e)) : ASrc P tx 1 [] H (.fzi k l) l.length [.ints k l.length l] :=
  ⟨by simp [sizeS, Seg.size], fun c W ρ w v _ hH h => by
    rcases h with ⟨rfl, a, cc, rfl⟩ | ⟨b, o, cc, cs, rfl, _, h3, h4⟩
    · refine ⟨[], ?_, fun i x h => by obtain ⟨h, _⟩ := atS_ints1 h; simp at h, fun q hq => ?_⟩
      case refine_2 =>
        have : q = 0 := by simpa using hq
        subst this
        cases a with
        | none => rw [run_firstCells_none]; simp
        | some a => have := run_firstCells_some (P := P) w 1 0 a 0 cc [] (by simp) (fun j u h => by simp at h); simpa using this
      cases a with
      | none => exact .ofNil w hk cc
      | some a => exact .ofSlice w hk a 0 cc [] (by simp) (fun j u h => by simp at h) (fun u h => by cases h)
    · obtain ⟨_, t, fr, g1⟩ := hH.fz b cs h3
      refine asrc_blk hk g1 (by simp [sizeS, Seg.size]) fun i x hx => ?_
      obtain ⟨hi, rfl⟩ := atS_ints1 hx
      exact ⟨_, h4 i hi, rfl, rfl⟩⟩
theorem asrc_fz {P : Program} {tx e : TypeId} {H : Heap} {n wd : Nat} {g : Nat → Nat → SV} (hw : 0 < wd) (hk : P.underlying tx = some (.slice e)) : ASrc P tx wd [] H (.fz n wd g) n [.rows n wd g] :=
  ⟨by simp [sizeS, Seg.size], fun c W ρ w v _ hH h => by
    have hat : ∀ i x, atS [.rows n wd g] i = some x → i < n * wd ∧ x = .noid (g (i / wd) (i % wd)) := fun i x h => by
      have hs : (Seg.rows n wd g).size = n * wd := rfl
      simp only [atS] at h
      rw [hs] at h
      by_cases hi : i < n * wd
      · rw [if_pos hi] at h; exact ⟨hi, (Option.some.inj h).symm⟩
      · rw [if_neg hi] at h; cases h
    rcases h with ⟨rfl, a, cc, rfl⟩ | ⟨b, o, cc, cs, rfl, _, h3, h4⟩
    · refine ⟨[], ?_, fun i x h => by obtain ⟨h, _⟩ := hat i x h; simp at h, fun q hq => ?_⟩
      case refine_2 =>
        have : q = 0 := by simpa using hq
        subst this
        cases a with
        | none => rw [run_firstCells_none]; simp
        | some a => have := run_firstCells_some (P := P) w wd 0 a 0 cc [] (by simp) (fun j u h => by simp at h); simpa using this
      cases a with
      | none => exact .ofNil w hk cc
      | some a => exact .ofSlice w hk a 0 cc [] (by simp) (fun j u h => by simp at h) (fun u h => by cases h)
    · obtain ⟨_, t, fr, g1⟩ := hH.fz b cs h3
      refine asrc_blk hk g1 (by simp [sizeS, Seg.size]) fun i x hx => ?_
      obtain ⟨hi, rfl⟩ := hat i x hx
      obtain ⟨u, hu, hr, hc⟩ := h4 (i / wd) (i % wd) (Nat.div_lt_of_lt_mul (by rwa [Nat.mul_comm])) (Nat.mod_lt _ hw)
      rw [Nat.mul_comm (i / wd), Nat.div_add_mod] at hu
      exact ⟨u, hu, ⟨hr, hc⟩, hc⟩⟩
def strL (s : ByteArray) : List Int := s.data.toList.map fun b => (b.toNat : Int)
theorem strL_len (s : ByteArray) : (strL s).length = s.size := by unfold strL; rw [List.length_map, Array.length_toList]; rfl
def Joins (l : List Seg) (n : Nat) (sub : List Seg) (m : Nat) (l' : List Seg) : Prop := sizeS l' = n + m ∧ ∀ i y, atS l' i = some y → (i < n → ∃ x, atS l i = some x ∧ (y = x ∨ (y = .noid x ∧ x.idB (fun _ => false) = true))) ∧ (n ≤ i → ∃ x, atS sub (i - n) = some x ∧ (y = x ∨ (y = .noid x ∧ x.idB (fun _ => false) = true)))
theorem joined {ρ : Rho} {x y : SV} {v : Value} (h : y = x ∨ (y = .noid x ∧ x.idB (fun _ => false) = true)) (hr : x.cell ρ v) : y.cell ρ v := by
  rcases h with rfl | ⟨rfl, h⟩
  · exact hr
  · exact ⟨⟨SV.to_noM h hr.1, hr.2⟩, hr.2⟩
theorem Joins.ints {k : IntKind} {n m q : Nat} {l l2 : List Int} (h : l.length = n) (hn : n ≤ q) : Joins [.ints k q l] n [.ints k m l2] m [.ints k (n + m) (l ++ l2)] := by
  refine ⟨by simp [sizeS, Seg.size], fun i y hy => ?_⟩
  obtain ⟨hi, rfl⟩ := atS_ints1 hy
  have hs : ∀ (q : Nat) (l : List Int) (i : Nat), i < q → atS [.ints k q l] i = some (.int k (l.getD i 0)) := fun q l i h => by
    have hs : (Seg.ints k q l).size = q := rfl
    simp only [atS]; rw [if_pos (by rw [hs]; exact h)]; rfl
  refine ⟨fun h1 => ⟨_, hs _ _ _ (by omega), .inl ?_⟩, fun h1 => ⟨_, hs _ _ _ (by omega), .inl ?_⟩⟩
  · rw [List.getD_eq_getElem?_getD, List.getD_eq_getElem?_getD, List.getElem?_append_left (by omega)]
  · rw [List.getD_eq_getElem?_getD, List.getD_eq_getElem?_getD, List.getElem?_append_right (by omega), h]
theorem Joins.int1 {k : IntKind} {n q : Nat} {l : List Int} {x : Int} (h : l.length = n) (hn : n ≤ q) : Joins [.ints k q l] n [.one (.int k x)] 1 [.ints k (n + 1) (l ++ [x])] := by
  obtain ⟨h1, h2⟩ := Joins.ints (k := k) (m := 1) (l2 := [x]) h hn
  refine ⟨h1, fun i y hy => ⟨(h2 i y hy).1, fun hi => ?_⟩⟩
  obtain ⟨z, hz, he⟩ := (h2 i y hy).2 hi
  obtain ⟨hi1, rfl⟩ := atS_ints1 hz
  have : i - n = 0 := by omega
  rw [this] at he ⊢
  exact ⟨_, rfl, he⟩
section rules
variable {P : Program} {T : Tm} {H : Heap} {d : Option Tmp} {ty : TypeId} {pos : String} {af : Array Edge} {g : Option (Nat × Bool)}

theorem l_app {x y : Operand} {t tx e rt : TypeId} {id len m size n0 : Nat} {u : SV} {segs sub segs' : List Seg} {inf : TypeInfo} {z : Value} {R : List Nat} {H' : Heap} (hx : ev T x = .s (.gro id size len)) (hy : ev T y = .s u) (hb : hget H id = some ⟨true, segs⟩) (hsrc : ASrc P tx size R H u m sub)
    (hu : P.underlying t = some (.slice e)) (hi : P.info? e = some inf) (hsz : inf.size = size) (hz : inf.zero = some z) (hzs : z.cells.size = size) (h1 : len * size ≤ sizeS segs) (hj : Joins segs (len * size) sub (m * size) segs') (hbig : (len + m) * inf.bytes ≤ 140737488355328) (hb1 : 0 < inf.bytes)
    (hRi : ∀ i ∈ R, i < H.length) (hn : H.length = n0) (hH : H.set id none ++ [some (Blk.mk true segs')] = H') :
    LOk P ⟨d, .call ⟨.builtin .append, #[x, y], #[t, tx]⟩, rt, pos, af, g⟩ T H H' (.s (.gro n0 size (len + m))) (id :: R) [id] := by
  subst hn; subst hH
  have hlt := hget_lt hb
  refine ⟨by simp, fun j hj1 hj2 => ?_, fun j hj1 => by simp at hj1; subst hj1; simp, fun j hj1 => ?_, ?_⟩
  · rw [hget_app, if_pos (by simpa using hj1), hget_set hlt, if_neg (by simpa using hj2)]
  · rcases List.mem_cons.1 hj1 with rfl | h
    · exact hlt
    · exact hRi j h
  have hmk : msk (id :: R) H.length (H.set id none ++ [some (Blk.mk true segs')]) = (msk (id :: R) H.length H).set id none ++ [some (Blk.mk true segs')] := by
    have := msk_app (id :: R) (H.set id none) [some (Blk.mk true segs')]
    rw [List.length_set] at this
    rw [this, msk_set _ _ _ (by simp)]
  rw [hmk]
  have hgm : ∀ j ∈ id :: R, hget (msk (id :: R) H.length H) j = hget H j := fun j hj => by rw [hget_msk, if_pos (.inl hj)]
  generalize hH0 : msk (id :: R) H.length H = H0 at *
  have hl0 : H0.length = H.length := by rw [← hH0, msk_len]
  intro W ρ a w hH hnone hW ho next Q hq
  have k1 : (ev T x).rep ρ (a.eval x) := ho x (by simp [Op.operands, Call.operands])
  have k2 : (ev T y).rep ρ (a.eval y) := ho y (by simp [Op.operands, Call.operands])
  rw [hx] at k1
  rw [hy] at k2
  obtain ⟨hss, hsrc⟩ := hsrc
  obtain ⟨news, hS, hnr, _⟩ := hsrc _ W ρ w _ (fun j hj => hgm j (List.mem_cons_of_mem _ hj)) hH k2
  have hnl : news.length = m * size := hS.newsLen
  have hb0 : hget H0 id = some ⟨true, segs⟩ := (hgm id (by simp)).trans hb
  have hnew : ρ.m H0.length = none := hnone _ (Nat.le_refl _) (by simp)
  have hget2 : ∀ (j : Nat) (k : Blk), hget (H0.set id none ++ [some (Blk.mk true segs')]) j = some k → (j = H0.length ∧ k = ⟨true, segs'⟩) ∨ (j ≠ id ∧ j ≠ H0.length ∧ hget H0 j = some k) := by
    intro j k hk
    rw [hget_app] at hk
    simp only [List.length_set] at hk
    split at hk
    · rename_i hj
      rw [hget_set (by omega)] at hk
      by_cases hji : j = id
      · rw [if_pos hji] at hk; cases hk
      · rw [if_neg hji] at hk; exact .inr ⟨hji, by omega, hk⟩
    · have := hget_lt hk
      simp at this
      have : j = H0.length := by omega
      subst this
      rw [Nat.sub_self] at hk
      exact .inl ⟨rfl, (Option.some.inj hk).symm⟩
  -- a new row
  have grows : ∀ (base : Option Addr) (sLen sCap : Nat) (olds : List Value), a.eval x = .slice base sLen sCap → sLen = len → sCap < sLen + m → (Builtin.firstCells size sLen (.slice base sLen sCap)).run P w.drew = .ok olds.toArray w.drew → olds.length = len * size → RowRep ρ segs (fun i => if i < len * size then olds[i]? else none) ∨ (∀ i x, i < len * size → atS segs i = some x → ∃ v, olds[i]? = some v ∧ x.cell ρ v) →
      Oper.upon P ⟨d, .call ⟨.builtin .append, #[x, y], #[t, tx]⟩, rt, pos, af, g⟩ a next Q ((execOp a.eval ⟨d, .call ⟨.builtin .append, #[x, y], #[t, tx]⟩, rt, pos, af, g⟩).run P w) := by
    intro base sLen sCap olds hev hsl hg hold holl hor
    subst hsl
    have hor' : ∀ i x, i < sLen * size → atS segs i = some x → ∃ v, olds[i]? = some v ∧ x.cell ρ v := by
      rcases hor with h | h
      · intro i x hi hx
        obtain ⟨v, hv, hc⟩ := h i x hx
        have hv : (if i < sLen * size then olds[i]? else none) = some v := hv
        rw [if_pos hi] at hv
        exact ⟨v, hv, hc⟩
      · exact h
    subst hsz
    have h63 : ((sLen + m : Nat) : Int) ≤ 9223372036854775807 := by
      have : sLen + m ≤ (sLen + m) * inf.bytes := Nat.le_mul_of_pos_right _ hb1
      omega
    have hr := run_append_grow_src (P := P) w t tx rt e inf z hu hi hz base sLen sCap olds hold _ m news hS hg h63 (growslice_fits hg hbig)
    generalize hcap : grownCap w (sLen + m) sCap e = cap at hr
    have hcap' : sLen + m ≤ cap := hcap ▸ grownCap_ge w _ _ _
    have hrun : (execOp a.eval ⟨d, .call ⟨.builtin .append, #[x, y], #[t, tx]⟩, rt, pos, af, g⟩).run P w = .ok (.value (.slice (some ⟨w.heap.size, 0, none⟩) (sLen + m) cap)) (w.drew.alloc (.cells ((olds ++ news).toArray ++ Builtin.zeroCells z.cells (cap - (sLen + m))) e)) := by
      simp only [execOp, resolve, invoke, builtin, List.map_toArray, List.map_cons, List.map_nil, hev]
      simp [Sem.run_bind, hr]
    rw [hrun]
    generalize hcells : (olds ++ news).toArray ++ Builtin.zeroCells z.cells (cap - (sLen + m)) = cells
    have hzc : z.cells.size = inf.size ∨ True := .inr trivial
    -- what the row holds
    have hrow : ∀ ρ', Rle ρ ρ' → RowRep ρ' segs' (fun i => cells[i]?) := by
      intro ρ' hle i q hqi
      have hil := atS_lt hqi
      rw [hj.1] at hil
      have hcell : ∀ v, (olds ++ news)[i]? = some v → cells[i]? = some v := fun v hv => by
        have hi' := (List.getElem?_eq_some_iff.1 hv).1
        rw [← hcells, Array.getElem?_append_left (by simpa using hi')]
        simpa using hv
      obtain ⟨c1, c2⟩ := hj.2 i q hqi
      rcases Nat.lt_or_ge i (sLen * inf.size) with h | h
      · obtain ⟨x0, hx0, he⟩ := c1 h
        obtain ⟨v, hv, hc⟩ := hor' i x0 h hx0
        refine ⟨v, hcell v (by rw [List.getElem?_append_left (by omega)]; exact hv), joined he ⟨SV.rep_le hle hc.1, hc.2⟩⟩
      · obtain ⟨x0, hx0, he⟩ := c2 h
        obtain ⟨v, hv, hc⟩ := hnr _ x0 hx0
        refine ⟨v, hcell v (by rw [List.getElem?_append_right (by omega), holl]; exact hv), joined he ⟨SV.rep_le hle hc.1, hc.2⟩⟩
    have hHd : HRep W ρ (hget (H0.set id none)) w.drew := (hH.sub fun j k hk => by
      rw [hget_set (by omega)] at hk
      split at hk
      · cases hk
      · exact hk).ext (.drew w)
    obtain ⟨ρ', k3, k4, k5⟩ := nx_alloc (t := e) (w := w.drew) (H0 := H0.set id none) hHd (by simpa using hnew) (fun b hb => hW b hb) hrow
    refine hq _ _ ⟨ρ', W, ?_, .inr ⟨w.heap.size, 0, cap, cells.size, ?_, rfl, hcap', k5, ?_⟩⟩
    · simp only [List.length_set] at k3
      exact ⟨k3.le, k3.old, k3.rep, ((Ext.drew w).fr W).trans k3.fr, k3.sub, k3.fresh, k3.fzn⟩
    · rw [← hl0]; simpa using k4
    · rw [← hcells]
      simp only [Array.size_append, List.size_toArray, List.length_append, holl, hnl, Builtin.zeroCells, Array.size_map, Array.size_range, Nat.zero_add]
      have e1 : (cap - (sLen + m)) * z.cells.size = (cap - (sLen + m)) * inf.size := by rw [hzs]
      have e2 : cap * inf.size = sLen * inf.size + m * inf.size + (cap - (sLen + m)) * inf.size := by
        rw [← Nat.add_mul, ← Nat.add_mul]; congr 1; omega
      omega
  rcases k1 with ⟨hl, hev⟩ | ⟨b, o, cap, q, hρ, hev, hlc, hszb, hroom⟩
  · -- nothing so far
    rcases Nat.eq_zero_or_pos m with hm | hm
    · -- nothing more
      have hl2 : news = [] := List.eq_nil_of_length_eq_zero (by rw [hnl, hm, Nat.zero_mul])
      have hrun : (execOp a.eval ⟨d, .call ⟨.builtin .append, #[x, y], #[t, tx]⟩, rt, pos, af, g⟩).run P w = .ok (.value (.slice none 0 0)) w := by
        simp only [execOp, resolve, invoke, builtin, List.map_toArray, List.map_cons, List.map_nil, hev]
        have hc := hS.cells
        rw [hm, hl2] at hc
        rcases hS.kind with ⟨e', hk⟩ | hk <;> (have hln := hS.len; rw [hm] at hln; simp [Builtin.append_, Sem.run_bind, run_underlying hu, run_underlying hk, sizeOf, typeInfo, hi, hsz, hln, hc])
      rw [hrun]
      let ρ' := ρ
      refine hq _ _ ⟨ρ, W, ⟨.refl _, fun _ _ h => .inl h, ⟨hH.lt, fun j b o k e1 e2 => ?_, fun j j' b o o' k k' hne e1 e2 e3 e4 => ?_, hH.fz, hH.sz⟩, .refl _ _, fun _ h => h, hW, fun _ _ h => .inl h⟩, .inl ⟨by rw [hl, hm], rfl⟩⟩
      · rcases hget2 j k e2 with ⟨rfl, _⟩ | ⟨_, _, h⟩
        · rw [hnew] at e1; cases e1
        · exact hH.rep j b o k e1 h
      · rcases hget2 j k e3 with ⟨rfl, _⟩ | ⟨_, _, h⟩
        · rw [hnew] at e1; cases e1
        · rcases hget2 j' k' e4 with ⟨rfl, _⟩ | ⟨_, _, h'⟩
          · rw [hnew] at e2; cases e2
          · exact hH.apart j j' b o o' k k' hne e1 e2 h h'
    · exact grows none 0 0 [] hev hl.symm (by omega) (by rw [run_firstCells_none]) (by simp [hl]) (.inr fun i x hi => by rw [hl, Nat.zero_mul] at hi; omega)
  · obtain ⟨⟨cells, tt, fr, g1, g2, _, g4⟩, hWb⟩ := hH.rep id b o _ hρ hb0
    have hfr := g2 rfl
    subst hfr
    have hWb := hWb rfl
    have hcs : cells.size = q := by
      obtain ⟨cs, t', fr', h2, h3⟩ := hH.sz b q hszb
      rw [g1] at h2
      cases h2; exact h3
    rcases Nat.lt_or_ge cap (len + m) with hg | hg
    · -- no room
      have hfit : o + len * size ≤ cells.size := by
        have := Nat.mul_le_mul_right size hlc
        omega
      have hget3 : ∀ i, ((cells.toList.drop o).take (len * size))[i]? = if i < len * size then cells[o + i]? else none := fun i => by
        rw [List.getElem?_take]
        by_cases h : i < len * size
        · rw [if_pos h, if_pos h, List.getElem?_drop]; simp
        · rw [if_neg h, if_neg h]
      refine grows (some ⟨b, o, none⟩) len cap ((cells.toList.drop o).take (len * size)) hev rfl hg ?_ (by simp; omega) (.inr fun i x0 hi2 hx0 => ?_)
      · refine run_firstCells_some w.drew size len ⟨b, o, none⟩ len cap _ (by simp; omega) fun i v hv => ?_
        rw [hget3] at hv
        split at hv
        · rw [addr_add]
          have g1' : w.drew.heap[b]? = some (.cells cells tt (0, 0)) := g1
          simp [World.cell?, g1']
          exact hv
        · cases hv
      · obtain ⟨v, hv, hc⟩ := g4 i x0 hx0
        exact ⟨v, by rw [hget3, if_pos hi2]; exact hv, hc⟩
    · -- there is room
      have hst := run_storeCells_at P b (o + len * size) tt news 0 cells w g1 (by
        have := Nat.mul_le_mul_right size hg
        rw [Nat.add_mul] at this
        simp; omega) hS.one
      rw [Nat.add_zero] at hst
      have hrun : (execOp a.eval ⟨d, .call ⟨.builtin .append, #[x, y], #[t, tx]⟩, rt, pos, af, g⟩).run P w = .ok (.value (.slice (some ⟨b, o, none⟩) (len + m) cap)) (w.setRow b (cells.toList.take (o + len * size) ++ news ++ cells.toList.drop (o + len * size + news.length)).toArray) := by
        simp only [execOp, resolve, invoke, builtin, List.map_toArray, List.map_cons, List.map_nil, hev]
        rcases hS.kind with ⟨e', hk⟩ | hk <;> (simp [Builtin.append_, Sem.run_bind, run_underlying hu, run_underlying hk, sizeOf, typeInfo, hi, hsz, hS.len, hS.cells, hg, addr_add]; rw [hst]; simp)
      rw [hrun]
      have hbl := hH.lt _ _ _ hρ
      have hsize : ((cells.toList.take (o + len * size) ++ news ++ cells.toList.drop (o + len * size + news.length)).toArray).size = cells.size := by
        have := Nat.mul_le_mul_right size hg
        rw [Nat.add_mul] at this
        simp; omega
      have hnewrow := setRow_heap w b cells (cells.toList.take (o + len * size) ++ news ++ cells.toList.drop (o + len * size + news.length)).toArray tt (0, 0) g1
      generalize hrw : (cells.toList.take (o + len * size) ++ news ++ cells.toList.drop (o + len * size + news.length)).toArray = row at *
      let ρ' : Rho := ⟨fun i => if i = H0.length then some (b, o) else ρ.m i, ρ.fz, ρ.sz⟩
      have hρ' : ∀ i x, ρ'.m i = some x → (i = H0.length ∧ x = (b, o)) ∨ (i ≠ H0.length ∧ ρ.m i = some x) := by
        intro i x hx
        have hx : (if i = H0.length then some (b, o) else ρ.m i) = some x := hx
        by_cases hi2 : i = H0.length
        · rw [if_pos hi2] at hx; exact .inl ⟨hi2, (Option.some.inj hx).symm⟩
        · rw [if_neg hi2] at hx; exact .inr ⟨hi2, hx⟩
      have hle : Rle ρ ρ' := by
        refine ⟨fun i x hx => ?_, fun _ _ h => h, fun _ _ h => h⟩
        show (if i = H0.length then some (b, o) else ρ.m i) = some x
        by_cases hi2 : i = H0.length
        · subst hi2; rw [hnew] at hx; cases hx
        · rw [if_neg hi2]; exact hx
      have hother : ∀ j b' o' k, j ≠ id → ρ.m j = some (b', o') → hget H0 j = some k → b' ≠ b := by
        intro j b' o' k hj e1 e2 e
        subst e
        have := (hH.apart j id b' o' o k _ hj e1 hρ e2 hb0).2
        cases this
      have hrowcell : ∀ i, (i < len * size → row[o + i]? = cells[o + i]?) ∧ (len * size ≤ i → i < len * size + news.length → row[o + i]? = news[i - len * size]?) := by
        have hle2 : o + len * size ≤ cells.size := by
          have := Nat.mul_le_mul_right size hlc
          omega
        intro i
        refine ⟨fun h => ?_, fun h h' => ?_⟩
        · rw [← hrw, List.getElem?_toArray, List.getElem?_append_left (by simp; omega), List.getElem?_append_left (by simp; omega), List.getElem?_take, if_pos (by omega)]
          simp
        · rw [← hrw, List.getElem?_toArray, List.getElem?_append_left (by simp; omega), List.getElem?_append_right (by simp; omega)]
          congr 1
          simp; omega
      refine hq _ _ ⟨ρ', W, ⟨hle, fun i x e => ?_, ⟨fun j b' o' e => ?_, fun j b' o' k e1 e2 => ?_, fun j j' b' o1 o2 k k' hne e1 e2 e3 e4 => ?_, fun b' cs e => ?_, fun b' n' e => ?_⟩, Fr.setRow _ hWb g1 hsize, fun _ h => h, fun b' hb' => hW b' (by simpa using hb'), fun _ _ h => .inl h⟩, .inr ⟨b, o, cap, q, ?_, rfl, hg, hszb, hroom⟩⟩
      · rcases hρ' i x e with ⟨rfl, rfl⟩ | ⟨_, h⟩
        · exact .inr ⟨Nat.le_refl _, by simp, hWb⟩
        · exact .inl h
      · rcases hρ' j _ e with ⟨rfl, h⟩ | ⟨_, h⟩
        · cases h; simpa using hbl
        · have := hH.lt _ _ _ h; simpa using this
      · rcases hget2 j k e2 with ⟨rfl, rfl⟩ | ⟨h1', h2', h3'⟩
        · rcases hρ' _ _ e1 with ⟨_, h⟩ | ⟨h, _⟩
          · cases h
            refine ⟨⟨row, tt, (0, 0), hnewrow, fun _ => rfl, fun h => (by cases h), fun i p hp => ?_⟩, fun _ => hWb⟩
            have hil := atS_lt hp
            rw [hj.1] at hil
            obtain ⟨c1, c2⟩ := hj.2 i p hp
            rcases Nat.lt_or_ge i (len * size) with h | h
            · obtain ⟨x0, hx0, he⟩ := c1 h
              obtain ⟨v, hv, hc⟩ := g4 i x0 hx0
              exact ⟨v, by show row[o + i]? = some v; rw [(hrowcell i).1 h]; exact hv, joined he ⟨SV.rep_le hle hc.1, hc.2⟩⟩
            · obtain ⟨x0, hx0, he⟩ := c2 h
              obtain ⟨v, hv, hc⟩ := hnr _ x0 hx0
              exact ⟨v, by show row[o + i]? = some v; rw [(hrowcell i).2 h (by rw [hnl]; exact hil)]; exact hv, joined he ⟨SV.rep_le hle hc.1, hc.2⟩⟩
          · exact absurd rfl h
        · rcases hρ' _ _ e1 with ⟨h, _⟩ | ⟨_, h⟩
          · exact absurd h h2'
          · have := hH.rep j b' o' k h h3'
            refine ⟨(this.1.world (setRow_other _ _ _ _ ?_)).le hle, this.2⟩
            exact fun e => (hother j b' o' k h1' h h3') e
      · rcases hget2 j k e3 with ⟨rfl, rfl⟩ | ⟨h1', h2', h3'⟩ <;> rcases hget2 j' k' e4 with ⟨rfl, rfl⟩ | ⟨h1'', h2'', h3''⟩
        · exact absurd rfl hne
        · rcases hρ' _ _ e1 with ⟨_, h⟩ | ⟨h, _⟩
          · cases h
            rcases hρ' _ _ e2 with ⟨h, _⟩ | ⟨_, h⟩
            · exact absurd h h2''
            · exact absurd rfl (hother j' b o2 k' h1'' h h3'')
          · exact absurd rfl h
        · rcases hρ' _ _ e2 with ⟨_, h⟩ | ⟨h, _⟩
          · cases h
            rcases hρ' _ _ e1 with ⟨h, _⟩ | ⟨_, h⟩
            · exact absurd h h2'
            · exact absurd rfl (hother j b o1 k h1' h h3')
          · exact absurd rfl h
        · rcases hρ' _ _ e1 with ⟨h, _⟩ | ⟨_, h⟩
          · exact absurd h h2'
          rcases hρ' _ _ e2 with ⟨h', _⟩ | ⟨_, h'⟩
          · exact absurd h' h2''
          exact hH.apart j j' b' o1 o2 k k' hne h h' h3' h3''
      · obtain ⟨q1, t', fr', q2⟩ := hH.fz b' cs e
        have hne : b' ≠ b := by intro e'; rw [e'] at q1; exact q1 hWb
        exact ⟨q1, t', fr', by rw [setRow_other _ _ _ _ hne]; exact q2⟩
      · exact sz_fr hH (Fr.setRow (W := W) row hWb g1 hsize) b' n' e
      · show (if H.length = H0.length then some (b, o) else ρ.m H.length) = some (b, o)
        rw [if_pos hl0.symm]
end rules
end Go.Bx
end

section
/- Slices made, cut, copied; closures; strings. No program. -/
namespace Go.Bx

theorem HRep.sub' {W : Nat → Prop} {ρ : Rho} {H nb : Heap} {w : World} (h : HRep W ρ (hget H) w) (hn : ∀ id, H.length ≤ id → ρ.m id = none) : HRep W ρ (hget (H ++ nb)) w := by
  have key : ∀ id b o k, ρ.m id = some (b, o) → hget (H ++ nb) id = some k → hget H id = some k := by
    intro id b o k e1 e2
    rw [hget_app] at e2
    split at e2
    · exact e2
    · rw [hn id (by omega)] at e1; cases e1
  exact ⟨h.lt, fun id b o k e1 e2 => h.rep id b o k e1 (key id b o k e1 e2), fun id id' b o o' k k' hne e1 e2 e3 e4 => h.apart id id' b o o' k k' hne e1 e2 (key _ _ _ _ e1 e3) (key _ _ _ _ e2 e4), h.fz, h.sz⟩

theorem weak_gro {E : Env} {T : Tm} {H H' : Heap} (t wd n0 : Nat) {segs : List Seg} (hx : look T t = .s .nils) (hn : H.length = n0) (hH : H ++ [some (Blk.mk true segs)] = H') : Weak E T H ((t, .s (.gro n0 wd 0)) :: T) H' := by
  subst hn; subst hH
  rintro a w ⟨ρ, W, p, hn, hT, hE⟩
  refine ⟨ρ, W, ⟨p.le, p.rep.sub' hn, p.size, p.defs, p.fr, p.sub, p.fresh, p.fzn, p.old⟩, fun id hid => hn id (by simp at hid; omega), fun i => ?_, by simp; omega⟩
  rw [look_cons]
  by_cases hi : t = i
  · subst hi
    rw [if_pos rfl]
    have := hT t
    rw [hx] at this
    exact .inl ⟨rfl, this⟩
  · rw [if_neg hi]; exact hT i

theorem conv_gro {H : Heap} {id len n : Nat} {k : Blk} {kk : IntKind} {l l' : List Int} (hb : hget H id = some k) (hro : k.rw = false) (hs : segAt k.segs 0 = some (.ints kk n l)) (hn : len ≤ n) (hl : l.length = n) (hl' : l.take len = l') :
    AConv [id] H (.s (.gro id 1 len)) (.s (.fzi kk l')) := by
  rintro c W ρ w u hcc hH (⟨rfl, rfl⟩ | ⟨b, o, cap, q, h1, rfl, h3, _⟩)
  · exact .inl ⟨by rw [← hl']; simp, none, 0, rfl⟩
  · refine conv_sl (base := 0) (idx := 0) (cap := cap) hb hro hs (by omega) h3 hl (by simpa using hl') c W ρ w _ hcc hH ⟨b, o, h1, rfl⟩
theorem conv_grz {H : Heap} {id len n wd : Nat} {k : Blk} {g : Nat → Nat → SV} (hb : hget H id = some k) (hro : k.rw = false) (hs : segAt k.segs 0 = some (.rows n wd g)) (hn : len ≤ n) :
    AConv [id] H (.s (.gro id wd len)) (.s (.fz len wd g)) := by
  rintro c W ρ w u hcc hH (⟨rfl, rfl⟩ | ⟨b, o, cap, q, h1, rfl, h3, _⟩)
  · exact .inl ⟨rfl, none, 0, rfl⟩
  · obtain ⟨⟨cells, t, fr, g1, g2, g3, g4⟩, _⟩ := hH.rep id b o k h1 ((hcc id (by simp)).trans hb)
    refine .inr ⟨b, o, cap, cells, rfl, h3, g3 hro, fun i j hi hj => ?_⟩
    obtain ⟨v, hv, hr⟩ := g4 (0 + (i * wd + j)) _ (segAt_at hs _ (row_lt (by omega) hj))
    simp only [Seg.at, (row_div hj).1, (row_div hj).2] at hr
    rw [Nat.zero_add] at hv
    exact ⟨v, hv, hr.1.1, hr.2⟩
theorem fz_ext {ρ : Rho} {n w : Nat} {g g' : Nat → Nat → SV} {v : Value} (h : ∀ i j, i < n → j < w → g i j = g' i j) (hr : (SV.fz n w g).rep ρ v) : (SV.fz n w g').rep ρ v := by
  rcases hr with h1 | ⟨b, o, c, cs, h1, h2, h3, h4⟩
  · exact .inl h1
  · exact .inr ⟨b, o, c, cs, h1, h2, h3, fun i j hi hj => by rw [← h i j hi hj]; exact h4 i j hi hj⟩
theorem conv_fz {H : Heap} {n w : Nat} {g g' : Nat → Nat → SV} (h : ∀ i j, i < n → j < w → g i j = g' i j) : AConv [] H (.s (.fz n w g)) (.s (.fz n w g')) := fun _ _ _ _ _ _ _ hr => fz_ext h hr

section rules
variable {P : Program} {T : Tm} {H : Heap} {d : Option Tmp} {ty : TypeId} {pos : String} {af : Array Edge} {g : Option (Nat × Bool)}

def Bnd (T : Tm) (x : Option Operand) (d n : Nat) : Prop := match x with
  | none => d = n
  | some y => ∃ k m, ev T y = .s (.int k m) ∧ m = (n : Int)
theorem bnd_val {x : Operand} {dd n : Nat} {ρ : Rho} {v : Value} (h : Bnd T (some x) dd n) (hr : (ev T x).rep ρ v) : ∃ k, v = .int k (n : Int) := by
  obtain ⟨k, m, h1, rfl⟩ := h
  rw [h1] at hr
  exact ⟨k, hr⟩
theorem run_bounds {b : Bool} {w : World} {len cap l h m : Nat} {lo hi mx : Option Operand} {a : Act} {ρ : Rho} (hlo : Bnd T lo 0 l) (hhi : Bnd T hi len h) (hmx : Bnd T mx cap m) (hho : mx.isSome = true → hi.isSome = true)
    (ho : ∀ x, (lo = some x ∨ hi = some x ∨ mx = some x) → (ev T x).rep ρ (a.eval x)) (h1 : l ≤ h) (h2 : h ≤ m) (h3 : m ≤ cap) :
    (Instr.sliceBounds b len cap (lo.map a.eval) (hi.map a.eval) (mx.map a.eval)).run P w = .ok (l, h, m) w := by
  have rb : ∀ (k : IntKind) (n y : Nat) (code : BoundsCode), n ≤ y → (Instr.sliceBound (.int k (n : Int)) y code).run P w = .ok n w := fun k n y code hy => by
    simp [Instr.sliceBound, asIntOf, Sem.run_bind]; omega
  cases mx with
  | none =>
    have hm : cap = m := hmx
    subst hm
    cases hi with
    | none =>
      have hh : len = h := hhi
      subst hh
      cases lo with
      | none => have hl : 0 = l := hlo
                subst hl
                simp [Instr.sliceBounds, Sem.run_bind]
      | some x => obtain ⟨k, e⟩ := bnd_val hlo (ho x (by simp))
                  simp [Instr.sliceBounds, Sem.run_bind, e, rb k l len _ h1]
    | some y =>
      obtain ⟨k, e⟩ := bnd_val hhi (ho y (by simp))
      cases lo with
      | none => have hl : 0 = l := hlo
                subst hl
                simp [Instr.sliceBounds, Sem.run_bind, e, rb k h cap _ h2]
      | some x => obtain ⟨k', e'⟩ := bnd_val hlo (ho x (by simp))
                  simp [Instr.sliceBounds, Sem.run_bind, e, e', rb k h cap _ h2, rb k' l h _ h1]
  | some z =>
    obtain ⟨k2, e2⟩ := bnd_val hmx (ho z (by simp))
    cases hi with
    | none => simp at hho
    | some y =>
      obtain ⟨k, e⟩ := bnd_val hhi (ho y (by simp))
      cases lo with
      | none => have hl : 0 = l := hlo
                subst hl
                simp [Instr.sliceBounds, Sem.run_bind, e, e2, rb k2 m cap _ h3, rb k h m _ h2]
      | some x => obtain ⟨k', e'⟩ := bnd_val hlo (ho x (by simp))
                  simp [Instr.sliceBounds, Sem.run_bind, e, e', e2, rb k2 m cap _ h3, rb k h m _ h2, rb k' l h _ h1]
theorem slice_ops {t : TypeId} {x : Operand} {lo hi mx : Option Operand} {ρ : Rho} {a : Act} (ho : Ops ⟨d, .slice t x lo hi mx, ty, pos, af, g⟩ T ρ a) : (ev T x).rep ρ (a.eval x) ∧ ∀ y, (lo = some y ∨ hi = some y ∨ mx = some y) → (ev T y).rep ρ (a.eval y) := by
  refine ⟨ho x ?_, fun y hy => ho y ?_⟩
  · cases lo <;> cases hi <;> cases mx <;> simp [Op.operands]
  · rcases hy with rfl | rfl | rfl
    · cases hi <;> cases mx <;> simp [Op.operands]
    · cases lo <;> cases mx <;> simp [Op.operands]
    · cases lo <;> cases hi <;> simp [Op.operands]
theorem run_slice {t e : TypeId} {w : World} {ad : Option Addr} {len cap l h m sz : Nat} {lo hi mx : Option Value} (hu : P.underlying t = some (.slice e)) (hs : ∀ w, (sizeOf e).run P w = .ok sz w) (hb : (Instr.sliceBounds true len cap lo hi mx).run P w = .ok (l, h, m) w) :
    (Instr.slice t (.slice ad len cap) lo hi mx).run P w = .ok (.slice (if m = l then ad else ad.map (·.add (l * sz))) (h - l) (m - l)) w := by
  simp [Instr.slice, Sem.run_bind, run_underlying hu, hb, hs]
theorem exec_slice {t : TypeId} {x : Operand} {lo hi mx : Option Operand} {a : Act} {w : World} : (execOp a.eval ⟨d, .slice t x lo hi mx, ty, pos, af, g⟩).run P w = ((Instr.sliceAt t (a.eval x) (lo.map a.eval) (hi.map a.eval) (mx.map a.eval)).run P w).andThen fun v w => .ok (.value v) w := by
  simp [execOp, Sem.run_bind]
theorem sliceAt_sl {t e : TypeId} {w : World} {ad : Option Addr} {len cap : Nat} {lo hi mx : Option Value} (hu : P.underlying t = some (.slice e)) : (Instr.sliceAt t (.slice ad len cap) lo hi mx).run P w = (Instr.slice t (.slice ad len cap) lo hi mx).run P w := by
  simp [Instr.sliceAt, Sem.run_bind, run_underlying hu]
theorem l_sl {t e : TypeId} {x : Operand} {lo hi mx : Option Operand} {id base idx len cap l h m sz r n c : Nat} (hx : ev T x = .s (.slice id base idx len cap)) (hlo : Bnd T lo 0 l) (hhi : Bnd T hi len h) (hmx : Bnd T mx cap m) (hho : (mx.isSome && hi.isNone) = false)
    (hu : P.underlying t = some (.slice e)) (hs : ∀ w, (sizeOf e).run P w = .ok sz w) (h1 : l ≤ h) (h2 : h ≤ m) (h3 : m ≤ cap) (hlm : l < m ∨ l = 0) (hr : idx + l * sz = r) (hn : h - l = n) (hc : m - l = c) :
    LOk P ⟨d, .slice t x lo hi mx, ty, pos, af, g⟩ T H H (.s (.slice id base r n c)) [] [] :=
  lok_pure fun ρ a w ho => by
    obtain ⟨k1, k2⟩ := slice_ops ho
    rw [hx] at k1
    obtain ⟨b, o, hρ, k1⟩ := k1
    have hb := run_bounds (P := P) (b := true) (w := w) hlo hhi hmx (fun e => by cases hi <;> simp_all) k2 h1 h2 h3
    have hr2 := run_slice (ad := some ⟨b, o + base + idx, none⟩) hu hs hb
    refine ⟨_, by rw [exec_slice, k1, sliceAt_sl hu, hr2]; rfl, b, o, hρ, ?_⟩
    subst hr; subst hn; subst hc
    rcases hlm with h4 | h4
    · rw [if_neg (by omega)]; simp [addr_add, Nat.add_assoc]
    · subst h4; split <;> simp [addr_add, Nat.add_assoc]
theorem l_sla {t e : TypeId} {x : Operand} {lo hi mx : Option Operand} {id base idx len l h m sz r n c : Nat} (hx : ev T x = .s (.ptr id base idx)) (hlo : Bnd T lo 0 l) (hhi : Bnd T hi len h) (hmx : Bnd T mx len m) (hho : (mx.isSome && hi.isNone) = false)
    (hu : P.underlying t = some (.array len e)) (hs : ∀ w, (sizeOf e).run P w = .ok sz w) (h1 : l ≤ h) (h2 : h ≤ m) (h3 : m ≤ len) (hlm : l < m ∨ l = 0) (hr : idx + l * sz = r) (hn : h - l = n) (hc : m - l = c) :
    LOk P ⟨d, .slice t x lo hi mx, ty, pos, af, g⟩ T H H (.s (.slice id base r n c)) [] [] :=
  lok_pure fun ρ a w ho => by
    obtain ⟨k1, k2⟩ := slice_ops ho
    rw [hx] at k1
    obtain ⟨b, o, hρ, k1⟩ := k1
    have hb := run_bounds (P := P) (b := false) (w := w) hlo hhi hmx (fun e => by cases hi <;> simp_all) k2 h1 h2 h3
    have hr2 : (Instr.sliceAt t (.pointer (some ⟨b, o + base + idx, none⟩)) (lo.map a.eval) (hi.map a.eval) (mx.map a.eval)).run P w = .ok (.slice (some (if m = l then ⟨b, o + base + idx, none⟩ else (⟨b, o + base + idx, none⟩ : Addr).add (l * sz))) (h - l) (m - l)) w := by
      simp [Instr.sliceAt, Instr.slice, Sem.run_bind, run_underlying hu, hb, hs, asAddr, Instr.sureAddr]
    refine ⟨_, by rw [exec_slice, k1, hr2]; rfl, b, o, hρ, ?_⟩
    subst hr; subst hn; subst hc
    rcases hlm with h4 | h4
    · rw [if_neg (by omega)]; simp [addr_add, Nat.add_assoc]
    · subst h4; split <;> simp [addr_add, Nat.add_assoc]
theorem l_sli {t e : TypeId} {x : Operand} {lo hi mx : Option Operand} {k : IntKind} {xs ys : List Int} {l h : Nat} (hx : ev T x = .s (.fzi k xs)) (hlo : Bnd T lo 0 l) (hhi : Bnd T hi xs.length h) (hmx : mx = none ∨ ∃ m, (∃ y, mx = some y ∧ ∃ k q, ev T y = .s (.int k q) ∧ q = ((m : Nat) : Int)) ∧ h ≤ m ∧ m ≤ xs.length) (hho : (mx.isSome && hi.isNone) = false)
    (hu : P.underlying t = some (.slice e)) (hs : ∀ w, (sizeOf e).run P w = .ok 1 w) (h1 : l ≤ h) (h2 : h ≤ xs.length) (hr : (xs.drop l).take (h - l) = ys) :
    LOk P ⟨d, .slice t x lo hi mx, ty, pos, af, g⟩ T H H (.s (.fzi k ys)) [] [] :=
  lok_pure fun ρ a w ho => by
    obtain ⟨k1, k2⟩ := slice_ops ho
    rw [hx] at k1
    have hyl : ys.length = h - l := by rw [← hr]; simp; omega
    obtain ⟨ad, cap, hev, hcap, hfz⟩ : ∃ ad cap, a.eval x = .slice ad xs.length cap ∧ xs.length ≤ cap ∧ (xs = [] ∨ ∃ b o cs, ad = some ⟨b, o, none⟩ ∧ ρ.fz b = some cs ∧ ∀ i, i < xs.length → cs[o + i]? = some (.int k (xs.getD i 0))) := by
      rcases k1 with ⟨e1, ad, c, e2⟩ | ⟨b, o, c, cs, e2, e3, e4, e5⟩
      · exact ⟨ad, c, by rw [e2, e1]; rfl, by rw [e1]; simp, .inl e1⟩
      · exact ⟨_, c, e2, e3, .inr ⟨b, o, cs, rfl, e4, e5⟩⟩
    obtain ⟨m, hm1, hm2, hm3⟩ : ∃ m, Bnd T mx cap m ∧ h ≤ m ∧ m ≤ cap := by
      rcases hmx with rfl | ⟨m, ⟨y, rfl, k', q, e1, e2⟩, e3, e4⟩
      · exact ⟨cap, rfl, by omega, Nat.le_refl _⟩
      · exact ⟨m, ⟨k', q, e1, e2⟩, e3, by omega⟩
    have hb := run_bounds (P := P) (b := true) (w := w) hlo hhi hm1 (fun e => by cases hi <;> simp_all) k2 h1 hm2 hm3
    have hr2 := run_slice (ad := ad) hu hs hb
    refine ⟨_, by rw [exec_slice, hev, sliceAt_sl hu, hr2]; rfl, ?_⟩
    rcases Nat.eq_zero_or_pos (h - l) with h0 | h0
    · exact .inl ⟨List.eq_nil_of_length_eq_zero (by rw [hyl]; exact h0), _, _, by rw [h0]⟩
    · rcases hfz with e | ⟨b, o, cs, rfl, e4, e5⟩
      · subst e; simp at h2; omega
      · refine .inr ⟨b, o + l, m - l, cs, ?_, by rw [hyl]; omega, e4, fun i hi => ?_⟩
        · rw [if_neg (by omega), hyl]; simp [addr_add]
        · rw [hyl] at hi
          rw [show o + l + i = o + (l + i) by omega, e5 (l + i) (by omega), ← hr]
          congr 2
          rw [List.getD_eq_getElem?_getD, List.getD_eq_getElem?_getD, List.getElem?_take_of_lt hi, List.getElem?_drop]
theorem l_slf {t e : TypeId} {x : Operand} {lo hi mx : Option Operand} {q : Nat} {f : Nat → SV} {k : IntKind} {xs ys : List Int} {base idx len l h m : Nat} (hx : ev T x = .s (.fptr q f base idx)) (hlo : Bnd T lo 0 l) (hhi : Bnd T hi len h) (hmx : Bnd T mx len m) (hho : (mx.isSome && hi.isNone) = false)
    (hu : P.underlying t = some (.array len e)) (hs : ∀ w, (sizeOf e).run P w = .ok 1 w) (h1 : l ≤ h) (h2 : h ≤ m) (h3 : m ≤ len) (hq : base + idx + len ≤ q) (hf : ∀ i, i < len → f (base + idx + i) = .int k (xs.getD i 0)) (hxl : xs.length = len) (hr : (xs.drop l).take (h - l) = ys) :
    LOk P ⟨d, .slice t x lo hi mx, ty, pos, af, g⟩ T H H (.s (.fzi k ys)) [] [] :=
  lok_pure fun ρ a w ho => by
    obtain ⟨k1, k2⟩ := slice_ops ho
    rw [hx] at k1
    obtain ⟨b, o, cs, k1, k3, k4⟩ := k1
    have hyl : ys.length = h - l := by rw [← hr]; simp; omega
    have hb := run_bounds (P := P) (b := false) (w := w) hlo hhi hmx (fun e => by cases hi <;> simp_all) k2 h1 h2 h3
    have hr2 : (Instr.sliceAt t (.pointer (some ⟨b, o + base + idx, none⟩)) (lo.map a.eval) (hi.map a.eval) (mx.map a.eval)).run P w = .ok (.slice (some (if m = l then ⟨b, o + base + idx, none⟩ else (⟨b, o + base + idx, none⟩ : Addr).add (l * 1))) (h - l) (m - l)) w := by
      simp [Instr.sliceAt, Instr.slice, Sem.run_bind, run_underlying hu, hb, hs, asAddr, Instr.sureAddr]
    refine ⟨_, by rw [exec_slice, k1, hr2]; rfl, ?_⟩
    rcases Nat.eq_zero_or_pos (h - l) with h0 | h0
    · exact .inl ⟨List.eq_nil_of_length_eq_zero (by rw [hyl]; exact h0), _, _, by rw [h0]⟩
    · refine .inr ⟨b, o + base + idx + l, m - l, cs, ?_, by rw [hyl]; omega, k3, fun i hi => ?_⟩
      · rw [if_neg (by omega), hyl]; simp [addr_add]
      · rw [hyl] at hi
        obtain ⟨u, hu', hr', _⟩ := k4 (base + idx + (l + i)) (by omega)
        rw [hf (l + i) (by omega)] at hr'
        have hr' : u = .int k (xs.getD (l + i) 0) := hr'
        subst hr'
        rw [show o + base + idx + l + i = o + (base + idx + (l + i)) by omega, hu', ← hr]
        congr 2
        rw [List.getD_eq_getElem?_getD, List.getD_eq_getElem?_getD, List.getElem?_take_of_lt hi, List.getElem?_drop]

theorem l_make {t e : TypeId} {x y : Operand} {l c n : Nat} {k k1 k2 : IntKind} {m1 m2 : Int} {inf : TypeInfo} (hx : ev T x = .s (.int k1 m1)) (hy : ev T y = .s (.int k2 m2)) (hm1 : m1 = (l : Int)) (hm2 : m2 = (c : Int)) (hlc : l ≤ c) (hc : inf.bytes * c ≤ 281474976710656) (hc2 : c ≤ 281474976710656)
    (hu : P.underlying t = some (.slice e)) (hi : P.info? e = some inf) (hs : inf.size = 1) (hz : inf.zero = some (.int k 0)) (hn : H.length = n) :
    LOk P ⟨d, .makeSlice t x y, ty, pos, af, g⟩ T H (H ++ [some (Blk.mk true [.ints k c (List.replicate c 0)])]) (.s (.slice n 0 0 l c)) [] [] :=
  lok_new [] (fun _ h => by cases h) fun H0 hl0 _ => by
    subst hn; subst hm1; subst hm2
    intro W ρ a w hH hf hW ho next Q hq
    obtain ⟨h1, h2⟩ := two (op := .makeSlice t x y) rfl ho hx hy
    simp only [AV.rep, AV.rep0, SV.rep] at h1 h2
    have hm := run_make (P := P) w t e inf (.int k 0) hu hi hz k1 k2 (l : Int) (c : Int) (by omega) (by omega) (by
      have h : ((inf.bytes * c : Nat) : Int) ≤ 281474976710656 := by omega
      rwa [Int.natCast_mul] at h) (by omega)
    simp only [Int.toNat_natCast, hs, Nat.mul_one] at hm
    have hrun : (execOp a.eval ⟨d, .makeSlice t x y, ty, pos, af, g⟩).run P w = .ok (.value (.slice (some ⟨w.heap.size, 0, none⟩) l c)) (w.alloc (.cells (madeCells (Value.int k 0).cells c) e)) := by
      simp [execOp, h1, h2, Sem.run_bind, hm]
    rw [hrun]
    obtain ⟨ρ', k3, k4, _⟩ := nx_alloc (t := e) hH (hf _ (Nat.le_refl _) (by simp)) hW (cells := madeCells (Value.int k 0).cells c) (segs := [.ints k c (List.replicate c 0)]) (fun ρ' _ i z hz => by
      obtain ⟨hi, rfl⟩ := atS_ints1 hz
      exact ⟨.int k 0, by simp [madeCells, Value.cells, hi, Nat.mod_one], by simp [SV.rep, List.getElem?_replicate, hi], rfl⟩)
    exact hq _ _ ⟨ρ', W, k3, w.heap.size, 0, by rw [← hl0]; exact k4, rfl⟩
theorem l_make_gro {t e : TypeId} {x y : Operand} {l c n sz : Nat} {k1 k2 : IntKind} {m1 m2 : Int} {inf : TypeInfo} {z : Value} (hx : ev T x = .s (.int k1 m1)) (hy : ev T y = .s (.int k2 m2)) (hm1 : m1 = (l : Int)) (hm2 : m2 = (c : Int)) (hl : l = 0) (hc : inf.bytes * c ≤ 281474976710656) (hc2 : c ≤ 281474976710656)
    (hu : P.underlying t = some (.slice e)) (hi : P.info? e = some inf) (hs : inf.size = sz) (hz : inf.zero = some z) (hzs : z.cells.size = sz) (hn : H.length = n) {segs : List Seg} (hseg : sizeS segs = 0) :
    LOk P ⟨d, .makeSlice t x y, ty, pos, af, g⟩ T H (H ++ [some (Blk.mk true segs)]) (.s (.gro n sz 0)) [] [] :=
  lok_new [] (fun _ h => by cases h) fun H0 hl0 _ => by
    subst hn; subst hm1; subst hm2; subst hl
    intro W ρ a w hH hf hW ho next Q hq
    obtain ⟨h1, h2⟩ := two (op := .makeSlice t x y) rfl ho hx hy
    simp only [AV.rep, AV.rep0, SV.rep] at h1 h2
    have hm := run_make (P := P) w t e inf z hu hi hz k1 k2 ((0 : Nat) : Int) (c : Int) (by omega) (by omega) (by
      have h : ((inf.bytes * c : Nat) : Int) ≤ 281474976710656 := by omega
      rwa [Int.natCast_mul] at h) (by omega)
    simp only [Int.toNat_natCast] at hm
    have hrun : (execOp a.eval ⟨d, .makeSlice t x y, ty, pos, af, g⟩).run P w = .ok (.value (.slice (some ⟨w.heap.size, 0, none⟩) 0 c)) (w.alloc (.cells (madeCells z.cells (c * inf.size)) e)) := by
      simp only [execOp, h1, h2, Sem.run_bind, hm]; rfl
    rw [hrun]
    obtain ⟨ρ', k3, k4, k5⟩ := nx_alloc (t := e) hH (hf _ (Nat.le_refl _) (by simp)) hW (cells := madeCells z.cells (c * inf.size)) (segs := segs) (fun ρ' _ i z hz => by
      have := atS_lt hz; omega)
    refine hq _ _ ⟨ρ', W, k3, .inr ⟨w.heap.size, 0, c, _, by rw [← hl0]; exact k4, rfl, Nat.zero_le _, k5, ?_⟩⟩
    rw [← hs]
    simp [madeCells]

theorem l_copy {x y : Operand} {t tx e rt : TypeId} {id base idx dl dc n m sz : Nat} {u : SV} {segs sub sub' segs' : List Seg} {R : List Nat} {H' : Heap} (hx : ev T x = .s (.slice id base idx dl dc)) (hy : ev T y = .s u) (hb : hget H id = some ⟨true, segs⟩) (hsrc : ASrc P tx sz R H u m sub) (hn : min m dl = n)
    (hu : P.underlying t = some (.slice e)) (hs : ∀ w, (sizeOf e).run P w = .ok sz w) (hsub : SubS sub 0 (n * sz) sub') (hp : PutS segs (base + idx) (n * sz) sub' segs') (hRi : ∀ i ∈ R, i < H.length) (hH : H.set id (some ⟨true, segs'⟩) = H') :
    LOk P ⟨d, .call ⟨.builtin .copy, #[x, y], #[t, tx]⟩, rt, pos, af, g⟩ T H H' (.s (.int .i64 (n : Int))) (id :: R) [id] := by
  subst hH; subst hn
  have hlt := hget_lt hb
  refine lok_set (id :: R) (fun j hj => ?_) (by simp) fun H0 hl hag => ?_
  · rcases List.mem_cons.1 hj with rfl | h
    · exact hlt
    · exact hRi j h
  intro W ρ a w hH hnn hW ho next Q hq
  have k1 : (ev T x).rep ρ (a.eval x) := ho x (by simp [Op.operands, Call.operands])
  have k2 : (ev T y).rep ρ (a.eval y) := ho y (by simp [Op.operands, Call.operands])
  rw [hx] at k1
  rw [hy] at k2
  obtain ⟨b, o, hρ, k1⟩ := k1
  obtain ⟨news, hS, hnr, hpre⟩ := hsrc.2 _ W ρ w _ (fun j hj => hag j (List.mem_cons_of_mem _ hj)) hH k2
  have hb0 : hget H0 id = some ⟨true, segs⟩ := (hag id (by simp)).trans hb
  obtain ⟨⟨cells, tt, fr, g1, g2, _, g4⟩, hWb⟩ := hH.rep id b o _ hρ hb0
  have hfr := g2 rfl
  subst hfr
  have hfit := fits g4 hp
  have hnl := hS.newsLen
  have hmn : min m dl * sz ≤ news.length := by rw [hnl]; exact Nat.mul_le_mul_right sz (Nat.min_le_left _ _)
  -- the cells that are copied
  have hf := hpre (min m dl) (Nat.min_le_left _ _)
  generalize hcs : news.take (min m dl * sz) = cs at *
  have hcl : cs.length = min m dl * sz := by rw [← hcs, List.length_take]; omega
  have hone : ∀ u ∈ cs, u.oneCell' = true := fun u hu => hS.one u (by rw [← hcs] at hu; exact List.mem_of_mem_take hu)
  have hst := run_storeCells_at P b (o + (base + idx)) tt cs 0 cells w g1 (by rw [hcl]; omega) hone
  rw [Nat.add_zero] at hst
  have hrun : (execOp a.eval ⟨d, .call ⟨.builtin .copy, #[x, y], #[t, tx]⟩, rt, pos, af, g⟩).run P w = .ok (.value (.int .i64 ((min m dl : Nat) : Int))) (w.setRow b (cells.toList.take (o + (base + idx)) ++ cs ++ cells.toList.drop (o + (base + idx) + cs.length)).toArray) := by
    simp only [execOp, resolve, invoke, builtin, List.map_toArray, List.map_cons, List.map_nil, k1]
    have hmin : Nat.min m dl = min m dl := rfl
    simp only [Builtin.copy_, Sem.run_bind, run_underlying hu, hS.len, hs, Result.andThen_ok]
    simp [Sem.run_bind, run_underlying hu, hS.len, hs, hmin, hf, goInt]
    rw [show o + base + idx = o + (base + idx) by omega, hst]
    simp
  rw [hrun]
  refine hq _ _ ⟨ρ, W, nx_write hH hW hρ hb0 g1 g4 hp hcl (fun i z hz => ?_) hfit, rfl⟩
  have hi : i < min m dl * sz := by rw [← hsub.1]; exact atS_lt hz
  obtain ⟨y', x', e1, e2, e3⟩ := hsub.2 i hi
  rw [hz] at e2
  cases e2
  rw [Nat.zero_add] at e1
  obtain ⟨v, hv, hc⟩ := hnr i y' e1
  refine ⟨v, ?_, e3.rep hc.1, hc.2⟩
  show cs[i]? = some v
  rw [← hcs, List.getElem?_take, if_pos hi]; exact hv

inductive CapL (T : Tm) (g : Nat → SV) : Nat → List Operand → Prop
  | nil {i} : CapL T g i []
  | cons {i x xs} (hx : ev T x = .s (g i)) (k : CapL T g (i + 1) xs) : CapL T g i (x :: xs)
theorem CapL.get {T : Tm} {q : Nat → SV} {i : Nat} {xs : List Operand} (h : CapL T q i xs) : ∀ (j : Nat) (x : Operand), xs[j]? = some x → ev T x = .s (q (i + j)) := by
  induction h with
  | nil => intro j x hx; simp at hx
  | @cons i x xs hx k ih =>
    intro j y hy
    cases j with
    | zero => simp at hy; subst hy; exact hx
    | succ j => have := ih j y (by simpa using hy); rw [show i + (j + 1) = i + 1 + j by omega]; exact this
theorem l_fn {f n : Nat} {caps : Array Operand} {l : List Operand} {q : Nat → SV} (hl : caps.toList = l) (hc : CapL T q 0 l) (hn : l.length = n) :
    LOk P ⟨d, .makeFunc (.func f) #[] caps, ty, pos, af, g⟩ T H H (.s (.clo f n q)) [] [] :=
  lok_pure fun ρ a w ho => by
    subst hl; subst hn
    refine ⟨.func (.func f) #[] (caps.map a.eval), by simp [execOp, Instr.makeFunc], caps.map a.eval, rfl, by simp, fun i hi => ?_⟩
    have hi' : i < caps.size := by simpa using hi
    have hx : caps.toList[i]? = some caps[i] := by simp [hi']
    have he := hc.get i _ hx
    rw [Nat.zero_add] at he
    have hm : caps[i] ∈ (Op.makeFunc (.func f) #[] caps).operands := by simp [Op.operands]
    have := ho _ hm
    rw [he] at this
    exact ⟨a.eval caps[i], by simp [hi'], this⟩

theorem l_bytes {src t e : TypeId} {x : Operand} {s : ByteArray} (hx : ev T x = .s (.val (.string s))) (hs : P.underlying src = some .string) (hu : P.underlying t = some (.slice e)) (he : P.underlying e = some (.int .u8)) :
    LOk P ⟨d, .convert src t x, ty, pos, af, g⟩ T H H (.s (.fzi .u8 (strL s))) [] [] :=
  lok_read [] (fun _ h => by cases h) fun H0 hl _ => by
    intro W ρ a w hH hf hW ho next Q hq
    have h1 := one (op := .convert src t x) rfl ho hx
    have h1 : a.eval x = .string s := h1.1
    have hr := run_bytes_of_string (P := P) w src t e s hs hu he
    have hrun : (execOp a.eval ⟨d, .convert src t x, ty, pos, af, g⟩).run P w = .ok (.value (.slice (some ⟨w.heap.size, 0, none⟩) s.size (grownCap w s.size 0 e))) (w.drew.alloc (.cells (bytesRow s (grownCap w s.size 0 e)) e ((bytesRow s (grownCap w s.size 0 e)).size, (bytesRow s (grownCap w s.size 0 e)).size + 1))) := by
      simp only [execOp, h1]
      simp [Sem.run_bind, hr]
    rw [hrun]
    obtain ⟨ρ', W', k1, k2, k3⟩ := nx_frozen (t := e) (fr := ((bytesRow s (grownCap w s.size 0 e)).size, (bytesRow s (grownCap w s.size 0 e)).size + 1)) (cells := bytesRow s (grownCap w s.size 0 e)) (w := w.drew) (hH.ext (.drew w)) (fun b hb => hW b hb)
    refine hq _ _ ⟨ρ', W', ⟨k1.le, k1.old, k1.rep, ((Ext.drew w).fr W).trans k1.fr, k1.sub, k1.fresh, k1.fzn⟩, .inr ⟨w.heap.size, 0, _, _, by rw [strL_len], by rw [strL_len]; exact grownCap_ge w _ _ _, k2, fun i hi => ?_⟩⟩
    rw [strL_len] at hi
    have hil : i < s.data.size := hi
    rw [Nat.zero_add]
    simp only [bytesRow]
    rw [Array.getElem?_append_left (by simpa using hil)]
    have e1 : (s.data.map fun b => Value.int .u8 (b.toNat : Int))[i]? = some (Value.int .u8 (s.data[i].toNat : Int)) := by
      rw [Array.getElem?_map, Array.getElem?_eq_getElem hil]; rfl
    rw [e1]
    congr 2
    simp only [strL, List.getD_eq_getElem?_getD, List.getElem?_map, Array.getElem?_toList, Array.getElem?_eq_getElem hil]
    rfl
end rules
end Go.Bx
end

section
/- Structs and rows, built of parts; structs compared. No program. -/
namespace Go.Bx

def AV.row : AV → List Seg
  | .s v => [.one v]
  | .agg l => l
  | .tup _ => []
def AV.solid : AV → Bool
  | .s .junk => false
  | .tup _ => false
  | _ => true
theorem av_row {ρ : Rho} {x : AV} {u : Value} (hx : x.solid = true) (h : x.rep ρ u) : RowRep ρ x.row (fun i => u.cells[i]?) ∧ u.cells.size = sizeS x.row ∧ ∀ v ∈ u.cells.toList, v.oneCell' = true := by
  cases x with
  | s v =>
    have hj : v ≠ .junk := by rintro rfl; simp [AV.solid] at hx
    obtain ⟨h1, h2, h3⟩ := rep_cells_s h hj
    exact ⟨h2, h1, h3⟩
  | agg l =>
    obtain ⟨h1, h2, h3⟩ := rep_cells_agg h rfl
    exact ⟨h2, h1, h3⟩
  | tup l => simp [AV.solid] at hx
inductive PartL (T : Tm) : List (Nat × Operand) → List (Nat × AV) → Prop
  | nil : PartL T [] []
  | cons {i x a ps l} (hx : ev T x = a) (hs : a.solid = true) (k : PartL T ps l) : PartL T ((i, x) :: ps) ((i, a) :: l)
inductive PRep (ρ : Rho) : List (Nat × AV) → List (Nat × Value) → Prop
  | nil : PRep ρ [] []
  | cons {i a v l vs} (hs : a.solid = true) (h : a.rep ρ v) (k : PRep ρ l vs) : PRep ρ ((i, a) :: l) ((i, v) :: vs)
theorem PartL.rep {T : Tm} {ps : List (Nat × Operand)} {l : List (Nat × AV)} {ρ : Rho} {a : Act} (h : PartL T ps l) (ho : ∀ p ∈ ps, (ev T p.2).rep ρ (a.eval p.2)) : PRep ρ l (ps.map fun p => (p.1, a.eval p.2)) := by
  induction h with
  | nil => exact .nil
  | @cons i x v ps l hx hs k ih => exact .cons hs (by have := ho (i, x) (by simp); rwa [hx] at this) (ih fun p hp => ho p (by simp [hp]))
def fillS (place : Nat → Option (Nat × Nat)) : List Seg → List (Nat × AV) → Option (List Seg)
  | Z, [] => some Z
  | Z, (i, a) :: r => match place i with
    | none => none
    | some (off, size) => bif Nat.beq (sizeS a.row) size then (match putSegs Z off size a.row with | some Z' => fillS place Z' r | none => none) else none
theorem putSegs_len : ∀ {l : List Seg} {o n : Nat} {sub l' : List Seg}, putSegs l o n sub = some l' → sizeS sub = n → sizeS l' = sizeS l
  | l, 0, n, sub, l', h, hs => by
    have h : (dropS l n).map (sub ++ ·) = some l' := by cases l <;> exact h
    simp only [Option.map_eq_some_iff] at h
    obtain ⟨q, hq, rfl⟩ := h
    have : ∀ {l : List Seg} {n : Nat} {q : List Seg}, dropS l n = some q → n + sizeS q = sizeS l := by
      intro l
      induction l with
      | nil => intro n q hq; cases n with
        | zero => simp only [dropS, Option.some.injEq] at hq; subst hq; simp
        | succ n => simp [dropS] at hq
      | cons s r ih => intro n q hq; cases n with
        | zero =>
          have hq : some (s :: r) = some q := hq
          cases hq; simp
        | succ n =>
          simp only [dropS] at hq
          cases h1 : Nat.ble s.size (n + 1) with
          | false => rw [h1] at hq; simp at hq
          | true =>
            rw [h1] at hq
            simp only [cond_true] at hq
            cases h2 : Nat.beq s.size 0 with
            | true => rw [h2] at hq; simp at hq
            | false =>
              rw [h2] at hq
              have := ih hq
              have hle : s.size ≤ n + 1 := Nat.le_of_ble_eq_true h1
              simp [sizeS]; omega
    rw [sizeS_append, hs]; exact this hq
  | [], o + 1, n, sub, l', h, hs => by simp [putSegs] at h
  | s :: r, o + 1, n, sub, l', h, hs => by
    simp only [putSegs] at h
    cases h1 : Nat.ble s.size (o + 1) with
    | false => rw [h1] at h; simp at h
    | true =>
      rw [h1] at h
      simp only [cond_true] at h
      cases h2 : Nat.beq s.size 0 with
      | true => rw [h2] at h; simp at h
      | false =>
        rw [h2] at h
        simp only [cond_false, Option.map_eq_some_iff] at h
        obtain ⟨q, hq, rfl⟩ := h
        have := putSegs_len hq hs
        simp [sizeS, this]
theorem fill_rep {place : Nat → Option (Nat × Nat)} {ρ : Rho} {l : List (Nat × AV)} {vs : List (Nat × Value)} (hp : PRep ρ l vs) : ∀ {Z R : List Seg} {cells : Array Value}, fillS place Z l = some R → cells.size = sizeS Z → RowRep ρ Z (fun i => cells[i]?) →
    ∃ r, Instr.fill place cells vs = some r ∧ r.size = sizeS R ∧ RowRep ρ R (fun i => r[i]?) := by
  induction hp with
  | nil => intro Z R cells h hs hr; simp only [fillS, Option.some.injEq] at h; subst h; exact ⟨cells, rfl, hs, hr⟩
  | @cons i a v l vs hsol ha k ih =>
    intro Z R cells h hs hr
    simp only [fillS] at h
    cases hpl : place i with
    | none => rw [hpl] at h; cases h
    | some x =>
      obtain ⟨off, size⟩ := x
      rw [hpl] at h
      simp only at h
      cases hb : Nat.beq (sizeS a.row) size with
      | false => rw [hb] at h; simp at h
      | true =>
        rw [hb] at h
        simp only [cond_true] at h
        have hsz := Nat.eq_of_beq_eq_true hb
        cases hz : putSegs Z off size a.row with
        | none => rw [hz] at h; simp at h
        | some Z' =>
          rw [hz] at h
          simp only at h
          obtain ⟨r1, r2, _⟩ := av_row hsol ha
          have hle := putSegs_size hz
          obtain ⟨g1, g2⟩ := Great.foldl_set off v.cells.toList 0 cells
          have e : Instr.fill place cells ((i, v) :: vs) = Instr.fill place (v.cells.zipIdx.foldl (fun cs (c, j) => cs.setIfInBounds (off + j) c) cells) vs := by
            rw [Instr.fill, hpl]
            simp only
            rw [if_neg (by simp; omega)]
          rw [e]
          have ef : v.cells.zipIdx.foldl (fun cs (c, j) => cs.setIfInBounds (off + j) c) cells = (v.cells.toList.zipIdx 0).foldl (fun cs (p : Value × Nat) => cs.setIfInBounds (off + p.2) p.1) cells := by
            rw [← Array.foldl_toList, Array.toList_zipIdx]
          rw [ef]
          refine ih h (by rw [g1, hs, putSegs_len hz hsz]) fun j x hx => ?_
          have hput := putSegs_put hz hsz j x hx
          show ∃ u, (_ : Array Value)[j]? = some u ∧ _
          rw [g2 j]
          have hvl : v.cells.toList.length = size := by simp [r2, hsz]
          by_cases hj : off ≤ j ∧ j < off + size
          · rw [if_pos hj] at hput
            rw [if_pos ⟨by omega, by omega, by omega⟩]
            obtain ⟨u, hu, hc⟩ := r1 _ x hput
            exact ⟨u, by simpa using hu, hc⟩
          · rw [if_neg hj] at hput
            rw [if_neg (by rw [hvl]; omega)]
            exact hr j x hput

section rules
variable {P : Program} {T : Tm} {H : Heap} {d : Option Tmp} {ty : TypeId} {pos : String} {af : Array Edge} {g : Option (Nat × Bool)}
theorem eval_parts {parts : Array (Nat × Operand)} {l : List (Nat × AV)} {ρ : Rho} {a : Act} {ps : List (Nat × Operand)} (hps : parts.toList = ps) (hl : PartL T ps l) (ho : ∀ x ∈ (Op.build ty parts).operands, (ev T x).rep ρ (a.eval x)) : PRep ρ l (parts.map fun p => (p.1, a.eval p.2)).toList := by
  subst hps
  rw [Array.toList_map]
  exact hl.rep fun p hp => ho _ (by simp only [Op.operands]; simpa using ⟨p.1, Array.mem_toList_iff.1 hp⟩)
theorem l_build {t : TypeId} {fields : Array Field} {places : Array (Nat × Nat)} {z : Value} {parts : Array (Nat × Operand)} {ps : List (Nat × Operand)} {l : List (Nat × AV)} {Z segs : List Seg} (hps : parts.toList = ps) (hl : PartL T ps l) (hu : P.underlying t = some (.struct fields)) (hz : ∀ w, (zeroValue t).run P w = .ok z w)
    (hp : ∀ w, (fields.mapM fun f => do pure (f.offset, ← sizeOf f.type) : Sem (Array (Nat × Nat))).run P w = .ok places w) (hZ : rowOk Z z.cells = true) (hs : fillS (places[·]?) Z l = some segs) : LOk P ⟨d, .build t parts, ty, pos, af, g⟩ T H H (.agg segs) [] [] :=
  lok_pure fun ρ a w ho => by
    have hr := eval_parts (ty := t) hps hl ho
    obtain ⟨r, h1, h2, h3⟩ := fill_rep (place := (places[·]?)) hr hs (rowOk_rep hZ).1 ((rowOk_rep hZ).2 ρ)
    refine ⟨.agg r, ?_, r, rfl, h2, h3⟩
    simp only [execOp]
    simp only [Instr.build, Sem.run_bind, hz, Result.andThen_ok, run_underlying hu, hp, h1, Sem.run_pure]
theorem l_buildA {t e : TypeId} {n sz : Nat} {z : Value} {parts : Array (Nat × Operand)} {ps : List (Nat × Operand)} {l : List (Nat × AV)} {Z segs : List Seg} (hps : parts.toList = ps) (hl : PartL T ps l) (hu : P.underlying t = some (.array n e)) (hz : ∀ w, (zeroValue t).run P w = .ok z w)
    (he : ∀ w, (sizeOf e).run P w = .ok sz w) (hZ : rowOk Z z.cells = true) (hs : fillS (fun i => some (i * sz, sz)) Z l = some segs) : LOk P ⟨d, .build t parts, ty, pos, af, g⟩ T H H (.agg segs) [] [] :=
  lok_pure fun ρ a w ho => by
    have hr := eval_parts (ty := t) hps hl ho
    obtain ⟨r, h1, h2, h3⟩ := fill_rep (place := fun i => some (i * sz, sz)) hr hs (rowOk_rep hZ).1 ((rowOk_rep hZ).2 ρ)
    refine ⟨.agg r, ?_, r, rfl, h2, h3⟩
    simp only [execOp]
    simp only [Instr.build, Sem.run_bind, hz, Result.andThen_ok, run_underlying hu, he, h1, Sem.run_pure]
def intsOf (k : IntKind) : List Seg → Option (List Int)
  | [] => some []
  | .one (.int k' x) :: r => bif k' == k then (intsOf k r).map (x :: ·) else none
  | .ints k' n l :: r => bif k' == k && Nat.beq l.length n then (intsOf k r).map (l ++ ·) else none
  | _ => none
theorem intsOf_at {k : IntKind} : ∀ {l : List Seg} {xs : List Int}, intsOf k l = some xs → sizeS l = xs.length ∧ ∀ i, i < xs.length → atS l i = some (.int k (xs.getD i 0))
  | [], xs, h => by simp only [intsOf, Option.some.injEq] at h; subst h; exact ⟨rfl, fun i hi => absurd hi (Nat.not_lt_zero i)⟩
  | .one v :: r, xs, h => by
    cases v with
    | int k' x =>
      simp only [intsOf] at h
      cases hk : k' == k with
      | false => rw [hk] at h; simp at h
      | true =>
        rw [hk] at h
        simp only [cond_true, Option.map_eq_some_iff] at h
        obtain ⟨q, hq, rfl⟩ := h
        have : k' = k := by simpa using hk
        subst this
        obtain ⟨i1, i2⟩ := intsOf_at hq
        refine ⟨by simp [sizeS, Seg.size, i1]; omega, fun i hi => ?_⟩
        cases i with
        | zero => simp [atS, Seg.size, Seg.at]
        | succ i => simp [atS, Seg.size, i2 i (by simpa using hi)]
    | _ => simp [intsOf] at h
  | .ints k' n l :: r, xs, h => by
    simp only [intsOf] at h
    cases hk : k' == k && Nat.beq l.length n with
    | false => rw [hk] at h; simp at h
    | true =>
      rw [hk] at h
      simp only [cond_true, Option.map_eq_some_iff] at h
      obtain ⟨q, hq, rfl⟩ := h
      simp only [Bool.and_eq_true, beq_iff_eq] at hk
      obtain ⟨rfl, hl⟩ := hk
      have hl := Nat.eq_of_beq_eq_true hl
      subst hl
      obtain ⟨i1, i2⟩ := intsOf_at hq
      have hs : (Seg.ints k' l.length l).size = l.length := rfl
      refine ⟨by simp [sizeS, hs, i1], fun i hi => ?_⟩
      simp only [atS, hs]
      by_cases h1 : i < l.length
      · rw [if_pos h1, List.getD_eq_getElem?_getD, List.getElem?_append_left h1]; rfl
      · rw [if_neg h1, i2 _ (by simp at hi; omega), List.getD_eq_getElem?_getD, List.getD_eq_getElem?_getD, List.getElem?_append_right (by omega)]
  | .rows .. :: r, xs, h => by simp [intsOf] at h
theorem rep_ints {ρ : Rho} {k : IntKind} {l : List Seg} {xs : List Int} {n : Nat} (h : intsOf k l = some xs) (hn : xs.length = n) {get : Nat → Option Value} (hr : RowRep ρ l get) : RowRep ρ [.ints k n xs] get := by
  subst hn
  obtain ⟨i1, i2⟩ := intsOf_at h
  intro i x hx
  obtain ⟨hi, rfl⟩ := atS_ints1 hx
  exact hr i _ (i2 i hi)
theorem l_buildI {t e : TypeId} {n : Nat} {k : IntKind} {xs : List Int} {z : Value} {parts : Array (Nat × Operand)} {ps : List (Nat × Operand)} {l : List (Nat × AV)} {Z segs : List Seg} (hps : parts.toList = ps) (hl : PartL T ps l) (hu : P.underlying t = some (.array n e)) (hz : ∀ w, (zeroValue t).run P w = .ok z w)
    (he : ∀ w, (sizeOf e).run P w = .ok 1 w) (hZ : rowOk Z z.cells = true) (hs : fillS (fun i => some (i * 1, 1)) Z l = some segs) (hi : intsOf k segs = some xs) (hn : xs.length = n) : LOk P ⟨d, .build t parts, ty, pos, af, g⟩ T H H (.agg [.ints k n xs]) [] [] :=
  lok_pure fun ρ a w ho => by
    have hr := eval_parts (ty := t) hps hl ho
    obtain ⟨r, h1, h2, h3⟩ := fill_rep (place := fun i => some (i * 1, 1)) hr hs (rowOk_rep hZ).1 ((rowOk_rep hZ).2 ρ)
    refine ⟨.agg r, ?_, r, rfl, by rw [h2, (intsOf_at hi).1, hn]; simp [sizeS, Seg.size], rep_ints hi hn h3⟩
    simp only [execOp]
    simp only [Instr.build, Sem.run_bind, hz, Result.andThen_ok, run_underlying hu, he, h1, Sem.run_pure]
theorem l_bsl {t e : TypeId} {n sz n0 : Nat} {z : Value} {parts : Array (Nat × Operand)} {ps : List (Nat × Operand)} {l : List (Nat × AV)} {Z segs segs' : List Seg} (hps : parts.toList = ps) (hl : PartL T ps l) (hu : P.underlying t = some (.slice e))
    (he : ∀ w, (sizeOf e).run P w = .ok sz w) (hbig : n * sz ≤ 16777216) (hz : ∀ w, (zeroValue e).run P w = .ok z w) (hZ : rowOk Z ((Array.range (n * sz)).map fun i => z.cells[i % z.cells.size]!) = true) (hs : fillS (fun i => some (i * sz, sz)) Z l = some segs)
    (h0 : 0 < n * sz) (hc : ∀ (ρ : Rho) (get : Nat → Option Value), RowRep ρ segs get → RowRep ρ segs' get) (hn : H.length = n0) {H' : Heap} (hH : H ++ [some (Blk.mk true segs')] = H') : LOk P ⟨d, .buildSlice t n parts, ty, pos, af, g⟩ T H H' (.s (.slice n0 0 0 n n)) [] [] := by
  subst hH
  refine lok_new [] (fun _ h => by cases h) fun H0 hl0 _ => ?_
  subst hn
  intro W ρ a w hH hf hW ho next Q hq
  have hr := eval_parts (ty := t) hps hl ho
  obtain ⟨r, h1, h2, h3⟩ := fill_rep (place := fun i => some (i * sz, sz)) hr hs (rowOk_rep hZ).1 ((rowOk_rep hZ).2 ρ)
  have hrun : (execOp a.eval ⟨d, .buildSlice t n parts, ty, pos, af, g⟩).run P w = .ok (.value (.slice (some ⟨w.heap.size, 0, none⟩) n n)) (w.alloc (.cells r e)) := by
    simp only [execOp]
    have e1 : ¬ (n * sz > 2 ^ 24) := by omega
    have e2 : ¬ (n * sz = 0) := by omega
    simp only [Instr.buildSlice, Sem.run_bind, run_underlying hu, Result.andThen_ok, he, if_neg e1, if_neg e2, hz, Sem.run_pure, h1, newRow]
    rfl
  rw [hrun]
  obtain ⟨ρ', k3, k4, _⟩ := nx_alloc (t := e) hH (hf _ (Nat.le_refl _) (by simp)) hW (cells := r) (segs := segs') (fun ρ' hle => hc ρ' _ (h3.le hle))
  exact hq _ _ ⟨ρ', W, k3, w.heap.size, 0, by rw [← hl0]; exact k4, rfl⟩
end rules
end Go.Bx
end
