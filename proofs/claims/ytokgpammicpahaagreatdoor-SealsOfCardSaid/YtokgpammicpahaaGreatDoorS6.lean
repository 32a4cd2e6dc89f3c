/- A part of the proofs of this claim: Bx27, Bx28, Bx29, Bx30, Bx31, Bx32, Bx33, Bx34, Bx35, Bx36, Bx37, Bx38, Bx39, Bx40, Bx41, Bx42, Bx43, Bx44, Bx45, Bx46, Bx47, BRefT, BBokT, Bx48, Bx49. No conditions. -/
import Derived.Test.YtokgpammicpahaaGreatDoorS5
import Derived.OpenShut
import Derived.ChangeSlices
import Derived.Below
import Derived.ChangeSame
import Derived.SizedLaws
import Derived.Lib.AppendZerosOnto
import Derived.Lib.LazyBuf
import Derived.Lib.Overlaps
import Derived.ScopeJumps
import Derived.DefersIn
import Derived.Test.YtokgpammicpahaaGreatDoorS4
set_option linter.unusedVariables false
set_option linter.unusedSimpArgs false
section
/- What comes in, told as values: nothing of it is written. No program. -/
namespace Go.Bx
open Go.ChangeShapes Go.WideShapes
def rhoW (w : World) : Rho := ⟨fun _ => none, fun b => match w.heap[b]? with | some (.cells cs _ _) => some cs | _ => none, fun _ => none⟩
theorem rhoW_fz {w : World} {b : Nat} {cs : Array Value} {t : TypeId} {fr : Nat × Nat} (h : w.heap[b]? = some (.cells cs t fr)) : (rhoW w).fz b = some cs := by simp [rhoW, h]
theorem hrep_w (w : World) : HRep (fun b => w.heap.size ≤ b) (rhoW w) (hget []) w := by
  refine ⟨fun id b o e => (by cases e), fun id b o k e => (by cases e), fun id id' b o o' k k' _ e => (by cases e), fun b cs e => ?_, fun b n e => (by cases e)⟩
  simp only [rhoW] at e
  split at e
  · rename_i c t fr hb
    cases e
    exact ⟨fun h => absurd (Array.getElem?_eq_some_iff.1 hb).1 (by omega), t, fr, hb⟩
  · cases e
theorem calls_con {P : Program} {f : FuncId} {args : List AV} {r : Bool} {vals : Array Value} {w : World} (h : Con P f args [] (.s (.bool r)) []) (ha : ArgsRep (rhoW w) args vals) :
    Calls P f vals w fun e w' => e = .returned (.bool r) ∧ Go.RowKit.Below w.heap.size w w' := by
  refine (h.run (fun b => w.heap.size ≤ b) (rhoW w) vals w (hrep_w w) (fun _ _ => rfl) (fun _ h => h) ha).mono ?_
  rintro e w' ⟨v', ρ', W', rfl, hn, hv⟩
  have hv : v' = .bool r := hv
  subst hv
  exact ⟨rfl, hn.fr.os, hn.fr.tape, hn.fr.output, hn.fr.size, fun k hk => hn.fr.block k hk (by omega)⟩
section
variable {Hh : Type} {enc : TypeId × Value → Hh} {P : Program} {w : World} {base : Nat} {spare : Nat → Bool} {held : Bool}
def Op (enc : TypeId × Value → Hh) (P : Program) (w : World) (base : Nat) (spare : Nat → Bool) (held : Bool) (t : TypeId) (n : Nat) (S : List Seg → Prop) : Prop :=
  P.cellsOf t = n ∧ ∀ (fuel : Nat) (cs : List Value) (x : DataW Hh × List MemPlace), DataW.trod enc P w base spare held fuel t cs = some x → ∃ segs, S segs ∧ sizeS segs = n ∧ RowRep (rhoW w) segs (fun i => cs[i]?)
def shInt (k : IntKind) : List Seg → Prop := fun s => ∃ n, (Lit.int k n).wf = true ∧ s = [.one (.int k n)]
def shBool : List Seg → Prop := fun s => ∃ b, s = [.one (.bool b)]
def shArr (k : IntKind) (m : Nat) : List Seg → Prop := fun s => ∃ l : List Int, l.length = m ∧ (∀ y ∈ l, (Lit.int k y).wf = true) ∧ s = [.ints k m l]
def shInts (k : IntKind) : List Seg → Prop := fun s => ∃ l : List Int, l.length ≤ maxLen ∧ (∀ y ∈ l, (Lit.int k y).wf = true) ∧ s = [.one (.fzi k l)]
def shRows (wd : Nat) (S : List Seg → Prop) : List Seg → Prop := fun s => ∃ (n : Nat) (rows : Nat → List Seg), n ≤ maxLen ∧ (∀ i, i < n → S (rows i) ∧ sizeS (rows i) = wd) ∧ s = [.one (.fz n wd (rowsF rows))]
def shCat : List (Nat × (List Seg → Prop)) → List Seg → Prop
  | [], s => s = []
  | (n, S) :: r, s => ∃ a b, S a ∧ sizeS a = n ∧ shCat r b ∧ s = a ++ b
def total (Ss : List (Nat × (List Seg → Prop))) : Nat := (Ss.map (·.1)).sum
theorem op_int {t : TypeId} {k : IntKind} (ht : P.underlying t = some (.int k)) (hc : P.cellsOf t = 1) : Op enc P w base spare held t 1 (shInt k) :=
  ⟨hc, fun fuel cs x h => by
    obtain ⟨n, rfl, _, hw⟩ := DataW.trod_int ht h
    refine ⟨_, ⟨n, hw, rfl⟩, rfl, fun i y hy => ?_⟩
    obtain ⟨rfl, rfl⟩ := atS_one1 hy
    exact ⟨_, rfl, rfl, rfl⟩⟩
theorem cell_blk {w : World} {a : Addr} {v : Value} (h : w.cell? a = some v) : ∃ cells t fr, w.heap[a.block]? = some (.cells cells t fr) ∧ a.spot = none ∧ cells[a.off]? = some v := by
  unfold World.cell? at h
  split at h
  · rename_i c t fr hb
    split at h
    · cases h
    · rename_i hs
      exact ⟨c, t, fr, hb, by simpa using hs, h⟩
  · cases h
theorem op_arr {t e : TypeId} {n : Nat} {k : IntKind} (ht : P.underlying t = some (.array n e)) (he : P.underlying e = some (.int k)) (hc : P.cellsOf e = 1) (hct : P.cellsOf t = n) : Op enc P w base spare held t n (shArr k n) :=
  ⟨hct, fun fuel cs x h => by
    obtain ⟨xs, m, _, _, hl, hlen, hall⟩ := DataW.trod_array ht h
    rw [hct] at hl
    have each : ∀ i, i < n → ∃ z, cs[i]? = some (.int k z) ∧ (Lit.int k z).wf = true := by
      intro i hi
      have h1 := hall i hi
      rw [hc, Nat.mul_one] at h1
      obtain ⟨y, hy⟩ : ∃ y, xs[i]? = some y := ⟨_, List.getElem?_eq_getElem (by rw [hlen]; exact hi)⟩
      rw [hy] at h1
      obtain ⟨z, hz, _, hw⟩ := DataW.trod_int he h1
      have := congrArg (·[0]?) hz
      simp [List.getElem?_drop] at this
      exact ⟨z, this, hw⟩
    have hg : ∀ (n : Nat) (cs : List Value), cs.length = n → (∀ i, i < n → ∃ z, cs[i]? = some (.int k z) ∧ (Lit.int k z).wf = true) → ∃ l : List Int, l.length = n ∧ (∀ y ∈ l, (Lit.int k y).wf = true) ∧ cs = l.map (Value.int k) := by
      intro n
      induction n with
      | zero => intro cs h _; exact ⟨[], rfl, by simp, by simpa using h⟩
      | succ n ih =>
        intro cs h hz
        cases cs with
        | nil => simp at h
        | cons c r =>
          obtain ⟨z, h1, h2⟩ := hz 0 (by omega)
          simp at h1
          subst h1
          obtain ⟨l, h3, h4, h5⟩ := ih r (by simpa using h) (fun i hi => by simpa using hz (i + 1) (by omega))
          exact ⟨z :: l, by simp [h3], by simpa [h2] using h4, by simp [h5]⟩
    obtain ⟨l, h1, h2, rfl⟩ := hg n cs hl each
    refine ⟨_, ⟨l, h1, h2, rfl⟩, by simp [sizeS, Seg.size], fun i y hy => ?_⟩
    obtain ⟨h3, rfl⟩ := atS_ints1 hy
    exact ⟨.int k (l.getD i 0), by simp [h1, h3], rfl, rfl⟩⟩
theorem rowRep_app {ρ : Rho} {a b : List Seg} {get : Nat → Option Value} (h1 : RowRep ρ a get) (h2 : RowRep ρ b (fun j => get (sizeS a + j))) : RowRep ρ (a ++ b) get := by
  intro i x hx
  rw [atS_append] at hx
  split at hx
  · exact h1 i x hx
  · rename_i hi
    obtain ⟨v, hv, hc⟩ := h2 _ x hx
    have hv : get (sizeS a + (i - sizeS a)) = some v := hv
    rw [show sizeS a + (i - sizeS a) = i by omega] at hv
    exact ⟨v, hv, hc⟩
theorem cat_rep {ρ : Rho} : ∀ {Ss : List (Nat × (List Seg → Prop))} {get : Nat → Option Value}, (∀ i n S, Ss[i]? = some (n, S) → ∃ segs, S segs ∧ sizeS segs = n ∧ RowRep ρ segs (fun j => get (total (Ss.take i) + j))) → ∃ segs, shCat Ss segs ∧ sizeS segs = total Ss ∧ RowRep ρ segs get
  | [], get, _ => ⟨[], rfl, rfl, fun i x hx => by simp [atS] at hx⟩
  | (n, S) :: r, get, h => by
    obtain ⟨a, a1, a2, a3⟩ := h 0 n S rfl
    have a3 : RowRep ρ a get := fun i x hx => by
      obtain ⟨v, hv, hc⟩ := a3 i x hx
      exact ⟨v, by simpa [total] using hv, hc⟩
    obtain ⟨b, b1, b2, b3⟩ := cat_rep (Ss := r) (get := fun j => get (n + j)) (fun i m S' hi => by
      obtain ⟨s, s1, s2, s3⟩ := h (i + 1) m S' (by simpa using hi)
      refine ⟨s, s1, s2, fun j x hx => ?_⟩
      obtain ⟨v, hv, hc⟩ := s3 j x hx
      refine ⟨v, ?_, hc⟩
      have hv : get (total (((n, S) :: r).take (i + 1)) + j) = some v := hv
      have : total (((n, S) :: r).take (i + 1)) + j = n + (total (r.take i) + j) := by simp [total]; omega
      rw [this] at hv
      exact hv)
    refine ⟨a ++ b, ⟨a, b, a1, a2, b1, rfl⟩, by rw [sizeS_append, a2, b2]; simp [total], rowRep_app a3 (by rw [a2]; exact b3)⟩
theorem op_struct {t : TypeId} {fs : Array Field} (Ss : List (Nat × (List Seg → Prop))) (ht : P.underlying t = some (.struct fs)) (hct : P.cellsOf t = total Ss) (hlen : fs.size = Ss.length) (h : ∀ i f n S, fs[i]? = some f → Ss[i]? = some (n, S) → f.offset = total (Ss.take i) ∧ Op enc P w base spare held f.type n S) : Op enc P w base spare held t (total Ss) (shCat Ss) :=
  ⟨hct, fun fuel cs x hx => by
    obtain ⟨xs, n, _, _, hl, hxl, hall⟩ := DataW.trod_struct ht hx
    refine cat_rep fun i m S hi => ?_
    have hil : i < fs.size := by rw [hlen]; exact (List.getElem?_eq_some_iff.1 hi).1
    obtain ⟨f, hf⟩ : ∃ f, fs[i]? = some f := ⟨_, Array.getElem?_eq_getElem hil⟩
    obtain ⟨h1, h2, h3⟩ := h i f m S hf hi
    have h4 := hall i f hf
    obtain ⟨y, hy⟩ : ∃ y, xs[i]? = some y := ⟨_, List.getElem?_eq_getElem (by rw [hxl]; exact hil)⟩
    rw [hy, h1, h2] at h4
    obtain ⟨segs, s1, s2, s3⟩ := h3 _ _ _ h4
    refine ⟨segs, s1, s2, fun j z hz => ?_⟩
    obtain ⟨v, hv, hc⟩ := s3 j z hz
    have hj := atS_lt hz
    have hv : ((cs.drop _).take _)[j]? = some v := hv
    rw [List.getElem?_take_of_lt (by omega), List.getElem?_drop] at hv
    exact ⟨v, hv, hc⟩⟩
theorem add_block (a : Addr) (n : Nat) : (a.add n).block = a.block := by unfold Addr.add; split <;> rfl
theorem add_off (a : Addr) (n : Nat) : (a.add n).off = a.off + n := by unfold Addr.add; split <;> simp [*]
theorem cells_of {a : Addr} {m : Nat} {cs : List Value} (h : w.cells? base a m = some cs) (h0 : 0 < m) : ∃ cells t fr, w.heap[a.block]? = some (.cells cells t fr) ∧ a.spot = none ∧ cs.length = m ∧ ∀ j, j < m → cells[a.off + j]? = cs[j]? := by
  obtain ⟨_, h1, h2⟩ := World.cells?_some h
  have hs : ∀ j, j < m → ∃ v, cs[j]? = some v := fun j hj => ⟨_, List.getElem?_eq_getElem (by rw [h1]; exact hj)⟩
  obtain ⟨v, hv⟩ := hs 0 h0
  obtain ⟨cells, t, fr, hb, hsp, _⟩ := cell_blk ((h2 0 h0).trans hv)
  refine ⟨cells, t, fr, hb, by simpa [Addr.add] using hsp, h1, fun j hj => ?_⟩
  obtain ⟨u, hu⟩ := hs j hj
  obtain ⟨c2, t2, f2, hb2, _, h3⟩ := cell_blk ((h2 j hj).trans hu)
  rw [add_block] at hb hb2
  rw [hb] at hb2
  cases hb2
  rw [hu]
  rw [add_off] at h3
  exact h3
theorem op_rows {t e : TypeId} {m : Nat} {S : List Seg → Prop} (ht : P.underlying t = some (.slice e)) (hct : P.cellsOf t = 1) (h0 : 0 < m) (he : Op enc P w base spare held e m S) : Op enc P w base spare held t 1 (shRows m S) :=
  ⟨hct, fun fuel cs x hx => by
    rcases DataW.trod_slice ht hx with ⟨rfl, _⟩ | ⟨a, len, cap, elems, rest, n, _, rfl, _, _, hl, hm, hel, hall, _, _⟩
    · refine ⟨_, ⟨0, fun _ => [], Nat.zero_le _, fun i hi => absurd hi (Nat.not_lt_zero i), rfl⟩, rfl, fun i y hy => ?_⟩
      obtain ⟨rfl, rfl⟩ := atS_one1 hy
      exact ⟨_, rfl, .inl ⟨rfl, _, _, rfl⟩, rfl⟩
    · have each : ∀ i, i < len → ∃ segs cs, S segs ∧ sizeS segs = m ∧ RowRep (rhoW w) segs (fun j => cs[j]?) ∧ w.cells? base (a.add (i * m)) m = some cs := fun i hi => by
        have h1 := hall i hi
        rw [he.1] at h1
        obtain ⟨y, hy⟩ : ∃ y, elems[i]? = some y := ⟨_, List.getElem?_eq_getElem (by rw [hel]; exact hi)⟩
        rw [hy] at h1
        obtain ⟨cs, c1, c2⟩ := Option.bind_eq_some_iff.1 h1
        obtain ⟨segs, s1, s2, s3⟩ := he.2 _ _ _ c2
        exact ⟨segs, cs, s1, s2, s3, c1⟩
      obtain ⟨rows, hrows⟩ : ∃ rows : Nat → List Seg, ∀ i, i < len → ∃ cs, S (rows i) ∧ sizeS (rows i) = m ∧ RowRep (rhoW w) (rows i) (fun j => cs[j]?) ∧ w.cells? base (a.add (i * m)) m = some cs := by
        refine ⟨fun i => if hi : i < len then Classical.choose (each i hi) else [], fun i hi => ?_⟩
        simp only [hi, dif_pos]
        exact Classical.choose_spec (each i hi)
      refine ⟨_, ⟨len, rows, by omega, fun i hi => by obtain ⟨_, h1, h2, _⟩ := hrows i hi; exact ⟨h1, h2⟩, rfl⟩, rfl, fun i y hy => ?_⟩
      obtain ⟨rfl, rfl⟩ := atS_one1 hy
      refine ⟨_, rfl, ?_, rfl⟩
      by_cases hz : len = 0
      · exact .inl ⟨hz, some a, cap, by rw [hz]⟩
      · obtain ⟨cs0, _, _, _, c0⟩ := hrows 0 (by omega)
        obtain ⟨cells, tt, fr, hb, hsp, _, _⟩ := cells_of c0 h0
        have ha : a = ⟨a.block, a.off, none⟩ := by
          have : a.spot = none := by simpa [Addr.add] using hsp
          cases a; simp_all
        rw [add_block] at hb
        refine .inr ⟨a.block, a.off, cap, cells, by rw [← ha], hl, rhoW_fz hb, fun i j hi hj => ?_⟩
        obtain ⟨cs1, _, s2, s3, c1⟩ := hrows i hi
        obtain ⟨c2, t2, f2, hb2, _, hcl, hce⟩ := cells_of c1 h0
        rw [add_block] at hb2
        rw [hb] at hb2
        cases hb2
        obtain ⟨z, hz'⟩ := atS_some (l := rows i) (i := j) (by rw [s2]; exact hj)
        obtain ⟨u, hu, hc⟩ := s3 j z hz'
        refine ⟨u, ?_, ?_, hc.2⟩
        · have := hce j hj
          have hu : cs1[j]? = some u := hu
          rw [hu] at this
          have e : (a.add (i * m)).off = a.off + i * m := add_off _ _
          rw [e] at this
          rw [← this, Nat.add_assoc]
        · unfold rowsF cellsF
          rw [hz']
          exact hc.1⟩
theorem op_ints {t e : TypeId} {k : IntKind} (ht : P.underlying t = some (.slice e)) (he : P.underlying e = some (.int k)) (hc : P.cellsOf e = 1) (hct : P.cellsOf t = 1) : Op enc P w base spare held t 1 (shInts k) :=
  ⟨hct, fun fuel cs x hx => by
    obtain ⟨segs, ⟨n, rows, hn, hrows, rfl⟩, _, hr⟩ := (op_rows ht hct (by omega) (op_int he hc)).2 fuel cs x hx
    have hz : ∀ i, i < n → ∃ z, (Lit.int k z).wf = true ∧ rows i = [.one (.int k z)] := fun i hi => (hrows i hi).1
    obtain ⟨f, hf⟩ : ∃ f : Nat → Int, ∀ i, i < n → (Lit.int k (f i)).wf = true ∧ rows i = [.one (.int k (f i))] := by
      refine ⟨fun i => if hi : i < n then Classical.choose (hz i hi) else 0, fun i hi => ?_⟩
      simp only [hi, dif_pos]
      exact Classical.choose_spec (hz i hi)
    have hlen : ((List.range n).map f).length = n := by simp
    refine ⟨_, ⟨(List.range n).map f, by rw [hlen]; exact hn, fun y hy => ?_, rfl⟩, rfl, fun i y hy => ?_⟩
    · obtain ⟨i, hi, rfl⟩ := List.mem_map.1 hy
      exact (hf i (by simpa using hi)).1
    · obtain ⟨rfl, rfl⟩ := atS_one1 hy
      obtain ⟨v, hv, hc⟩ := hr 0 _ rfl
      refine ⟨v, hv, ?_, hc.2⟩
      rcases hc.1 with ⟨rfl, a, c, rfl⟩ | ⟨b, o, c, cs, rfl, h1, h2, h3⟩
      · exact .inl ⟨rfl, a, c, rfl⟩
      · refine .inr ⟨b, o, c, cs, by rw [hlen], by rw [hlen]; exact h1, h2, fun i hi => ?_⟩
        rw [hlen] at hi
        obtain ⟨u, e1, e2, _⟩ := h3 i 0 hi (by omega)
        rw [Nat.mul_one, Nat.add_zero] at e1
        rw [e1]
        unfold rowsF cellsF at e2
        rw [(hf i hi).2] at e2
        have e2 : u = .int k (f i) := e2
        rw [e2]
        simp [List.getD_eq_getElem?_getD, hi]⟩
theorem arg_agg {r : Reach} {b0 : Nat} {t : TypeId} {n : Nat} {S : List Seg → Prop} {v : Value} {d : DataW Hh} {ps : List MemPlace} (ho : Op enc P w base spare held t n S) (ht : (∃ fs, P.underlying t = some (.struct fs)) ∨ ∃ m e, P.underlying t = some (.array m e)) (hval : Value.okWide P w r b0 t v) (hd : DataW.Trod enc P w base spare held t v d ps) : ∃ segs, S segs ∧ (AV.agg segs).rep (rhoW w) v := by
  have hv : ∃ cs, v = .agg cs ∧ cs.size = P.cellsOf t := by
    rcases ht with ⟨fs, ht⟩ | ⟨m, e, ht⟩
    · simp only [Value.okWide, ht] at hval
      obtain ⟨cs, rfl, hs, _⟩ := hval
      exact ⟨cs, rfl, hs⟩
    · simp only [Value.okWide, ht] at hval
      obtain ⟨cs, rfl, hs, _⟩ := hval
      exact ⟨cs, rfl, hs⟩
  obtain ⟨cs, rfl, hs⟩ := hv
  obtain ⟨fuel, hf⟩ := hd
  obtain ⟨segs, s1, s2, s3⟩ := ho.2 _ _ _ hf
  refine ⟨segs, s1, cs, rfl, by rw [hs, ho.1, s2], fun i x hx => ?_⟩
  obtain ⟨u, hu, hc⟩ := s3 i x hx
  exact ⟨u, by simpa [Value.cells] using hu, hc⟩
theorem arg_one {t : TypeId} {S : List Seg → Prop} {v : Value} {d : DataW Hh} {ps : List MemPlace} (ho : Op enc P w base spare held t 1 S) (hv : v.cells = #[v]) (hS : ∀ segs, S segs → ∃ x, segs = [.one x]) (hd : DataW.Trod enc P w base spare held t v d ps) : ∃ x, S [.one x] ∧ (AV.s x).rep (rhoW w) v := by
  obtain ⟨fuel, hf⟩ := hd
  obtain ⟨segs, s1, s2, s3⟩ := ho.2 _ _ _ hf
  obtain ⟨x, rfl⟩ := hS segs s1
  obtain ⟨u, hu, hc⟩ := s3 0 x rfl
  rw [hv] at hu
  simp at hu
  subst hu
  exact ⟨x, s1, hc.1⟩
theorem one_ints {k : IntKind} (s : List Seg) (h : shInts k s) : ∃ x, s = [.one x] := by obtain ⟨l, _, _, rfl⟩ := h; exact ⟨_, rfl⟩
end
theorem cells_slice {P : Program} {w : World} {r : Reach} {b0 : Nat} {t e : TypeId} {v : Value} (ht : P.underlying t = some (.slice e)) (hval : Value.okWide P w r b0 t v) : v.cells = #[v] := by
  simp only [Value.okWide, ht] at hval
  cases v <;> first | rfl | (simp [Cell.okWide, Cell.ok, ht] at hval)
theorem args_nil {ρ : Rho} : ArgsRep ρ [] #[] := ⟨rfl, fun i x h => by simp at h⟩
theorem args_cons {ρ : Rho} {a : AV} {av : List AV} {u : Value} {us : List Value} (h : a.rep ρ u) (k : ArgsRep ρ av us.toArray) : ArgsRep ρ (a :: av) (u :: us).toArray := by
  obtain ⟨k1, k2⟩ := k
  refine ⟨by simpa using k1, fun i x hx => ?_⟩
  cases i with
  | zero => simp at hx; subst hx; simpa using h
  | succ i =>
    have := k2 i x (by simpa using hx)
    simpa [Array.getD_eq_getD_getElem?] using this
theorem wf_u8 {y : Int} (h : (Lit.int .u8 y).wf = true) : 0 ≤ y ∧ y < 256 := by
  simp [Lit.wf, IntKind.min, IntKind.max, IntKind.signed, IntKind.bits] at h; omega
theorem wf_getD {k : IntKind} {l : List Int} (h : ∀ y ∈ l, (Lit.int k y).wf = true) (i : Nat) : (Lit.int k (l.getD i 0)).wf = true := by
  by_cases hi : i < l.length
  · rw [List.getD_eq_getElem?_getD, List.getElem?_eq_getElem hi]; exact h _ (List.getElem_mem _)
  · rw [List.getD_eq_getElem?_getD, List.getElem?_eq_none (by omega)]; cases k <;> rfl
end Go.Bx
end

section
/- How long what comes in is. No program. -/
namespace Go.Bx
section
open Go.ChangeShapes
variable {Hh : Type} {enc : TypeId × Value → Hh} {P : Program} {w : World} {base : Nat} {spare : Nat → Bool} {held : Bool}
theorem open_size {t e : TypeId} {v : Value} {d : DataW Hh} {ps : List MemPlace} {ts : List TypeId} {ds : List (DataW Hh)} {j : Nat} (ht : P.underlying t = some (.slice e)) (hb : 1 ≤ P.bytesOf e) (hsz : (DataW.weightsEach P ts ds).all (· ≤ reachBytes) = true) (hts : ts[j]? = some t) (hds : ds[j]? = some d)
    (hd : DataW.Trod enc P w base spare held t v d ps) : ∀ a n c, v = .slice a n c → n ≤ 140737488351232 := by
  rintro a n c rfl
  obtain ⟨fuel, hf⟩ := hd
  have hf : DataW.trod enc P w base spare held fuel t [Value.slice a n c] = some (d, ps) := hf
  rcases DataW.trod_slice ht hf with ⟨hcs, _⟩ | ⟨a', len, cap, elems, rest, m, _, hcs, hx, _, _, _, hel, _⟩
  · simp at hcs; omega
  · simp at hcs
    obtain ⟨_, rfl, _⟩ := hcs
    have hd : d = .slice (elems.map (·.1)) (rest.map (·.1)) := (congrArg Prod.fst hx)
    subst hd
    have h1 := sized_slice hsz hts hds ht
    have h2 : reachBytes = 140737488351232 := rfl
    have h3 : n ≤ ((elems.map (·.1)).length + (rest.map (·.1)).length) * P.bytesOf e := by
      rw [List.length_map, hel]
      exact Nat.le_trans (Nat.le_add_right _ _) (Nat.le_mul_of_pos_right _ hb)
    omega
end
end Go.Bx
end

section
/- A string's bytes, one by one. No program. -/
namespace Go.Bx
section
variable {P : Program} {T : Tm} {H : Heap} {d : Option Tmp} {ty : TypeId} {pos : String} {af : Array Edge} {g : Option (Nat × Bool)}
end
end Go.Bx
end

section
/- Function values that catch no numbers; methods bound to what is literal. No program. -/
namespace Go.Bx
section
variable {P : Program} {T : Tm} {H : Heap} {d : Option Tmp} {ty : TypeId} {pos : String} {af : Array Edge} {g : Option (Nat × Bool)}
def numS : List Seg → Bool
  | [] => true
  | .ints .. :: r => numS r
  | _ => false
def valOf (l : List Seg) : Value := match litVS l with | some c => .agg c.toArray | none => .nilIface
end
end Go.Bx
end

section
/- What grows by noughts; what has grown, cut. No program. -/
namespace Go.Bx
section
variable {P : Program} {T : Tm} {H : Heap} {d : Option Tmp} {ty : TypeId} {pos : String} {af : Array Edge} {g : Option (Nat × Bool)}
theorem Joins.intsT {k : IntKind} {n m q : Nat} {l l2 : List Int} (h : l.length = q) (hn : n ≤ q) : Joins [.ints k q l] n [.ints k m l2] m [.ints k (n + m) (l.take n ++ l2)] := by
  obtain ⟨h1, h2⟩ := Joins.ints (k := k) (m := m) (q := n) (l2 := l2) (show (l.take n).length = n by rw [List.length_take]; omega) (Nat.le_refl n)
  refine ⟨h1, fun i y hy => ⟨fun hi => ?_, (h2 i y hy).2⟩⟩
  obtain ⟨z, hz, he⟩ := (h2 i y hy).1 hi
  obtain ⟨hi1, rfl⟩ := atS_ints1 hz
  refine ⟨_, ?_, he⟩
  have hs : (Seg.ints k q l).size = q := rfl
  simp only [atS]
  rw [if_pos (by rw [hs]; omega)]
  show some (SV.int k (l.getD i 0)) = some (SV.int k ((l.take n).getD i 0))
  rw [List.getD_eq_getElem?_getD, List.getD_eq_getElem?_getD, List.getElem?_take_of_lt hi]
theorem k_apg {x y : Operand} {t tx e rt : TypeId} {id n c n0 q : Nat} {k : IntKind} {l l2 l' : List Int} {inf : TypeInfo} {z : Value} {H' : Heap} [hu : Und P t (.slice e)] [hux : Und P tx (.slice e)] [hi : Inf P e inf] [hN : LenN H n0] (hx : ev T x = .s (.gro id 1 n) := by rfl) (hy : ev T y = .s (.fzi k l2) := by rfl) (hb : hget H id = some ⟨true, [.ints k q l]⟩ := by rfl) (hl : l.length = q := by first | assumption | omega | simp [*]) (hsz : inf.size = 1 := by exact rfl) (hz : inf.zero = some z := by exact rfl) (hzs : z.cells.size = 1 := by exact rfl) (hq : n ≤ q := by omega) (hc : n + l2.length = c := by rfl) (hl' : l.take n ++ l2 = l' := by rfl) (hbig : n + l2.length ≤ 1000000 := by omega) (hbb : Nat.ble (1000000 * inf.bytes) 140737488355328 = true := by exact rfl) (hb1 : 0 < inf.bytes := by exact Nat.le_of_ble_eq_true rfl) (hH : H.set id none ++ [some (Blk.mk true [.ints k c l'])] = H' := by exact rfl) :
    LOk P ⟨d, .call ⟨.builtin .append, #[x, y], #[t, tx]⟩, rt, pos, af, g⟩ T H H' (.s (.gro n0 1 c)) [id] [id] := by
  subst hc; subst hl'
  refine a_app (sub := [.ints k l2.length l2]) hx hy hb hsz hz hzs (asrc_fzi hux.h) (by simp [sizeS, Seg.size]; omega) ?_ (big_ok hbig hbb) hb1 (fun _ h => by cases h) hN.h hH
  rw [Nat.mul_one, Nat.mul_one]
  exact .intsT hl hq
end
end Go.Bx
end

section
/- Rows made, copied into rows, put behind rows where there is room. No program. -/
namespace Go.Bx
theorem atS_rows1 {c : Nat} {g : Nat → Nat → SV} {j : Nat} {y : SV} (h : atS [.rows c 1 g] j = some y) : j < c ∧ y = .noid (g j 0) := by
  have hs : (Seg.rows c 1 g).size = c * 1 := rfl
  simp only [atS] at h
  rw [hs, Nat.mul_one] at h
  by_cases hj : j < c
  · rw [if_pos hj] at h
    have h := Option.some.inj h
    simp only [Seg.at, Nat.div_one, Nat.mod_one] at h
    exact ⟨hj, h.symm⟩
  · rw [if_neg hj] at h; cases h
theorem rows1_at {c : Nat} (g : Nat → Nat → SV) {j : Nat} (h : j < c) : atS [.rows c 1 g] j = some (.noid (g j 0)) := by
  have hs : (Seg.rows c 1 g).size = c * 1 := rfl
  simp only [atS]
  rw [hs, Nat.mul_one, if_pos h]
  simp only [Seg.at, Nat.div_one, Nat.mod_one]
theorem PutS.rows {m p c : Nat} {g g2 g' : Nat → Nat → SV} (h0 : 0 < m) (hc : p + m ≤ c) (hg : ∀ i, i < m → g' (p + i) 0 = g2 i 0) (hg2 : ∀ i, ¬(p ≤ i ∧ i < p + m) → i < c → g' i 0 = g i 0) : PutS [.rows c 1 g] p m [.rows m 1 g2] [.rows c 1 g'] := by
  refine ⟨⟨h0, by simpa [sizeS, Seg.size] using hc⟩, fun j y hy => ?_⟩
  obtain ⟨hj, rfl⟩ := atS_rows1 hy
  split
  · rename_i h
    rw [rows1_at g2 (show j - p < m by omega), ← hg (j - p) (by omega), show p + (j - p) = j by omega]
  · rename_i h
    rw [rows1_at g hj, hg2 j h hj]
section
variable {P : Program} {T : Tm} {H : Heap} {d : Option Tmp} {ty : TypeId} {pos : String} {af : Array Edge} {g : Option (Nat × Bool)}
end
end Go.Bx
end

section
/- Slices compared with nil; what is empty, nil or not. No program. -/
namespace Go.Bx
section
variable {P : Program} {T : Tm} {H : Heap} {d : Option Tmp} {ty : TypeId} {pos : String} {af : Array Edge} {g : Option (Nat × Bool)}
end
end Go.Bx
end

section
/- Empty slices, made and put behind. No program. -/
namespace Go.Bx
section
variable {P : Program} {T : Tm} {H : Heap} {d : Option Tmp} {ty : TypeId} {pos : String} {af : Array Edge} {g : Option (Nat × Bool)}
end
end Go.Bx
end

section
/- A full slice of integers, and integers behind it: a new row. No program. -/
namespace Go.Bx
section
variable {P : Program} {T : Tm} {H : Heap} {d : Option Tmp} {ty : TypeId} {pos : String} {af : Array Edge} {g : Option (Nat × Bool)}
theorem l_apf {x y : Operand} {t tx e rt : TypeId} {id base idx len n0 : Nat} {k : IntKind} {segs : List Seg} {l l2 : List Int} {inf : TypeInfo} {H' : Heap} (hx : ev T x = .s (.slice id base idx len len)) (hy : ev T y = .s (.fzi k l2)) (hb : hget H id = some ⟨true, segs⟩) (hsub : SubS segs (base + idx) (len * 1) [.ints k len l]) (hl : l.length = len)
    (hu : P.underlying t = some (.slice e)) (htn : P.underlying tx = some (.slice e)) (hi : P.info? e = some inf) (hsz : inf.size = 1) (hz : inf.zero = some (.int k 0)) (h0 : 0 < l2.length) (hbig : (len + l2.length) * inf.bytes ≤ 140737488355328) (hb1 : 0 < inf.bytes) (hn : H.length = n0) (hH : H ++ [some (Blk.mk true [.ints k (len + l2.length) (l ++ l2)])] = H') :
    LOk P ⟨d, .call ⟨.builtin .append, #[x, y], #[t, tx]⟩, rt, pos, af, g⟩ T H H' (.s (.gro n0 1 (len + l2.length))) [id] [] := by
  subst hH
  have hlt := hget_lt hb
  refine lok_new [id] (fun j h => by simp at h; subst h; exact hlt) fun H0 hl0 hg0 => ?_
  subst hn
  intro W ρ a w hH hf hW ho next Q hq
  have k1 : (ev T x).rep ρ (a.eval x) := ho x (by simp [Op.operands, Call.operands])
  have k2 : (ev T y).rep ρ (a.eval y) := ho y (by simp [Op.operands, Call.operands])
  rw [hx] at k1
  rw [hy] at k2
  obtain ⟨_, hsrc⟩ := asrc_sl (P := P) (cap := len) hu (id := id) (H := H) (base := base) (idx := idx) (n := len) (size := 1) hb hsub
  obtain ⟨olds, hS0, hnr0, _⟩ := hsrc _ W ρ w _ (fun j hj => hg0 j hj) hH k1
  obtain ⟨news, hS, hnr, _⟩ := (asrc_fzi (P := P) (H := H) (k := k) (l := l2) htn).2 _ W ρ w _ (fun _ h => by cases h) hH k2
  obtain ⟨b, o, hρ, hev⟩ := k1
  have hol : olds.length = len := by have := hS0.newsLen; omega
  have hnl : news.length = l2.length := by have := hS.newsLen; omega
  have hold := hS0.cellsD
  rw [hev] at hold
  have h63 : ((len + l2.length : Nat) : Int) ≤ 9223372036854775807 := by
    have : len + l2.length ≤ (len + l2.length) * inf.bytes := Nat.le_mul_of_pos_right _ hb1
    omega
  have hS' : Src P inf.size tx (a.eval y) l2.length news w := by rw [hsz]; exact hS
  have hr := run_append_grow_src (P := P) w t tx rt e inf (.int k 0) hu hi hz (some ⟨b, o + base + idx, none⟩) len len olds (by rw [hsz]; exact hold) _ l2.length news hS' (by omega) h63 (growslice_fits (by omega) hbig)
  generalize hcap : grownCap w (len + l2.length) len e = cap at hr
  have hcap' : len + l2.length ≤ cap := hcap ▸ grownCap_ge w _ _ _
  have hrun : (execOp a.eval ⟨d, .call ⟨.builtin .append, #[x, y], #[t, tx]⟩, rt, pos, af, g⟩).run P w = .ok (.value (.slice (some ⟨w.heap.size, 0, none⟩) (len + l2.length) cap)) (w.drew.alloc (.cells ((olds ++ news).toArray ++ Builtin.zeroCells (Value.int k 0).cells (cap - (len + l2.length))) e)) := by
    simp only [execOp, resolve, invoke, builtin, List.map_toArray, List.map_cons, List.map_nil, hev]
    simp [Sem.run_bind, hr]
  rw [hrun]
  generalize hcells : (olds ++ news).toArray ++ Builtin.zeroCells (Value.int k 0).cells (cap - (len + l2.length)) = cells
  have hHd : HRep W ρ (hget H0) w.drew := hH.ext (.drew w)
  have hsize : cells.size = cap := by
    rw [← hcells]; simp [Builtin.zeroCells, hnl, hol, Value.cells]; omega
  obtain ⟨ρ', k3, k4, k5⟩ := nx_alloc (t := e) (w := w.drew) (H0 := H0) (cells := cells) (segs := [.ints k (len + l2.length) (l ++ l2)]) hHd (hf _ (Nat.le_refl _) (by simp)) (fun b hb => hW b hb) (fun ρ' hle i z hz => by
    obtain ⟨hi2, rfl⟩ := atS_ints1 hz
    have hcell : ∀ v, (olds ++ news)[i]? = some v → cells[i]? = some v := fun v hv => by
      have hi' := (List.getElem?_eq_some_iff.1 hv).1
      rw [← hcells, Array.getElem?_append_left (by simpa using hi')]
      simpa using hv
    rcases Nat.lt_or_ge i len with h | h
    · obtain ⟨v, hv, hc⟩ := hnr0 i (.int k (l.getD i 0)) (by simp [atS, Seg.size, Seg.at, h])
      have hv' : v = .int k (l.getD i 0) := hc.1
      subst hv'
      refine ⟨.int k (l.getD i 0), hcell _ (by rw [List.getElem?_append_left (by omega)]; exact hv), ?_, rfl⟩
      show _ = _
      rw [List.getD_eq_getElem?_getD, List.getD_eq_getElem?_getD, List.getElem?_append_left (by omega)]
    · obtain ⟨v, hv, hc⟩ := hnr (i - len) (.int k (l2.getD (i - len) 0)) (by simp only [atS]; rw [if_pos (by show i - len < l2.length; omega)]; rfl)
      have hv' : v = .int k (l2.getD (i - len) 0) := hc.1
      subst hv'
      refine ⟨.int k (l2.getD (i - len) 0), hcell _ (by rw [List.getElem?_append_right (by omega), hol]; exact hv), ?_, rfl⟩
      show _ = _
      rw [List.getD_eq_getElem?_getD, List.getD_eq_getElem?_getD, List.getElem?_append_right (by omega), hl])
  refine hq _ _ ⟨ρ', W, ?_, .inr ⟨w.heap.size, 0, cap, cells.size, ?_, rfl, hcap', k5, by rw [hsize]; omega⟩⟩
  · exact ⟨k3.le, k3.old, k3.rep, ((Ext.drew w).fr W).trans k3.fr, k3.sub, k3.fresh, k3.fzn⟩
  · rw [← hl0]; exact k4
theorem k_apf {x y : Operand} {t tx e rt : TypeId} {id len c n0 : Nat} {k : IntKind} {l l2 l' : List Int} {inf : TypeInfo} {H' : Heap} [hu : Und P t (.slice e)] [htn : Und P tx (.slice e)] [hi : Inf P e inf] [hN : LenN H n0] (hx : ev T x = .s (.slice id 0 0 len len) := by rfl) (hy : ev T y = .s (.fzi k l2) := by rfl) (hb : hget H id = some ⟨true, [.ints k len l]⟩ := by rfl) (hl : l.length = len := by first | assumption | omega | simp [*]) (hsz : inf.size = 1 := by exact rfl) (hz : inf.zero = some (.int k 0) := by exact rfl) (h0 : 0 < l2.length := by omega) (hc : len + l2.length = c := by rfl) (hl' : l ++ l2 = l' := by rfl) (hbig : len + l2.length ≤ 1000000 := by omega) (hbb : Nat.ble (1000000 * inf.bytes) 140737488355328 = true := by exact rfl) (hb1 : 0 < inf.bytes := by exact Nat.le_of_ble_eq_true rfl) (hH : H ++ [some (Blk.mk true [.ints k c l'])] = H' := by repeat (first | exact happ_0 | apply happ_s)) :
    LOk P ⟨d, .call ⟨.builtin .append, #[x, y], #[t, tx]⟩, rt, pos, af, g⟩ T H H' (.s (.gro n0 1 c)) [id] [] := by
  subst hc; subst hl'
  exact l_apf hx hy hb (by rw [Nat.mul_one]; exact .whole (by simp [sizeS, Seg.size])) hl hu.h htn.h hi.h hsz hz h0 (big_ok hbig hbb) hb1 hN.h hH
end
end Go.Bx
end

section
/- Plain function values, told as closures that catch nothing. No program. -/
namespace Go.Bx
end Go.Bx
end

section
/- Rows of several cells that may be written: made, put behind, copied, cleared, set; their overlaps. No program. -/
namespace Go.Bx
section
variable {P : Program} {T : Tm} {H : Heap} {d : Option Tmp} {ty : TypeId} {pos : String} {af : Array Edge} {g : Option (Nat × Bool)}
end
end Go.Bx
end

section
/- Rows built to be written; one of their cells set; frozen; two rows' overlaps. No program. -/
namespace Go.Bx
section
variable {E : Env} {P : Program} {T : Tm} {H : Heap} {d : Option Tmp} {ty : TypeId} {pos : String} {af : Array Edge} {g : Option (Nat × Bool)}
end
end Go.Bx
end

section
/- Rows put behind rows out of other memory; a struct's field. No program. -/
namespace Go.Bx
section
variable {P : Program} {T : Tm} {H : Heap} {d : Option Tmp} {ty : TypeId} {pos : String} {af : Array Edge} {g : Option (Nat × Bool)}
end
end Go.Bx
end

section
/- Noughts behind what has grown. No program. -/
namespace Go.Bx
section
variable {P : Program} {T : Tm} {H : Heap} {d : Option Tmp} {ty : TypeId} {pos : String} {af : Array Edge} {g : Option (Nat × Bool)}
end
end Go.Bx
end

section
/- Noughts made, as values; noughts behind nothing. No program. -/
namespace Go.Bx
section
variable {P : Program} {T : Tm} {H : Heap} {d : Option Tmp} {ty : TypeId} {pos : String} {af : Array Edge} {g : Option (Nat × Bool)}
end
theorem weak_row {E : Env} {T : Tm} {H H' : Heap} (id : Nat) {b : Bool} {segs segs' : List Seg} (hb : hget H id = some ⟨b, segs⟩) (h : ∀ (ρ : Rho) (get : Nat → Option Value), RowRep ρ segs get → RowRep ρ segs' get) (hH : H.set id (some ⟨b, segs'⟩) = H') : Weak E T H T H' := by
  subst hH
  have hlt := hget_lt hb
  rintro a w ⟨ρ, W, p, hno, hT, hE⟩
  have hg : ∀ j k, hget (H.set id (some ⟨b, segs'⟩)) j = some k → ∃ k0, hget H j = some k0 ∧ k.rw = k0.rw ∧ (∀ o b', BRep ρ k0 w b' o → BRep ρ k w b' o) := by
    intro j k hk
    rw [hget_set hlt] at hk
    by_cases hj : j = id
    · subst hj
      rw [if_pos rfl] at hk
      cases hk
      refine ⟨_, hb, rfl, ?_⟩
      rintro o b' ⟨cells, t, fr, h1, h2, h3, h4⟩
      exact ⟨cells, t, fr, h1, h2, h3, h ρ _ h4⟩
    · rw [if_neg hj] at hk
      exact ⟨k, hk, rfl, fun _ _ h => h⟩
  refine ⟨ρ, W, ⟨p.le, ⟨p.rep.lt, fun j b' o k e1 e2 => ?_, fun j j' b' o o' k k' hne e1 e2 e3 e4 => ?_, p.rep.fz, p.rep.sz⟩, p.size, p.defs, p.fr, p.sub, p.fresh, p.fzn, p.old⟩, fun j hj => hno j (by simpa using hj), hT, by simpa using hE⟩
  · obtain ⟨k0, h1, h2, h3⟩ := hg j k e2
    have := p.rep.rep j b' o k0 e1 h1
    exact ⟨h3 _ _ this.1, fun e => this.2 (h2 ▸ e)⟩
  · obtain ⟨k0, h1, h2, _⟩ := hg j k e3
    obtain ⟨k1, h1', h2', _⟩ := hg j' k' e4
    have := p.rep.apart j j' b' o o' k0 k1 hne e1 e2 h1 h1'
    exact ⟨h2.trans this.1, h2'.trans this.2⟩
end Go.Bx
end

section
/- What comes in, told as values: with the bounds that its size gives. No program. -/
namespace Go.Bx
open Go.ChangeShapes Go.WideShapes
section
variable {Hh : Type} {enc : TypeId × Value → Hh} {P : Program} {w : World} {base : Nat} {spare : Nat → Bool} {held : Bool}
def OpZ (enc : TypeId × Value → Hh) (P : Program) (w : World) (base : Nat) (spare : Nat → Bool) (held : Bool) (t : TypeId) (n : Nat) (S : List Seg → Prop) : Prop :=
  P.cellsOf t = n ∧ ∀ (fuel : Nat) (cs : List Value) (x : DataW Hh × List MemPlace), DataW.trod enc P w base spare held fuel t cs = some x → (∀ q ∈ x.1.weights P t, q ≤ reachBytes) → ∃ segs, S segs ∧ sizeS segs = n ∧ RowRep (rhoW w) segs (fun i => cs[i]?)
theorem Op.z {t : TypeId} {n : Nat} {S : List Seg → Prop} (h : Op enc P w base spare held t n S) : OpZ enc P w base spare held t n S := ⟨h.1, fun fuel cs x hx _ => h.2 fuel cs x hx⟩
def mxB : Nat := 140737488351232
def shIntsZ (k : IntKind) : List Seg → Prop := fun s => ∃ l : List Int, l.length ≤ mxB ∧ (∀ y ∈ l, (Lit.int k y).wf = true) ∧ s = [.one (.fzi k l)]
def shRowsZ (wd : Nat) (S : List Seg → Prop) : List Seg → Prop := fun s => ∃ (n : Nat) (rows : Nat → List Seg), n ≤ mxB ∧ (∀ i, i < n → S (rows i) ∧ sizeS (rows i) = wd) ∧ s = [.one (.fz n wd (rowsF rows))]
end
end Go.Bx
end

section
/- A scope in which the run jumps back to one label. No program. -/
namespace Go.Bx
def Jmp (l : Nat) (J : Tm → Heap → Prop) (Q : Exit → Tm → Heap → Prop) : Exit → Tm → Heap → Prop
  | .goto l', T, H => l' = l ∧ J T H
  | e, T, H => Q e T H
section
variable {E : Env} {T : Tm} {H : Heap} {Q : Exit → Tm → Heap → Prop} {J K : Tm → Heap → Prop} {l : Nat}
open Classical in
end
section
variable {P : Program} {T : Tm} {H : Heap} {d : Option Tmp} {ty : TypeId} {pos : String} {af : Array Edge} {g : Option (Nat × Bool)}
end
end Go.Bx
end

section
/- What a function puts off, and does on its way out. No program. -/
namespace Go.Bx
def Off (P : Program) (f : FuncId) (args : List AV) (H H' : Heap) : Prop :=
  ∀ (W : Nat → Prop) (ρ : Rho) (vals : Array Value) (w : World), HRep W ρ (hget H) w → (∀ id, H.length ≤ id → ρ.m id = none) → (∀ b, w.heap.size ≤ b → W b) → ArgsRep ρ args vals →
    CallsDIn Fence.wide 0 P f vals .returning w fun e u w' => u = .returning ∧ (∃ v, e = .returned v) ∧ ∃ ρ' W', Nx H.length H'.length ρ ρ' W W' (hget H') w w' ∧ ∀ id, H'.length ≤ id → ρ'.m id = none
def DoneO (E : Env) (fn : Func) (m : Nat) (fc nc : Nat) (q : Nat → SV) (v : AV) (H' : Heap) : Exit → Tm → Heap → Prop := fun e T H =>
  (e = .ret ∨ e = .normal) ∧ ∃ H3 t v0, H.length ≤ H3.length ∧ Off E.P fc ((List.range nc).map fun i => .s (q i)) H H3 ∧ t < E.n ∧ Ret E.P fn T H3 v0 ∧ ∀ E0 : Env, E0.P = E.P → E0.n = E.n → E0.nE = m → Weak E0 ((t, v0) :: T) H3 [(t, v)] H'
section
variable {P : Program} {T : Tm} {H : Heap} {d : Option Tmp} {ty : TypeId} {pos : String} {af : Array Edge} {g : Option (Nat × Bool)}
end
theorem weak_new {E : Env} {T : Tm} {H H' : Heap} {segs : List Seg} (hH : H ++ [some (Blk.mk true segs)] = H') : Weak E T H T H' := by
  subst hH
  rintro a w ⟨ρ, W, p, hn, hT, hE⟩
  exact ⟨ρ, W, ⟨p.le, p.rep.sub' hn, p.size, p.defs, p.fr, p.sub, p.fresh, p.fzn, p.old⟩, fun id hid => hn id (by simp at hid; omega), hT, by simp; omega⟩
end Go.Bx
end

section
/- Arrays built of structs. -/
open Go
namespace Go.Bx
section
variable {P : Program} {T : Tm} {H : Heap} {d : Option Tmp} {ty : TypeId} {pos : String} {af : Array Edge} {g : Option (Nat × Bool)}
theorem k_bdS {t : TypeId} {places : Array (Nat × Nat)} {parts : Array (Nat × Operand)} {Z : List Seg} (segs : List Seg) [hp : Pl P t places] [hz : Zv P t Z] (hl : (partsOf T parts.toList).all (fun p => p.2.solid) = true := by kernel_rfl) (hs : fillS (places[·]?) Z (partsOf T parts.toList) = some segs := by kernel_rfl) : LOk P ⟨d, .build t parts, ty, pos, af, g⟩ T H H (.agg segs) [] [] :=
  let ⟨_, h1, h2⟩ := hz.h
  let ⟨_, p1, p2⟩ := hp.h
  l_build rfl (partsOf_ok hl) p1 h1 p2 h2 hs
end
end Go.Bx
end

section
/- Structs compared. -/
open Go
namespace Go.Bx
inductive EqF (P : Program) : Nat → List Field → Nat → List Seg → List Seg → Bool → Prop
  | nil {d o : Nat} : EqF P d [] o [] [] true
  | ints {d o n : Nat} {f : Field} {fs : List Field} {k : IntKind} {e : TypeId} {l m : List Int} {X Y : List Seg} {r : Bool} (hnm : (f.name == "_") = false) (ho : f.offset = o) (hu : P.underlying f.type = some (.array n e)) (he : P.underlying e = some (.int k)) (hs : ∀ w, (sizeOf e).run P w = .ok 1 w) (ha : ∀ w, (isAgg e).run P w = .ok false w) (hg : ∀ w, (isAgg f.type).run P w = .ok true w) (hz : ∀ w, (sizeOf f.type).run P w = .ok n w) (hl : l.length = n) (hm : m.length = n) (h : EqF P d fs (o + n) X Y r) :
      EqF P d (f :: fs) o (.ints k n l :: X) (.ints k n m :: Y) (decide (l = m) && r)
  | int {d o : Nat} {f : Field} {fs : List Field} {k k' : IntKind} {a b : Int} {X Y : List Seg} {r : Bool} (hnm : (f.name == "_") = false) (ho : f.offset = o) (hu : P.underlying f.type = some (.int k')) (hg : ∀ w, (isAgg f.type).run P w = .ok false w) (h : EqF P d fs (o + 1) X Y r) :
      EqF P d (f :: fs) o (.one (.int k a) :: X) (.one (.int k b) :: Y) (decide (a = b) && r)
  | str {d o n : Nat} {f : Field} {fs : List Field} {gs : Array Field} {X1 Y1 X Y X' Y' : List Seg} {r1 r : Bool} (hnm : (f.name == "_") = false) (ho : f.offset = o) (hu : P.underlying f.type = some (.struct gs)) (hp : P.stoodInHeld f.type = false) (hg : ∀ w, (isAgg f.type).run P w = .ok true w) (hz : ∀ w, (sizeOf f.type).run P w = .ok n w) (h1 : EqF P d gs.toList 0 X1 Y1 r1) (hX : sizeS X1 = n) (hY : sizeS Y1 = n) (eX : X1 ++ X = X') (eY : Y1 ++ Y = Y') (h : EqF P (d + 1) fs (o + n) X Y r) :
      EqF P (d + 1) (f :: fs) o X' Y' (r1 && r)
def AtC (ρ : Rho) (xs : Array Value) (o : Nat) (X : List Seg) : Prop := ∀ i y, atS X i = some y → ∃ u, xs[o + i]? = some u ∧ y.rep ρ u
theorem AtC.tail {ρ : Rho} {xs : Array Value} {o n : Nat} {s X : List Seg} (hs : sizeS s = n) (h : AtC ρ xs o (s ++ X)) : AtC ρ xs (o + n) X := fun i y hy => by
  obtain ⟨u, h1, h2⟩ := h (n + i) y (by rw [atS_append, hs, if_neg (by omega), Nat.add_sub_cancel_left]; exact hy)
  exact ⟨u, by rw [← h1, Nat.add_assoc], h2⟩
theorem AtC.head {ρ : Rho} {xs : Array Value} {o n : Nat} {s X : List Seg} (hs : sizeS s = n) (h : AtC ρ xs o (s ++ X)) : AtC ρ (xs.extract o (o + n)) 0 s := fun i y hy => by
  have hi : i < n := by rw [← hs]; exact atS_lt hy
  obtain ⟨u, h1, h2⟩ := h i y (by rw [atS_append, if_pos (by omega)]; exact hy)
  have hlt := (Array.getElem?_eq_some_iff.1 h1).1
  exact ⟨u, by rw [Nat.zero_add, Array.getElem?_extract, if_pos (by omega)]; exact h1, h2⟩
section
variable {P : Program} {w : World}
end
section rules
variable {P : Program} {T : Tm} {H : Heap} {d : Option Tmp} {ty : TypeId} {pos : String} {af : Array Edge} {g : Option (Nat × Bool)}
end rules
end Go.Bx
end

section
/- Integers put behind a slice where there is room. -/
open Go
namespace Go.Bx
section
variable {P : Program} {T : Tm} {H : Heap} {d : Option Tmp} {ty : TypeId} {pos : String} {af : Array Edge} {g : Option (Nat × Bool)}
theorem l_apj {x y : Operand} {t tx e rt : TypeId} {id n m dc q : Nat} {k : IntKind} {l ys : List Int} {inf : TypeInfo} (hx : ev T x = .s (.slice id 0 0 n dc)) (hy : ev T y = .s (.fzi k ys)) (hb : hget H id = some ⟨true, [.ints k q l]⟩) (hu : P.underlying t = some (.slice e)) (hux : P.underlying tx = some (.slice e)) (hi : P.info? e = some inf) (hsz : inf.size = 1) (hm : ys.length = m) (h0 : 0 < m) (hdc : n + m ≤ dc) (hq : n + m ≤ q) :
    LOk P ⟨d, .call ⟨.builtin .append, #[x, y], #[t, tx]⟩, rt, pos, af, g⟩ T H (H.set id (some ⟨true, [.ints k q (spl l ys n m q)]⟩)) (.s (.slice id 0 0 (n + m) dc)) [id] [id] := by
  subst hm
  have hlt := hget_lt hb
  refine lok_set [id] (fun j hj => by simp at hj; subst hj; exact hlt) (by simp) fun H0 hl hag => ?_
  intro W ρ a w hH hnn hW ho next Q hQ
  have k1 : (ev T x).rep ρ (a.eval x) := ho x (by simp [Op.operands, Call.operands])
  have k2 : (ev T y).rep ρ (a.eval y) := ho y (by simp [Op.operands, Call.operands])
  rw [hx] at k1
  rw [hy] at k2
  obtain ⟨b, o, hρ, k1⟩ := k1
  obtain ⟨news, hS, hnr, _⟩ := (asrc_fzi (P := P) (H := H) (k := k) (l := ys) hux).2 _ W ρ w _ (fun _ h => by cases h) hH k2
  have hb0 : hget H0 id = some ⟨true, [.ints k q l]⟩ := (hag id (by simp)).trans hb
  obtain ⟨⟨cells, tt, fr, g1, g2', _, g4⟩, hWb⟩ := hH.rep id b o _ hρ hb0
  have hfr := g2' rfl
  subst hfr
  have hp0 := PutS.ints (l := [.ints k q l]) (o := 0) (i := n) (n := ys.length) (m := q) (k := k) (xs := l) (ys := ys) h0 rfl hq
  have hp : PutS [.ints k q l] n ys.length [.ints k ys.length ys] [.ints k q (spl l ys n ys.length q)] := by
    rw [Nat.zero_add] at hp0
    exact hp0
  have hfit := fits g4 hp
  have hnl : news.length = ys.length := by have := hS.newsLen; omega
  have hst := run_storeCells_at P b (o + n) tt news 0 cells w g1 (by rw [hnl]; omega) hS.one
  rw [Nat.add_zero] at hst
  have hrun : (execOp a.eval ⟨d, .call ⟨.builtin .append, #[x, y], #[t, tx]⟩, rt, pos, af, g⟩).run P w = .ok (.value (.slice (some ⟨b, o, none⟩) (n + ys.length) dc)) (w.setRow b (cells.toList.take (o + n) ++ news ++ cells.toList.drop (o + n + news.length)).toArray) := by
    simp only [execOp, resolve, invoke, builtin, List.map_toArray, List.map_cons, List.map_nil, k1]
    have hc2 := hS.cells
    rcases hS.kind with ⟨e', hk⟩ | hk <;> (simp [Builtin.append_, Sem.run_bind, run_underlying hu, run_underlying hk, sizeOf, typeInfo, hi, hsz, hS.len, hc2, hdc, addr_add]; rw [hst]; simp)
  rw [hrun]
  refine hQ _ _ ⟨ρ, W, nx_write hH hW hρ hb0 g1 g4 hp hnl (fun i z hz => ?_) hfit, b, o, hρ, rfl⟩
  exact hnr i z hz
theorem k_apj (l' : List Int) {x y : Operand} {t tx e rt : TypeId} {id n m dc q r : Nat} {k : IntKind} {l ys : List Int} {inf : TypeInfo} {H' : Heap} [hu : Und P t (.slice e)] [hux : Und P tx (.slice e)] [hi : Inf P e inf] (hx : ev T x = .s (.slice id 0 0 n dc) := by rfl) (hy : ev T y = .s (.fzi k ys) := by rfl) (hb : hget H id = some ⟨true, [.ints k q l]⟩ := by rfl) (hsz : inf.size = 1 := by exact rfl) (hm : ys.length = m := by rfl) (h0 : 0 < m := by exact Nat.le_of_ble_eq_true rfl) (hdc : n + m ≤ dc := by omega) (hq : n + m ≤ q := by omega) (hr : n + m = r := by rfl) (hl' : spl l ys n m q = l' := by rfl) (hH : H.set id (some ⟨true, [.ints k q l']⟩) = H' := by repeat (first | exact hset_0 | apply hset_s)) :
    LOk P ⟨d, .call ⟨.builtin .append, #[x, y], #[t, tx]⟩, rt, pos, af, g⟩ T H H' (.s (.slice id 0 0 r dc)) [id] [id] := by
  subst hH; subst hr; subst hl'
  exact l_apj hx hy hb hu.h hux.h hi.h hsz hm h0 hdc hq
end
theorem conv_ptrJ {H : Heap} {id n : Nat} {k : Blk} {f : Nat → SV} (hb : hget H id = some k) (hro : k.rw = false) (hn : sizeS k.segs = n) (hf : ∀ j x, j < n → atS k.segs j = some x → f j = .junk ∨ (f j = x ∧ x.idB (fun _ => false) = true)) :
    AConv [id] H (.s (.ptr id 0 0)) (.s (.fptr n f 0 0)) := by
  subst hn
  rintro c W ρ w u hcc hH ⟨b, o, h1, rfl⟩
  obtain ⟨⟨cells, t, fr, g1, g2, g3, g4⟩, _⟩ := hH.rep id b o k h1 ((hcc id (by simp)).trans hb)
  refine ⟨b, o, cells, rfl, g3 hro, fun j hj => ?_⟩
  obtain ⟨x, hx⟩ := atS_some hj
  obtain ⟨v, hv, hr⟩ := g4 j x hx
  refine ⟨v, hv, ?_, hr.2⟩
  rcases hf j x hj hx with e | ⟨e, hid⟩
  · rw [e]; trivial
  · rw [e]; exact SV.to_noM hid hr.1
end Go.Bx
end

section
/- Types and functions of the document's ciphers, as instances. -/
open Go Go.Bx Go.Proofs
namespace Go.Proofs.X
instance : Clb Tryz.prog 119 := ⟨_, Tryz.func119, by kernel_rfl, rfl⟩
instance : Clb Tryz.prog 164 := ⟨_, Tryz.func164, by kernel_rfl, rfl⟩
instance : Clb Tryz.prog 117 := ⟨_, Tryz.func117, by kernel_rfl, rfl⟩
instance : Clb Tryz.prog 118 := ⟨_, Tryz.func118, by kernel_rfl, rfl⟩
instance : Clb Tryz.prog 46 := ⟨_, Tryz.func46, by kernel_rfl, rfl⟩
instance : Clb Tryz.prog 47 := ⟨_, Tryz.func47, by kernel_rfl, rfl⟩
instance : Clb Tryz.prog 12 := ⟨_, Tryz.func12, by kernel_rfl, rfl⟩
instance : Und Tryz.prog 100 (.pointer 139) := ⟨Tryz.underlying100⟩
instance : Sz Tryz.prog 100 1 := ⟨Tryz.sizeOf100⟩
instance : Ag Tryz.prog 100 false := ⟨Tryz.isAgg100⟩
instance : Zv Tryz.prog 100 [.one .nilp] := ⟨_, Tryz.zeroValue100, by kernel_rfl⟩
instance : Inf Tryz.prog 100 Tryz.t100 := ⟨by kernel_rfl⟩
instance : Und Tryz.prog 139 (.struct #[{ name := "s", type := 126, offset := 0, embedded := false, tag := "", pkgPath := "burrow/burrowref09", byteOffset := 0 }, { name := "back", type := 126, offset := 256, embedded := false, tag := "", pkgPath := "burrow/burrowref09", byteOffset := 256 }]) := ⟨Tryz.underlying139⟩
instance : Sz Tryz.prog 139 512 := ⟨Tryz.sizeOf139⟩
instance : Ag Tryz.prog 139 true := ⟨Tryz.isAgg139⟩
instance : Zv Tryz.prog 139 [.ints .u8 256 (zs (List.replicate 256 0)), .ints .u8 256 (zs (List.replicate 256 0))] := ⟨_, Tryz.zeroValue139, by kernel_rfl⟩
instance : FldC Tryz.prog 139 0 0 := ⟨_, _, _, Tryz.underlying139, rfl, Tryz.sizeOf126, by decide, rfl⟩
instance : FldC Tryz.prog 139 1 256 := ⟨_, _, _, Tryz.underlying139, rfl, Tryz.sizeOf126, by decide, rfl⟩
instance : Pl Tryz.prog 139 #[(0, 256), (256, 256)] := ⟨_, Tryz.underlying139, fun w => by kernel_rfl⟩
instance : Inf Tryz.prog 139 Tryz.t139 := ⟨by kernel_rfl⟩
instance : Und Tryz.prog 140 (.array 44 132) := ⟨Tryz.underlying140⟩
instance : Sz Tryz.prog 140 176 := ⟨Tryz.sizeOf140⟩
instance : Ag Tryz.prog 140 true := ⟨Tryz.isAgg140⟩
instance : Zv Tryz.prog 140 [.ints .u8 176 (zs (List.replicate 176 0))] := ⟨_, Tryz.zeroValue140, by kernel_rfl⟩
instance : Inf Tryz.prog 140 Tryz.t140 := ⟨by kernel_rfl⟩
end Go.Proofs.X
end

section
/- Types and functions of twins and of the Book, as instances. -/
open Go Go.Bx Go.Proofs
namespace Go.Proofs.X
instance : Clb Tryz.prog 8 := ⟨_, Tryz.func8, by kernel_rfl, rfl⟩
instance : Clb Tryz.prog 13 := ⟨_, Tryz.func13, by kernel_rfl, rfl⟩
instance : Clb Tryz.prog 11 := ⟨_, Tryz.func11, by kernel_rfl, rfl⟩
instance : Clb Tryz.prog 120 := ⟨_, Tryz.func120, by kernel_rfl, rfl⟩
instance : Clb Tryz.prog 135 := ⟨_, Tryz.func135, by kernel_rfl, rfl⟩
instance : Clb Tryz.prog 10 := ⟨_, Tryz.func10, by kernel_rfl, rfl⟩
instance : Clb Tryz.prog 45 := ⟨_, Tryz.func45, by kernel_rfl, rfl⟩
instance : Clb Tryz.prog 14 := ⟨_, Tryz.func14, by kernel_rfl, rfl⟩
instance : Clb Tryz.prog 48 := ⟨_, Tryz.func48, by kernel_rfl, rfl⟩
instance : Clb Tryz.prog 49 := ⟨_, Tryz.func49, by kernel_rfl, rfl⟩
instance : Clb Tryz.prog 50 := ⟨_, Tryz.func50, by kernel_rfl, rfl⟩
instance : Clb Tryz.prog 51 := ⟨_, Tryz.func51, by kernel_rfl, rfl⟩
instance : Clb Tryz.prog 52 := ⟨_, Tryz.func52, by kernel_rfl, rfl⟩
instance : Clb Tryz.prog 53 := ⟨_, Tryz.func53, by kernel_rfl, rfl⟩
instance : Clb Tryz.prog 54 := ⟨_, Tryz.func54, by kernel_rfl, rfl⟩
instance : Clb Tryz.prog 55 := ⟨_, Tryz.func55, by kernel_rfl, rfl⟩
instance : Clb Tryz.prog 56 := ⟨_, Tryz.func56, by kernel_rfl, rfl⟩
instance : Clb Tryz.prog 57 := ⟨_, Tryz.func57, by kernel_rfl, rfl⟩
instance : Clb Tryz.prog 58 := ⟨_, Tryz.func58, by kernel_rfl, rfl⟩
instance : Clb Tryz.prog 59 := ⟨_, Tryz.func59, by kernel_rfl, rfl⟩
instance : Clb Tryz.prog 60 := ⟨_, Tryz.func60, by kernel_rfl, rfl⟩
instance : Clb Tryz.prog 61 := ⟨_, Tryz.func61, by kernel_rfl, rfl⟩
instance : Clb Tryz.prog 62 := ⟨_, Tryz.func62, by kernel_rfl, rfl⟩
instance : Clb Tryz.prog 63 := ⟨_, Tryz.func63, by kernel_rfl, rfl⟩
instance : Clb Tryz.prog 64 := ⟨_, Tryz.func64, by kernel_rfl, rfl⟩
instance : Clb Tryz.prog 65 := ⟨_, Tryz.func65, by kernel_rfl, rfl⟩
instance : Clb Tryz.prog 66 := ⟨_, Tryz.func66, by kernel_rfl, rfl⟩
instance : Clb Tryz.prog 67 := ⟨_, Tryz.func67, by kernel_rfl, rfl⟩
instance : Clb Tryz.prog 68 := ⟨_, Tryz.func68, by kernel_rfl, rfl⟩
instance : Clb Tryz.prog 69 := ⟨_, Tryz.func69, by kernel_rfl, rfl⟩
instance : Clb Tryz.prog 70 := ⟨_, Tryz.func70, by kernel_rfl, rfl⟩
instance : Clb Tryz.prog 71 := ⟨_, Tryz.func71, by kernel_rfl, rfl⟩
instance : Clb Tryz.prog 72 := ⟨_, Tryz.func72, by kernel_rfl, rfl⟩
instance : Clb Tryz.prog 73 := ⟨_, Tryz.func73, by kernel_rfl, rfl⟩
instance : Clb Tryz.prog 74 := ⟨_, Tryz.func74, by kernel_rfl, rfl⟩
instance : Clb Tryz.prog 75 := ⟨_, Tryz.func75, by kernel_rfl, rfl⟩
instance : Clb Tryz.prog 76 := ⟨_, Tryz.func76, by kernel_rfl, rfl⟩
instance : Clb Tryz.prog 77 := ⟨_, Tryz.func77, by kernel_rfl, rfl⟩
instance : Clb Tryz.prog 78 := ⟨_, Tryz.func78, by kernel_rfl, rfl⟩
instance : Clb Tryz.prog 79 := ⟨_, Tryz.func79, by kernel_rfl, rfl⟩
instance : Clb Tryz.prog 80 := ⟨_, Tryz.func80, by kernel_rfl, rfl⟩
instance : Clb Tryz.prog 81 := ⟨_, Tryz.func81, by kernel_rfl, rfl⟩
instance : Clb Tryz.prog 82 := ⟨_, Tryz.func82, by kernel_rfl, rfl⟩
instance : Clb Tryz.prog 83 := ⟨_, Tryz.func83, by kernel_rfl, rfl⟩
instance : Clb Tryz.prog 84 := ⟨_, Tryz.func84, by kernel_rfl, rfl⟩
instance : Clb Tryz.prog 85 := ⟨_, Tryz.func85, by kernel_rfl, rfl⟩
instance : Clb Tryz.prog 86 := ⟨_, Tryz.func86, by kernel_rfl, rfl⟩
instance : Clb Tryz.prog 87 := ⟨_, Tryz.func87, by kernel_rfl, rfl⟩
instance : Clb Tryz.prog 88 := ⟨_, Tryz.func88, by kernel_rfl, rfl⟩
instance : Clb Tryz.prog 89 := ⟨_, Tryz.func89, by kernel_rfl, rfl⟩
instance : Clb Tryz.prog 90 := ⟨_, Tryz.func90, by kernel_rfl, rfl⟩
instance : Clb Tryz.prog 91 := ⟨_, Tryz.func91, by kernel_rfl, rfl⟩
instance : Clb Tryz.prog 92 := ⟨_, Tryz.func92, by kernel_rfl, rfl⟩
instance : Und Tryz.prog 9 (.string) := ⟨Tryz.underlying9⟩
instance : Sz Tryz.prog 9 1 := ⟨Tryz.sizeOf9⟩
instance : Ag Tryz.prog 9 false := ⟨Tryz.isAgg9⟩
instance : Zv Tryz.prog 9 [.one (.val (.string ⟨#[]⟩))] := ⟨_, Tryz.zeroValue9, by kernel_rfl⟩
instance : Inf Tryz.prog 9 Tryz.t9 := ⟨by kernel_rfl⟩
instance : Und Tryz.prog 27 (.slice 136) := ⟨Tryz.underlying27⟩
instance : Sz Tryz.prog 27 1 := ⟨Tryz.sizeOf27⟩
instance : Ag Tryz.prog 27 false := ⟨Tryz.isAgg27⟩
instance : Zv Tryz.prog 27 [.one .nils] := ⟨_, Tryz.zeroValue27, by kernel_rfl⟩
instance : Zn Tryz.prog 27 := ⟨Tryz.zeroValue27⟩
instance : Inf Tryz.prog 27 Tryz.t27 := ⟨by kernel_rfl⟩
instance : Und Tryz.prog 28 (.slice 146) := ⟨Tryz.underlying28⟩
instance : Sz Tryz.prog 28 1 := ⟨Tryz.sizeOf28⟩
instance : Ag Tryz.prog 28 false := ⟨Tryz.isAgg28⟩
instance : Zv Tryz.prog 28 [.one .nils] := ⟨_, Tryz.zeroValue28, by kernel_rfl⟩
instance : Zn Tryz.prog 28 := ⟨Tryz.zeroValue28⟩
instance : Inf Tryz.prog 28 Tryz.t28 := ⟨by kernel_rfl⟩
instance : Und Tryz.prog 29 (.slice 149) := ⟨Tryz.underlying29⟩
instance : Sz Tryz.prog 29 1 := ⟨Tryz.sizeOf29⟩
instance : Ag Tryz.prog 29 false := ⟨Tryz.isAgg29⟩
instance : Zv Tryz.prog 29 [.one .nils] := ⟨_, Tryz.zeroValue29, by kernel_rfl⟩
instance : Zn Tryz.prog 29 := ⟨Tryz.zeroValue29⟩
instance : Inf Tryz.prog 29 Tryz.t29 := ⟨by kernel_rfl⟩
instance : Und Tryz.prog 30 (.slice 153) := ⟨Tryz.underlying30⟩
instance : Sz Tryz.prog 30 1 := ⟨Tryz.sizeOf30⟩
instance : Ag Tryz.prog 30 false := ⟨Tryz.isAgg30⟩
instance : Zv Tryz.prog 30 [.one .nils] := ⟨_, Tryz.zeroValue30, by kernel_rfl⟩
instance : Zn Tryz.prog 30 := ⟨Tryz.zeroValue30⟩
instance : Inf Tryz.prog 30 Tryz.t30 := ⟨by kernel_rfl⟩
instance : Und Tryz.prog 31 (.slice 157) := ⟨Tryz.underlying31⟩
instance : Sz Tryz.prog 31 1 := ⟨Tryz.sizeOf31⟩
instance : Ag Tryz.prog 31 false := ⟨Tryz.isAgg31⟩
instance : Zv Tryz.prog 31 [.one .nils] := ⟨_, Tryz.zeroValue31, by kernel_rfl⟩
instance : Zn Tryz.prog 31 := ⟨Tryz.zeroValue31⟩
instance : Inf Tryz.prog 31 Tryz.t31 := ⟨by kernel_rfl⟩
instance : Und Tryz.prog 32 (.slice 161) := ⟨Tryz.underlying32⟩
instance : Sz Tryz.prog 32 1 := ⟨Tryz.sizeOf32⟩
instance : Ag Tryz.prog 32 false := ⟨Tryz.isAgg32⟩
instance : Zv Tryz.prog 32 [.one .nils] := ⟨_, Tryz.zeroValue32, by kernel_rfl⟩
instance : Zn Tryz.prog 32 := ⟨Tryz.zeroValue32⟩
instance : Inf Tryz.prog 32 Tryz.t32 := ⟨by kernel_rfl⟩
instance : Und Tryz.prog 33 (.slice 166) := ⟨Tryz.underlying33⟩
instance : Sz Tryz.prog 33 1 := ⟨Tryz.sizeOf33⟩
instance : Ag Tryz.prog 33 false := ⟨Tryz.isAgg33⟩
instance : Zv Tryz.prog 33 [.one .nils] := ⟨_, Tryz.zeroValue33, by kernel_rfl⟩
instance : Zn Tryz.prog 33 := ⟨Tryz.zeroValue33⟩
instance : Inf Tryz.prog 33 Tryz.t33 := ⟨by kernel_rfl⟩
instance : Und Tryz.prog 34 (.slice 171) := ⟨Tryz.underlying34⟩
instance : Sz Tryz.prog 34 1 := ⟨Tryz.sizeOf34⟩
instance : Ag Tryz.prog 34 false := ⟨Tryz.isAgg34⟩
instance : Zv Tryz.prog 34 [.one .nils] := ⟨_, Tryz.zeroValue34, by kernel_rfl⟩
instance : Zn Tryz.prog 34 := ⟨Tryz.zeroValue34⟩
instance : Inf Tryz.prog 34 Tryz.t34 := ⟨by kernel_rfl⟩
instance : Und Tryz.prog 35 (.slice 175) := ⟨Tryz.underlying35⟩
instance : Sz Tryz.prog 35 1 := ⟨Tryz.sizeOf35⟩
instance : Ag Tryz.prog 35 false := ⟨Tryz.isAgg35⟩
instance : Zv Tryz.prog 35 [.one .nils] := ⟨_, Tryz.zeroValue35, by kernel_rfl⟩
instance : Zn Tryz.prog 35 := ⟨Tryz.zeroValue35⟩
instance : Inf Tryz.prog 35 Tryz.t35 := ⟨by kernel_rfl⟩
instance : Und Tryz.prog 36 (.slice 179) := ⟨Tryz.underlying36⟩
instance : Sz Tryz.prog 36 1 := ⟨Tryz.sizeOf36⟩
instance : Ag Tryz.prog 36 false := ⟨Tryz.isAgg36⟩
instance : Zv Tryz.prog 36 [.one .nils] := ⟨_, Tryz.zeroValue36, by kernel_rfl⟩
instance : Zn Tryz.prog 36 := ⟨Tryz.zeroValue36⟩
instance : Inf Tryz.prog 36 Tryz.t36 := ⟨by kernel_rfl⟩
instance : Und Tryz.prog 37 (.slice 185) := ⟨Tryz.underlying37⟩
instance : Sz Tryz.prog 37 1 := ⟨Tryz.sizeOf37⟩
instance : Ag Tryz.prog 37 false := ⟨Tryz.isAgg37⟩
instance : Zv Tryz.prog 37 [.one .nils] := ⟨_, Tryz.zeroValue37, by kernel_rfl⟩
instance : Zn Tryz.prog 37 := ⟨Tryz.zeroValue37⟩
instance : Inf Tryz.prog 37 Tryz.t37 := ⟨by kernel_rfl⟩
instance : Und Tryz.prog 38 (.slice 192) := ⟨Tryz.underlying38⟩
instance : Sz Tryz.prog 38 1 := ⟨Tryz.sizeOf38⟩
instance : Ag Tryz.prog 38 false := ⟨Tryz.isAgg38⟩
instance : Zv Tryz.prog 38 [.one .nils] := ⟨_, Tryz.zeroValue38, by kernel_rfl⟩
instance : Zn Tryz.prog 38 := ⟨Tryz.zeroValue38⟩
instance : Inf Tryz.prog 38 Tryz.t38 := ⟨by kernel_rfl⟩
instance : Und Tryz.prog 39 (.slice 198) := ⟨Tryz.underlying39⟩
instance : Sz Tryz.prog 39 1 := ⟨Tryz.sizeOf39⟩
instance : Ag Tryz.prog 39 false := ⟨Tryz.isAgg39⟩
instance : Zv Tryz.prog 39 [.one .nils] := ⟨_, Tryz.zeroValue39, by kernel_rfl⟩
instance : Zn Tryz.prog 39 := ⟨Tryz.zeroValue39⟩
instance : Inf Tryz.prog 39 Tryz.t39 := ⟨by kernel_rfl⟩
instance : Und Tryz.prog 40 (.slice 204) := ⟨Tryz.underlying40⟩
instance : Sz Tryz.prog 40 1 := ⟨Tryz.sizeOf40⟩
instance : Ag Tryz.prog 40 false := ⟨Tryz.isAgg40⟩
instance : Zv Tryz.prog 40 [.one .nils] := ⟨_, Tryz.zeroValue40, by kernel_rfl⟩
instance : Zn Tryz.prog 40 := ⟨Tryz.zeroValue40⟩
instance : Inf Tryz.prog 40 Tryz.t40 := ⟨by kernel_rfl⟩
instance : Und Tryz.prog 41 (.slice 209) := ⟨Tryz.underlying41⟩
instance : Sz Tryz.prog 41 1 := ⟨Tryz.sizeOf41⟩
instance : Ag Tryz.prog 41 false := ⟨Tryz.isAgg41⟩
instance : Zv Tryz.prog 41 [.one .nils] := ⟨_, Tryz.zeroValue41, by kernel_rfl⟩
instance : Zn Tryz.prog 41 := ⟨Tryz.zeroValue41⟩
instance : Inf Tryz.prog 41 Tryz.t41 := ⟨by kernel_rfl⟩
instance : Und Tryz.prog 43 (.struct #[{ name := "n", type := 3, offset := 0, embedded := false, tag := "", pkgPath := "burrow/burrowlaw01", byteOffset := 0 }, { name := "bytes", type := 27, offset := 1, embedded := false, tag := "", pkgPath := "burrow/burrowlaw01", byteOffset := 8 }, { name := "ints", type := 28, offset := 2, embedded := false, tag := "", pkgPath := "burrow/burrowlaw01", byteOffset := 32 }, { name := "texts", type := 29, offset := 3, embedded := false, tag := "", pkgPath := "burrow/burrowlaw01", byteOffset := 56 }, { name := "nums", type := 30, offset := 4, embedded := false, tag := "", pkgPath := "burrow/burrowlaw01", byteOffset := 80 }, { name := "sums", type := 31, offset := 5, embedded := false, tag := "", pkgPath := "burrow/burrowlaw01", byteOffset := 104 }, { name := "tags", type := 32, offset := 6, embedded := false, tag := "", pkgPath := "burrow/burrowlaw01", byteOffset := 128 }, { name := "spots", type := 33, offset := 7, embedded := false, tag := "", pkgPath := "burrow/burrowlaw01", byteOffset := 152 }, { name := "gens", type := 34, offset := 8, embedded := false, tag := "", pkgPath := "burrow/burrowlaw01", byteOffset := 176 }, { name := "lanes", type := 35, offset := 9, embedded := false, tag := "", pkgPath := "burrow/burrowlaw01", byteOffset := 200 }, { name := "params", type := 36, offset := 10, embedded := false, tag := "", pkgPath := "burrow/burrowlaw01", byteOffset := 224 }, { name := "packets", type := 37, offset := 11, embedded := false, tag := "", pkgPath := "burrow/burrowlaw01", byteOffset := 248 }, { name := "frames", type := 38, offset := 12, embedded := false, tag := "", pkgPath := "burrow/burrowlaw01", byteOffset := 272 }, { name := "mails", type := 39, offset := 13, embedded := false, tag := "", pkgPath := "burrow/burrowlaw01", byteOffset := 296 }, { name := "sessions", type := 40, offset := 14, embedded := false, tag := "", pkgPath := "burrow/burrowlaw01", byteOffset := 320 }, { name := "records", type := 41, offset := 15, embedded := false, tag := "", pkgPath := "burrow/burrowlaw01", byteOffset := 344 }]) := ⟨Tryz.underlying43⟩
instance : Sz Tryz.prog 43 16 := ⟨Tryz.sizeOf43⟩
instance : Ag Tryz.prog 43 true := ⟨Tryz.isAgg43⟩
instance : Zv Tryz.prog 43 [.one (.int .i64 0), .one .nils, .one .nils, .one .nils, .one .nils, .one .nils, .one .nils, .one .nils, .one .nils, .one .nils, .one .nils, .one .nils, .one .nils, .one .nils, .one .nils, .one .nils] := ⟨_, Tryz.zeroValue43, by kernel_rfl⟩
instance : FldC Tryz.prog 43 0 0 := ⟨_, _, _, Tryz.underlying43, rfl, Tryz.sizeOf3, by decide, rfl⟩
instance : FldC Tryz.prog 43 1 1 := ⟨_, _, _, Tryz.underlying43, rfl, Tryz.sizeOf27, by decide, rfl⟩
instance : FldC Tryz.prog 43 2 2 := ⟨_, _, _, Tryz.underlying43, rfl, Tryz.sizeOf28, by decide, rfl⟩
instance : FldC Tryz.prog 43 3 3 := ⟨_, _, _, Tryz.underlying43, rfl, Tryz.sizeOf29, by decide, rfl⟩
instance : FldC Tryz.prog 43 4 4 := ⟨_, _, _, Tryz.underlying43, rfl, Tryz.sizeOf30, by decide, rfl⟩
instance : FldC Tryz.prog 43 5 5 := ⟨_, _, _, Tryz.underlying43, rfl, Tryz.sizeOf31, by decide, rfl⟩
instance : FldC Tryz.prog 43 6 6 := ⟨_, _, _, Tryz.underlying43, rfl, Tryz.sizeOf32, by decide, rfl⟩
instance : FldC Tryz.prog 43 7 7 := ⟨_, _, _, Tryz.underlying43, rfl, Tryz.sizeOf33, by decide, rfl⟩
instance : FldC Tryz.prog 43 8 8 := ⟨_, _, _, Tryz.underlying43, rfl, Tryz.sizeOf34, by decide, rfl⟩
instance : FldC Tryz.prog 43 9 9 := ⟨_, _, _, Tryz.underlying43, rfl, Tryz.sizeOf35, by decide, rfl⟩
instance : FldC Tryz.prog 43 10 10 := ⟨_, _, _, Tryz.underlying43, rfl, Tryz.sizeOf36, by decide, rfl⟩
instance : FldC Tryz.prog 43 11 11 := ⟨_, _, _, Tryz.underlying43, rfl, Tryz.sizeOf37, by decide, rfl⟩
instance : FldC Tryz.prog 43 12 12 := ⟨_, _, _, Tryz.underlying43, rfl, Tryz.sizeOf38, by decide, rfl⟩
instance : FldC Tryz.prog 43 13 13 := ⟨_, _, _, Tryz.underlying43, rfl, Tryz.sizeOf39, by decide, rfl⟩
instance : FldC Tryz.prog 43 14 14 := ⟨_, _, _, Tryz.underlying43, rfl, Tryz.sizeOf40, by decide, rfl⟩
instance : FldC Tryz.prog 43 15 15 := ⟨_, _, _, Tryz.underlying43, rfl, Tryz.sizeOf41, by decide, rfl⟩
instance : Pl Tryz.prog 43 #[(0, 1), (1, 1), (2, 1), (3, 1), (4, 1), (5, 1), (6, 1), (7, 1), (8, 1), (9, 1), (10, 1), (11, 1), (12, 1), (13, 1), (14, 1), (15, 1)] := ⟨_, Tryz.underlying43, fun w => by kernel_rfl⟩
instance : Inf Tryz.prog 43 Tryz.t43 := ⟨by kernel_rfl⟩
instance : Und Tryz.prog 49 (.array 4 47) := ⟨Tryz.underlying49⟩
instance : Sz Tryz.prog 49 4 := ⟨Tryz.sizeOf49⟩
instance : Ag Tryz.prog 49 true := ⟨Tryz.isAgg49⟩
instance : Zv Tryz.prog 49 [.ints .u64 4 (zs (List.replicate 4 0))] := ⟨_, Tryz.zeroValue49, by kernel_rfl⟩
instance : Zb Tryz.prog 49 .u64 4 := ⟨_, Tryz.zeroValue49, by kernel_rfl⟩
instance : Inf Tryz.prog 49 Tryz.t49 := ⟨by kernel_rfl⟩
instance : Und Tryz.prog 58 (.struct #[{ name := "Mac", type := 51, offset := 0, embedded := false, tag := "", pkgPath := "", byteOffset := 0 }, { name := "Cipher", type := 22, offset := 32, embedded := false, tag := "", pkgPath := "", byteOffset := 32 }]) := ⟨Tryz.underlying58⟩
instance : Sz Tryz.prog 58 48 := ⟨Tryz.sizeOf58⟩
instance : Ag Tryz.prog 58 true := ⟨Tryz.isAgg58⟩
instance : Zv Tryz.prog 58 [.ints .u8 32 (zs (List.replicate 32 0)), .ints .u8 16 (zs (List.replicate 16 0))] := ⟨_, Tryz.zeroValue58, by kernel_rfl⟩
instance : FldC Tryz.prog 58 0 0 := ⟨_, _, _, Tryz.underlying58, rfl, Tryz.sizeOf51, by decide, rfl⟩
instance : FldC Tryz.prog 58 1 32 := ⟨_, _, _, Tryz.underlying58, rfl, Tryz.sizeOf22, by decide, rfl⟩
instance : Pl Tryz.prog 58 #[(0, 32), (32, 16)] := ⟨_, Tryz.underlying58, fun w => by kernel_rfl⟩
instance : Inf Tryz.prog 58 Tryz.t58 := ⟨by kernel_rfl⟩
instance : Und Tryz.prog 84 (.int .u16) := ⟨Tryz.underlying84⟩
instance : Sz Tryz.prog 84 1 := ⟨Tryz.sizeOf84⟩
instance : Ag Tryz.prog 84 false := ⟨Tryz.isAgg84⟩
instance : Zv Tryz.prog 84 [.one (.int .u16 0)] := ⟨_, Tryz.zeroValue84, by kernel_rfl⟩
instance : Zi Tryz.prog 84 .u16 := ⟨Tryz.zeroValue84⟩
instance : Inf Tryz.prog 84 Tryz.t84 := ⟨by kernel_rfl⟩
instance : Und Tryz.prog 99 (.pointer 43) := ⟨Tryz.underlying99⟩
instance : Sz Tryz.prog 99 1 := ⟨Tryz.sizeOf99⟩
instance : Ag Tryz.prog 99 false := ⟨Tryz.isAgg99⟩
instance : Zv Tryz.prog 99 [.one .nilp] := ⟨_, Tryz.zeroValue99, by kernel_rfl⟩
instance : Inf Tryz.prog 99 Tryz.t99 := ⟨by kernel_rfl⟩
instance : Und Tryz.prog 136 (.struct #[{ name := "l", type := 23, offset := 0, embedded := false, tag := "", pkgPath := "burrow/burrowlaw01", byteOffset := 0 }, { name := "long", type := 23, offset := 1, embedded := false, tag := "", pkgPath := "burrow/burrowlaw01", byteOffset := 24 }, { name := "n", type := 3, offset := 2, embedded := false, tag := "", pkgPath := "burrow/burrowlaw01", byteOffset := 48 }]) := ⟨Tryz.underlying136⟩
instance : Sz Tryz.prog 136 3 := ⟨Tryz.sizeOf136⟩
instance : Ag Tryz.prog 136 true := ⟨Tryz.isAgg136⟩
instance : Zv Tryz.prog 136 [.one .nils, .one .nils, .one (.int .i64 0)] := ⟨_, Tryz.zeroValue136, by kernel_rfl⟩
instance : FldC Tryz.prog 136 0 0 := ⟨_, _, _, Tryz.underlying136, rfl, Tryz.sizeOf23, by decide, rfl⟩
instance : FldC Tryz.prog 136 1 1 := ⟨_, _, _, Tryz.underlying136, rfl, Tryz.sizeOf23, by decide, rfl⟩
instance : FldC Tryz.prog 136 2 2 := ⟨_, _, _, Tryz.underlying136, rfl, Tryz.sizeOf3, by decide, rfl⟩
instance : Pl Tryz.prog 136 #[(0, 1), (1, 1), (2, 1)] := ⟨_, Tryz.underlying136, fun w => by kernel_rfl⟩
instance : Inf Tryz.prog 136 Tryz.t136 := ⟨by kernel_rfl⟩
instance : Und Tryz.prog 146 (.struct #[{ name := "l", type := 144, offset := 0, embedded := false, tag := "", pkgPath := "burrow/burrowlaw01", byteOffset := 0 }, { name := "long", type := 144, offset := 1, embedded := false, tag := "", pkgPath := "burrow/burrowlaw01", byteOffset := 24 }, { name := "n", type := 3, offset := 2, embedded := false, tag := "", pkgPath := "burrow/burrowlaw01", byteOffset := 48 }]) := ⟨Tryz.underlying146⟩
instance : Sz Tryz.prog 146 3 := ⟨Tryz.sizeOf146⟩
instance : Ag Tryz.prog 146 true := ⟨Tryz.isAgg146⟩
instance : Zv Tryz.prog 146 [.one .nils, .one .nils, .one (.int .i64 0)] := ⟨_, Tryz.zeroValue146, by kernel_rfl⟩
instance : FldC Tryz.prog 146 0 0 := ⟨_, _, _, Tryz.underlying146, rfl, Tryz.sizeOf144, by decide, rfl⟩
instance : FldC Tryz.prog 146 1 1 := ⟨_, _, _, Tryz.underlying146, rfl, Tryz.sizeOf144, by decide, rfl⟩
instance : FldC Tryz.prog 146 2 2 := ⟨_, _, _, Tryz.underlying146, rfl, Tryz.sizeOf3, by decide, rfl⟩
instance : Pl Tryz.prog 146 #[(0, 1), (1, 1), (2, 1)] := ⟨_, Tryz.underlying146, fun w => by kernel_rfl⟩
instance : Inf Tryz.prog 146 Tryz.t146 := ⟨by kernel_rfl⟩
instance : Und Tryz.prog 147 (.slice 9) := ⟨Tryz.underlying147⟩
instance : Sz Tryz.prog 147 1 := ⟨Tryz.sizeOf147⟩
instance : Ag Tryz.prog 147 false := ⟨Tryz.isAgg147⟩
instance : Zv Tryz.prog 147 [.one .nils] := ⟨_, Tryz.zeroValue147, by kernel_rfl⟩
instance : Zn Tryz.prog 147 := ⟨Tryz.zeroValue147⟩
instance : Inf Tryz.prog 147 Tryz.t147 := ⟨by kernel_rfl⟩
instance : Und Tryz.prog 149 (.struct #[{ name := "l", type := 147, offset := 0, embedded := false, tag := "", pkgPath := "burrow/burrowlaw01", byteOffset := 0 }, { name := "long", type := 147, offset := 1, embedded := false, tag := "", pkgPath := "burrow/burrowlaw01", byteOffset := 24 }, { name := "n", type := 3, offset := 2, embedded := false, tag := "", pkgPath := "burrow/burrowlaw01", byteOffset := 48 }]) := ⟨Tryz.underlying149⟩
instance : Sz Tryz.prog 149 3 := ⟨Tryz.sizeOf149⟩
instance : Ag Tryz.prog 149 true := ⟨Tryz.isAgg149⟩
instance : Zv Tryz.prog 149 [.one .nils, .one .nils, .one (.int .i64 0)] := ⟨_, Tryz.zeroValue149, by kernel_rfl⟩
instance : FldC Tryz.prog 149 0 0 := ⟨_, _, _, Tryz.underlying149, rfl, Tryz.sizeOf147, by decide, rfl⟩
instance : FldC Tryz.prog 149 1 1 := ⟨_, _, _, Tryz.underlying149, rfl, Tryz.sizeOf147, by decide, rfl⟩
instance : FldC Tryz.prog 149 2 2 := ⟨_, _, _, Tryz.underlying149, rfl, Tryz.sizeOf3, by decide, rfl⟩
instance : Pl Tryz.prog 149 #[(0, 1), (1, 1), (2, 1)] := ⟨_, Tryz.underlying149, fun w => by kernel_rfl⟩
instance : Inf Tryz.prog 149 Tryz.t149 := ⟨by kernel_rfl⟩
instance : Und Tryz.prog 151 (.slice 49) := ⟨Tryz.underlying151⟩
instance : Sz Tryz.prog 151 1 := ⟨Tryz.sizeOf151⟩
instance : Ag Tryz.prog 151 false := ⟨Tryz.isAgg151⟩
instance : Zv Tryz.prog 151 [.one .nils] := ⟨_, Tryz.zeroValue151, by kernel_rfl⟩
instance : Zn Tryz.prog 151 := ⟨Tryz.zeroValue151⟩
instance : Inf Tryz.prog 151 Tryz.t151 := ⟨by kernel_rfl⟩
instance : Und Tryz.prog 153 (.struct #[{ name := "l", type := 151, offset := 0, embedded := false, tag := "", pkgPath := "burrow/burrowlaw01", byteOffset := 0 }, { name := "long", type := 151, offset := 1, embedded := false, tag := "", pkgPath := "burrow/burrowlaw01", byteOffset := 24 }, { name := "n", type := 3, offset := 2, embedded := false, tag := "", pkgPath := "burrow/burrowlaw01", byteOffset := 48 }]) := ⟨Tryz.underlying153⟩
instance : Sz Tryz.prog 153 3 := ⟨Tryz.sizeOf153⟩
instance : Ag Tryz.prog 153 true := ⟨Tryz.isAgg153⟩
instance : Zv Tryz.prog 153 [.one .nils, .one .nils, .one (.int .i64 0)] := ⟨_, Tryz.zeroValue153, by kernel_rfl⟩
instance : FldC Tryz.prog 153 0 0 := ⟨_, _, _, Tryz.underlying153, rfl, Tryz.sizeOf151, by decide, rfl⟩
instance : FldC Tryz.prog 153 1 1 := ⟨_, _, _, Tryz.underlying153, rfl, Tryz.sizeOf151, by decide, rfl⟩
instance : FldC Tryz.prog 153 2 2 := ⟨_, _, _, Tryz.underlying153, rfl, Tryz.sizeOf3, by decide, rfl⟩
instance : Pl Tryz.prog 153 #[(0, 1), (1, 1), (2, 1)] := ⟨_, Tryz.underlying153, fun w => by kernel_rfl⟩
instance : Inf Tryz.prog 153 Tryz.t153 := ⟨by kernel_rfl⟩
instance : Und Tryz.prog 155 (.slice 51) := ⟨Tryz.underlying155⟩
instance : Sz Tryz.prog 155 1 := ⟨Tryz.sizeOf155⟩
instance : Ag Tryz.prog 155 false := ⟨Tryz.isAgg155⟩
instance : Zv Tryz.prog 155 [.one .nils] := ⟨_, Tryz.zeroValue155, by kernel_rfl⟩
instance : Zn Tryz.prog 155 := ⟨Tryz.zeroValue155⟩
instance : Inf Tryz.prog 155 Tryz.t155 := ⟨by kernel_rfl⟩
instance : Und Tryz.prog 157 (.struct #[{ name := "l", type := 155, offset := 0, embedded := false, tag := "", pkgPath := "burrow/burrowlaw01", byteOffset := 0 }, { name := "long", type := 155, offset := 1, embedded := false, tag := "", pkgPath := "burrow/burrowlaw01", byteOffset := 24 }, { name := "n", type := 3, offset := 2, embedded := false, tag := "", pkgPath := "burrow/burrowlaw01", byteOffset := 48 }]) := ⟨Tryz.underlying157⟩
instance : Sz Tryz.prog 157 3 := ⟨Tryz.sizeOf157⟩
instance : Ag Tryz.prog 157 true := ⟨Tryz.isAgg157⟩
instance : Zv Tryz.prog 157 [.one .nils, .one .nils, .one (.int .i64 0)] := ⟨_, Tryz.zeroValue157, by kernel_rfl⟩
instance : FldC Tryz.prog 157 0 0 := ⟨_, _, _, Tryz.underlying157, rfl, Tryz.sizeOf155, by decide, rfl⟩
instance : FldC Tryz.prog 157 1 1 := ⟨_, _, _, Tryz.underlying157, rfl, Tryz.sizeOf155, by decide, rfl⟩
instance : FldC Tryz.prog 157 2 2 := ⟨_, _, _, Tryz.underlying157, rfl, Tryz.sizeOf3, by decide, rfl⟩
instance : Pl Tryz.prog 157 #[(0, 1), (1, 1), (2, 1)] := ⟨_, Tryz.underlying157, fun w => by kernel_rfl⟩
instance : Inf Tryz.prog 157 Tryz.t157 := ⟨by kernel_rfl⟩
instance : Und Tryz.prog 159 (.slice 162) := ⟨Tryz.underlying159⟩
instance : Sz Tryz.prog 159 1 := ⟨Tryz.sizeOf159⟩
instance : Ag Tryz.prog 159 false := ⟨Tryz.isAgg159⟩
instance : Zv Tryz.prog 159 [.one .nils] := ⟨_, Tryz.zeroValue159, by kernel_rfl⟩
instance : Zn Tryz.prog 159 := ⟨Tryz.zeroValue159⟩
instance : Inf Tryz.prog 159 Tryz.t159 := ⟨by kernel_rfl⟩
instance : Und Tryz.prog 161 (.struct #[{ name := "l", type := 159, offset := 0, embedded := false, tag := "", pkgPath := "burrow/burrowlaw01", byteOffset := 0 }, { name := "long", type := 159, offset := 1, embedded := false, tag := "", pkgPath := "burrow/burrowlaw01", byteOffset := 24 }, { name := "n", type := 3, offset := 2, embedded := false, tag := "", pkgPath := "burrow/burrowlaw01", byteOffset := 48 }]) := ⟨Tryz.underlying161⟩
instance : Sz Tryz.prog 161 3 := ⟨Tryz.sizeOf161⟩
instance : Ag Tryz.prog 161 true := ⟨Tryz.isAgg161⟩
instance : Zv Tryz.prog 161 [.one .nils, .one .nils, .one (.int .i64 0)] := ⟨_, Tryz.zeroValue161, by kernel_rfl⟩
instance : FldC Tryz.prog 161 0 0 := ⟨_, _, _, Tryz.underlying161, rfl, Tryz.sizeOf159, by decide, rfl⟩
instance : FldC Tryz.prog 161 1 1 := ⟨_, _, _, Tryz.underlying161, rfl, Tryz.sizeOf159, by decide, rfl⟩
instance : FldC Tryz.prog 161 2 2 := ⟨_, _, _, Tryz.underlying161, rfl, Tryz.sizeOf3, by decide, rfl⟩
instance : Pl Tryz.prog 161 #[(0, 1), (1, 1), (2, 1)] := ⟨_, Tryz.underlying161, fun w => by kernel_rfl⟩
instance : Inf Tryz.prog 161 Tryz.t161 := ⟨by kernel_rfl⟩
instance : Und Tryz.prog 162 (.array 16 5) := ⟨Tryz.underlying162⟩
instance : Sz Tryz.prog 162 16 := ⟨Tryz.sizeOf162⟩
instance : Ag Tryz.prog 162 true := ⟨Tryz.isAgg162⟩
instance : Zv Tryz.prog 162 [.ints .u8 16 (zs (List.replicate 16 0))] := ⟨_, Tryz.zeroValue162, by kernel_rfl⟩
instance : Zb Tryz.prog 162 .u8 16 := ⟨_, Tryz.zeroValue162, by kernel_rfl⟩
instance : Inf Tryz.prog 162 Tryz.t162 := ⟨by kernel_rfl⟩
instance : Und Tryz.prog 164 (.slice 167) := ⟨Tryz.underlying164⟩
instance : Sz Tryz.prog 164 1 := ⟨Tryz.sizeOf164⟩
instance : Ag Tryz.prog 164 false := ⟨Tryz.isAgg164⟩
instance : Zv Tryz.prog 164 [.one .nils] := ⟨_, Tryz.zeroValue164, by kernel_rfl⟩
instance : Zn Tryz.prog 164 := ⟨Tryz.zeroValue164⟩
instance : Inf Tryz.prog 164 Tryz.t164 := ⟨by kernel_rfl⟩
instance : Und Tryz.prog 166 (.struct #[{ name := "l", type := 164, offset := 0, embedded := false, tag := "", pkgPath := "burrow/burrowlaw01", byteOffset := 0 }, { name := "long", type := 164, offset := 1, embedded := false, tag := "", pkgPath := "burrow/burrowlaw01", byteOffset := 24 }, { name := "n", type := 3, offset := 2, embedded := false, tag := "", pkgPath := "burrow/burrowlaw01", byteOffset := 48 }]) := ⟨Tryz.underlying166⟩
instance : Sz Tryz.prog 166 3 := ⟨Tryz.sizeOf166⟩
instance : Ag Tryz.prog 166 true := ⟨Tryz.isAgg166⟩
instance : Zv Tryz.prog 166 [.one .nils, .one .nils, .one (.int .i64 0)] := ⟨_, Tryz.zeroValue166, by kernel_rfl⟩
instance : FldC Tryz.prog 166 0 0 := ⟨_, _, _, Tryz.underlying166, rfl, Tryz.sizeOf164, by decide, rfl⟩
instance : FldC Tryz.prog 166 1 1 := ⟨_, _, _, Tryz.underlying166, rfl, Tryz.sizeOf164, by decide, rfl⟩
instance : FldC Tryz.prog 166 2 2 := ⟨_, _, _, Tryz.underlying166, rfl, Tryz.sizeOf3, by decide, rfl⟩
instance : Pl Tryz.prog 166 #[(0, 1), (1, 1), (2, 1)] := ⟨_, Tryz.underlying166, fun w => by kernel_rfl⟩
instance : Inf Tryz.prog 166 Tryz.t166 := ⟨by kernel_rfl⟩
instance : Und Tryz.prog 167 (.int .u32) := ⟨Tryz.underlying167⟩
instance : Sz Tryz.prog 167 1 := ⟨Tryz.sizeOf167⟩
instance : Ag Tryz.prog 167 false := ⟨Tryz.isAgg167⟩
instance : Zv Tryz.prog 167 [.one (.int .u32 0)] := ⟨_, Tryz.zeroValue167, by kernel_rfl⟩
instance : Zi Tryz.prog 167 .u32 := ⟨Tryz.zeroValue167⟩
instance : Inf Tryz.prog 167 Tryz.t167 := ⟨by kernel_rfl⟩
instance : Und Tryz.prog 171 (.struct #[{ name := "l", type := 169, offset := 0, embedded := false, tag := "", pkgPath := "burrow/burrowlaw01", byteOffset := 0 }, { name := "long", type := 169, offset := 1, embedded := false, tag := "", pkgPath := "burrow/burrowlaw01", byteOffset := 24 }, { name := "n", type := 3, offset := 2, embedded := false, tag := "", pkgPath := "burrow/burrowlaw01", byteOffset := 48 }]) := ⟨Tryz.underlying171⟩
instance : Sz Tryz.prog 171 3 := ⟨Tryz.sizeOf171⟩
instance : Ag Tryz.prog 171 true := ⟨Tryz.isAgg171⟩
instance : Zv Tryz.prog 171 [.one .nils, .one .nils, .one (.int .i64 0)] := ⟨_, Tryz.zeroValue171, by kernel_rfl⟩
instance : FldC Tryz.prog 171 0 0 := ⟨_, _, _, Tryz.underlying171, rfl, Tryz.sizeOf169, by decide, rfl⟩
instance : FldC Tryz.prog 171 1 1 := ⟨_, _, _, Tryz.underlying171, rfl, Tryz.sizeOf169, by decide, rfl⟩
instance : FldC Tryz.prog 171 2 2 := ⟨_, _, _, Tryz.underlying171, rfl, Tryz.sizeOf3, by decide, rfl⟩
instance : Pl Tryz.prog 171 #[(0, 1), (1, 1), (2, 1)] := ⟨_, Tryz.underlying171, fun w => by kernel_rfl⟩
instance : Inf Tryz.prog 171 Tryz.t171 := ⟨by kernel_rfl⟩
instance : Und Tryz.prog 175 (.struct #[{ name := "l", type := 173, offset := 0, embedded := false, tag := "", pkgPath := "burrow/burrowlaw01", byteOffset := 0 }, { name := "long", type := 173, offset := 1, embedded := false, tag := "", pkgPath := "burrow/burrowlaw01", byteOffset := 24 }, { name := "n", type := 3, offset := 2, embedded := false, tag := "", pkgPath := "burrow/burrowlaw01", byteOffset := 48 }]) := ⟨Tryz.underlying175⟩
instance : Sz Tryz.prog 175 3 := ⟨Tryz.sizeOf175⟩
instance : Ag Tryz.prog 175 true := ⟨Tryz.isAgg175⟩
instance : Zv Tryz.prog 175 [.one .nils, .one .nils, .one (.int .i64 0)] := ⟨_, Tryz.zeroValue175, by kernel_rfl⟩
instance : FldC Tryz.prog 175 0 0 := ⟨_, _, _, Tryz.underlying175, rfl, Tryz.sizeOf173, by decide, rfl⟩
instance : FldC Tryz.prog 175 1 1 := ⟨_, _, _, Tryz.underlying175, rfl, Tryz.sizeOf173, by decide, rfl⟩
instance : FldC Tryz.prog 175 2 2 := ⟨_, _, _, Tryz.underlying175, rfl, Tryz.sizeOf3, by decide, rfl⟩
instance : Pl Tryz.prog 175 #[(0, 1), (1, 1), (2, 1)] := ⟨_, Tryz.underlying175, fun w => by kernel_rfl⟩
instance : Inf Tryz.prog 175 Tryz.t175 := ⟨by kernel_rfl⟩
instance : Und Tryz.prog 177 (.slice 181) := ⟨Tryz.underlying177⟩
instance : Sz Tryz.prog 177 1 := ⟨Tryz.sizeOf177⟩
instance : Ag Tryz.prog 177 false := ⟨Tryz.isAgg177⟩
instance : Zv Tryz.prog 177 [.one .nils] := ⟨_, Tryz.zeroValue177, by kernel_rfl⟩
instance : Zn Tryz.prog 177 := ⟨Tryz.zeroValue177⟩
instance : Inf Tryz.prog 177 Tryz.t177 := ⟨by kernel_rfl⟩
instance : Und Tryz.prog 179 (.struct #[{ name := "l", type := 177, offset := 0, embedded := false, tag := "", pkgPath := "burrow/burrowlaw01", byteOffset := 0 }, { name := "long", type := 177, offset := 1, embedded := false, tag := "", pkgPath := "burrow/burrowlaw01", byteOffset := 24 }, { name := "n", type := 3, offset := 2, embedded := false, tag := "", pkgPath := "burrow/burrowlaw01", byteOffset := 48 }]) := ⟨Tryz.underlying179⟩
instance : Sz Tryz.prog 179 3 := ⟨Tryz.sizeOf179⟩
instance : Ag Tryz.prog 179 true := ⟨Tryz.isAgg179⟩
instance : Zv Tryz.prog 179 [.one .nils, .one .nils, .one (.int .i64 0)] := ⟨_, Tryz.zeroValue179, by kernel_rfl⟩
instance : FldC Tryz.prog 179 0 0 := ⟨_, _, _, Tryz.underlying179, rfl, Tryz.sizeOf177, by decide, rfl⟩
instance : FldC Tryz.prog 179 1 1 := ⟨_, _, _, Tryz.underlying179, rfl, Tryz.sizeOf177, by decide, rfl⟩
instance : FldC Tryz.prog 179 2 2 := ⟨_, _, _, Tryz.underlying179, rfl, Tryz.sizeOf3, by decide, rfl⟩
instance : Pl Tryz.prog 179 #[(0, 1), (1, 1), (2, 1)] := ⟨_, Tryz.underlying179, fun w => by kernel_rfl⟩
instance : Inf Tryz.prog 179 Tryz.t179 := ⟨by kernel_rfl⟩
instance : Und Tryz.prog 181 (.struct #[{ name := "Type", type := 84, offset := 0, embedded := false, tag := "", pkgPath := "", byteOffset := 0 }, { name := "Body", type := 23, offset := 1, embedded := false, tag := "", pkgPath := "", byteOffset := 8 }]) := ⟨Tryz.underlying181⟩
instance : Sz Tryz.prog 181 2 := ⟨Tryz.sizeOf181⟩
instance : Ag Tryz.prog 181 true := ⟨Tryz.isAgg181⟩
instance : Zv Tryz.prog 181 [.one (.int .u16 0), .one .nils] := ⟨_, Tryz.zeroValue181, by kernel_rfl⟩
instance : FldC Tryz.prog 181 0 0 := ⟨_, _, _, Tryz.underlying181, rfl, Tryz.sizeOf84, by decide, rfl⟩
instance : FldC Tryz.prog 181 1 1 := ⟨_, _, _, Tryz.underlying181, rfl, Tryz.sizeOf23, by decide, rfl⟩
instance : Pl Tryz.prog 181 #[(0, 1), (1, 1)] := ⟨_, Tryz.underlying181, fun w => by kernel_rfl⟩
instance : Inf Tryz.prog 181 Tryz.t181 := ⟨by kernel_rfl⟩
instance : Und Tryz.prog 183 (.slice 188) := ⟨Tryz.underlying183⟩
instance : Sz Tryz.prog 183 1 := ⟨Tryz.sizeOf183⟩
instance : Ag Tryz.prog 183 false := ⟨Tryz.isAgg183⟩
instance : Zv Tryz.prog 183 [.one .nils] := ⟨_, Tryz.zeroValue183, by kernel_rfl⟩
instance : Zn Tryz.prog 183 := ⟨Tryz.zeroValue183⟩
instance : Inf Tryz.prog 183 Tryz.t183 := ⟨by kernel_rfl⟩
instance : Und Tryz.prog 185 (.struct #[{ name := "l", type := 183, offset := 0, embedded := false, tag := "", pkgPath := "burrow/burrowlaw01", byteOffset := 0 }, { name := "long", type := 183, offset := 1, embedded := false, tag := "", pkgPath := "burrow/burrowlaw01", byteOffset := 24 }, { name := "n", type := 3, offset := 2, embedded := false, tag := "", pkgPath := "burrow/burrowlaw01", byteOffset := 48 }]) := ⟨Tryz.underlying185⟩
instance : Sz Tryz.prog 185 3 := ⟨Tryz.sizeOf185⟩
instance : Ag Tryz.prog 185 true := ⟨Tryz.isAgg185⟩
instance : Zv Tryz.prog 185 [.one .nils, .one .nils, .one (.int .i64 0)] := ⟨_, Tryz.zeroValue185, by kernel_rfl⟩
instance : FldC Tryz.prog 185 0 0 := ⟨_, _, _, Tryz.underlying185, rfl, Tryz.sizeOf183, by decide, rfl⟩
instance : FldC Tryz.prog 185 1 1 := ⟨_, _, _, Tryz.underlying185, rfl, Tryz.sizeOf183, by decide, rfl⟩
instance : FldC Tryz.prog 185 2 2 := ⟨_, _, _, Tryz.underlying185, rfl, Tryz.sizeOf3, by decide, rfl⟩
instance : Pl Tryz.prog 185 #[(0, 1), (1, 1), (2, 1)] := ⟨_, Tryz.underlying185, fun w => by kernel_rfl⟩
instance : Inf Tryz.prog 185 Tryz.t185 := ⟨by kernel_rfl⟩
instance : Und Tryz.prog 186 (.int .u8) := ⟨Tryz.underlying186⟩
instance : Sz Tryz.prog 186 1 := ⟨Tryz.sizeOf186⟩
instance : Ag Tryz.prog 186 false := ⟨Tryz.isAgg186⟩
instance : Zv Tryz.prog 186 [.one (.int .u8 0)] := ⟨_, Tryz.zeroValue186, by kernel_rfl⟩
instance : Zi Tryz.prog 186 .u8 := ⟨Tryz.zeroValue186⟩
instance : Inf Tryz.prog 186 Tryz.t186 := ⟨by kernel_rfl⟩
instance : Und Tryz.prog 188 (.struct #[{ name := "Kind", type := 186, offset := 0, embedded := false, tag := "", pkgPath := "", byteOffset := 0 }, { name := "From", type := 162, offset := 1, embedded := false, tag := "", pkgPath := "", byteOffset := 1 }, { name := "To", type := 162, offset := 17, embedded := false, tag := "", pkgPath := "", byteOffset := 17 }, { name := "Params", type := 177, offset := 33, embedded := false, tag := "", pkgPath := "", byteOffset := 40 }]) := ⟨Tryz.underlying188⟩
instance : Sz Tryz.prog 188 34 := ⟨Tryz.sizeOf188⟩
instance : Ag Tryz.prog 188 true := ⟨Tryz.isAgg188⟩
instance : Zv Tryz.prog 188 [.one (.int .u8 0), .ints .u8 16 (zs (List.replicate 16 0)), .ints .u8 16 (zs (List.replicate 16 0)), .one .nils] := ⟨_, Tryz.zeroValue188, by kernel_rfl⟩
instance : FldC Tryz.prog 188 0 0 := ⟨_, _, _, Tryz.underlying188, rfl, Tryz.sizeOf186, by decide, rfl⟩
instance : FldC Tryz.prog 188 1 1 := ⟨_, _, _, Tryz.underlying188, rfl, Tryz.sizeOf162, by decide, rfl⟩
instance : FldC Tryz.prog 188 2 17 := ⟨_, _, _, Tryz.underlying188, rfl, Tryz.sizeOf162, by decide, rfl⟩
instance : FldC Tryz.prog 188 3 33 := ⟨_, _, _, Tryz.underlying188, rfl, Tryz.sizeOf177, by decide, rfl⟩
instance : Pl Tryz.prog 188 #[(0, 1), (1, 16), (17, 16), (33, 1)] := ⟨_, Tryz.underlying188, fun w => by kernel_rfl⟩
instance : Inf Tryz.prog 188 Tryz.t188 := ⟨by kernel_rfl⟩
instance : Und Tryz.prog 190 (.slice 194) := ⟨Tryz.underlying190⟩
instance : Sz Tryz.prog 190 1 := ⟨Tryz.sizeOf190⟩
instance : Ag Tryz.prog 190 false := ⟨Tryz.isAgg190⟩
instance : Zv Tryz.prog 190 [.one .nils] := ⟨_, Tryz.zeroValue190, by kernel_rfl⟩
instance : Zn Tryz.prog 190 := ⟨Tryz.zeroValue190⟩
instance : Inf Tryz.prog 190 Tryz.t190 := ⟨by kernel_rfl⟩
instance : Und Tryz.prog 192 (.struct #[{ name := "l", type := 190, offset := 0, embedded := false, tag := "", pkgPath := "burrow/burrowlaw01", byteOffset := 0 }, { name := "long", type := 190, offset := 1, embedded := false, tag := "", pkgPath := "burrow/burrowlaw01", byteOffset := 24 }, { name := "n", type := 3, offset := 2, embedded := false, tag := "", pkgPath := "burrow/burrowlaw01", byteOffset := 48 }]) := ⟨Tryz.underlying192⟩
instance : Sz Tryz.prog 192 3 := ⟨Tryz.sizeOf192⟩
instance : Ag Tryz.prog 192 true := ⟨Tryz.isAgg192⟩
instance : Zv Tryz.prog 192 [.one .nils, .one .nils, .one (.int .i64 0)] := ⟨_, Tryz.zeroValue192, by kernel_rfl⟩
instance : FldC Tryz.prog 192 0 0 := ⟨_, _, _, Tryz.underlying192, rfl, Tryz.sizeOf190, by decide, rfl⟩
instance : FldC Tryz.prog 192 1 1 := ⟨_, _, _, Tryz.underlying192, rfl, Tryz.sizeOf190, by decide, rfl⟩
instance : FldC Tryz.prog 192 2 2 := ⟨_, _, _, Tryz.underlying192, rfl, Tryz.sizeOf3, by decide, rfl⟩
instance : Pl Tryz.prog 192 #[(0, 1), (1, 1), (2, 1)] := ⟨_, Tryz.underlying192, fun w => by kernel_rfl⟩
instance : Inf Tryz.prog 192 Tryz.t192 := ⟨by kernel_rfl⟩
instance : Und Tryz.prog 194 (.struct #[{ name := "From", type := 167, offset := 0, embedded := false, tag := "", pkgPath := "", byteOffset := 0 }, { name := "To", type := 167, offset := 1, embedded := false, tag := "", pkgPath := "", byteOffset := 4 }, { name := "B", type := 23, offset := 2, embedded := false, tag := "", pkgPath := "", byteOffset := 8 }]) := ⟨Tryz.underlying194⟩
instance : Sz Tryz.prog 194 3 := ⟨Tryz.sizeOf194⟩
instance : Ag Tryz.prog 194 true := ⟨Tryz.isAgg194⟩
instance : Zv Tryz.prog 194 [.one (.int .u32 0), .one (.int .u32 0), .one .nils] := ⟨_, Tryz.zeroValue194, by kernel_rfl⟩
instance : FldC Tryz.prog 194 0 0 := ⟨_, _, _, Tryz.underlying194, rfl, Tryz.sizeOf167, by decide, rfl⟩
instance : FldC Tryz.prog 194 1 1 := ⟨_, _, _, Tryz.underlying194, rfl, Tryz.sizeOf167, by decide, rfl⟩
instance : FldC Tryz.prog 194 2 2 := ⟨_, _, _, Tryz.underlying194, rfl, Tryz.sizeOf23, by decide, rfl⟩
instance : Pl Tryz.prog 194 #[(0, 1), (1, 1), (2, 1)] := ⟨_, Tryz.underlying194, fun w => by kernel_rfl⟩
instance : Inf Tryz.prog 194 Tryz.t194 := ⟨by kernel_rfl⟩
instance : Und Tryz.prog 196 (.slice 200) := ⟨Tryz.underlying196⟩
instance : Sz Tryz.prog 196 1 := ⟨Tryz.sizeOf196⟩
instance : Ag Tryz.prog 196 false := ⟨Tryz.isAgg196⟩
instance : Zv Tryz.prog 196 [.one .nils] := ⟨_, Tryz.zeroValue196, by kernel_rfl⟩
instance : Zn Tryz.prog 196 := ⟨Tryz.zeroValue196⟩
instance : Inf Tryz.prog 196 Tryz.t196 := ⟨by kernel_rfl⟩
instance : Und Tryz.prog 198 (.struct #[{ name := "l", type := 196, offset := 0, embedded := false, tag := "", pkgPath := "burrow/burrowlaw01", byteOffset := 0 }, { name := "long", type := 196, offset := 1, embedded := false, tag := "", pkgPath := "burrow/burrowlaw01", byteOffset := 24 }, { name := "n", type := 3, offset := 2, embedded := false, tag := "", pkgPath := "burrow/burrowlaw01", byteOffset := 48 }]) := ⟨Tryz.underlying198⟩
instance : Sz Tryz.prog 198 3 := ⟨Tryz.sizeOf198⟩
instance : Ag Tryz.prog 198 true := ⟨Tryz.isAgg198⟩
instance : Zv Tryz.prog 198 [.one .nils, .one .nils, .one (.int .i64 0)] := ⟨_, Tryz.zeroValue198, by kernel_rfl⟩
instance : FldC Tryz.prog 198 0 0 := ⟨_, _, _, Tryz.underlying198, rfl, Tryz.sizeOf196, by decide, rfl⟩
instance : FldC Tryz.prog 198 1 1 := ⟨_, _, _, Tryz.underlying198, rfl, Tryz.sizeOf196, by decide, rfl⟩
instance : FldC Tryz.prog 198 2 2 := ⟨_, _, _, Tryz.underlying198, rfl, Tryz.sizeOf3, by decide, rfl⟩
instance : Pl Tryz.prog 198 #[(0, 1), (1, 1), (2, 1)] := ⟨_, Tryz.underlying198, fun w => by kernel_rfl⟩
instance : Inf Tryz.prog 198 Tryz.t198 := ⟨by kernel_rfl⟩
instance : Und Tryz.prog 200 (.struct #[{ name := "From", type := 162, offset := 0, embedded := false, tag := "", pkgPath := "", byteOffset := 0 }, { name := "ID", type := 51, offset := 16, embedded := false, tag := "", pkgPath := "", byteOffset := 16 }, { name := "Num", type := 47, offset := 48, embedded := false, tag := "", pkgPath := "", byteOffset := 48 }, { name := "B", type := 23, offset := 49, embedded := false, tag := "", pkgPath := "", byteOffset := 56 }]) := ⟨Tryz.underlying200⟩
instance : Sz Tryz.prog 200 50 := ⟨Tryz.sizeOf200⟩
instance : Ag Tryz.prog 200 true := ⟨Tryz.isAgg200⟩
instance : Zv Tryz.prog 200 [.ints .u8 16 (zs (List.replicate 16 0)), .ints .u8 32 (zs (List.replicate 32 0)), .one (.int .u64 0), .one .nils] := ⟨_, Tryz.zeroValue200, by kernel_rfl⟩
instance : FldC Tryz.prog 200 0 0 := ⟨_, _, _, Tryz.underlying200, rfl, Tryz.sizeOf162, by decide, rfl⟩
instance : FldC Tryz.prog 200 1 16 := ⟨_, _, _, Tryz.underlying200, rfl, Tryz.sizeOf51, by decide, rfl⟩
instance : FldC Tryz.prog 200 2 48 := ⟨_, _, _, Tryz.underlying200, rfl, Tryz.sizeOf47, by decide, rfl⟩
instance : FldC Tryz.prog 200 3 49 := ⟨_, _, _, Tryz.underlying200, rfl, Tryz.sizeOf23, by decide, rfl⟩
instance : Pl Tryz.prog 200 #[(0, 16), (16, 32), (48, 1), (49, 1)] := ⟨_, Tryz.underlying200, fun w => by kernel_rfl⟩
instance : Inf Tryz.prog 200 Tryz.t200 := ⟨by kernel_rfl⟩
instance : Und Tryz.prog 202 (.slice 206) := ⟨Tryz.underlying202⟩
instance : Sz Tryz.prog 202 1 := ⟨Tryz.sizeOf202⟩
instance : Ag Tryz.prog 202 false := ⟨Tryz.isAgg202⟩
instance : Zv Tryz.prog 202 [.one .nils] := ⟨_, Tryz.zeroValue202, by kernel_rfl⟩
instance : Zn Tryz.prog 202 := ⟨Tryz.zeroValue202⟩
instance : Inf Tryz.prog 202 Tryz.t202 := ⟨by kernel_rfl⟩
instance : Und Tryz.prog 204 (.struct #[{ name := "l", type := 202, offset := 0, embedded := false, tag := "", pkgPath := "burrow/burrowlaw01", byteOffset := 0 }, { name := "long", type := 202, offset := 1, embedded := false, tag := "", pkgPath := "burrow/burrowlaw01", byteOffset := 24 }, { name := "n", type := 3, offset := 2, embedded := false, tag := "", pkgPath := "burrow/burrowlaw01", byteOffset := 48 }]) := ⟨Tryz.underlying204⟩
instance : Sz Tryz.prog 204 3 := ⟨Tryz.sizeOf204⟩
instance : Ag Tryz.prog 204 true := ⟨Tryz.isAgg204⟩
instance : Zv Tryz.prog 204 [.one .nils, .one .nils, .one (.int .i64 0)] := ⟨_, Tryz.zeroValue204, by kernel_rfl⟩
instance : FldC Tryz.prog 204 0 0 := ⟨_, _, _, Tryz.underlying204, rfl, Tryz.sizeOf202, by decide, rfl⟩
instance : FldC Tryz.prog 204 1 1 := ⟨_, _, _, Tryz.underlying204, rfl, Tryz.sizeOf202, by decide, rfl⟩
instance : FldC Tryz.prog 204 2 2 := ⟨_, _, _, Tryz.underlying204, rfl, Tryz.sizeOf3, by decide, rfl⟩
instance : Pl Tryz.prog 204 #[(0, 1), (1, 1), (2, 1)] := ⟨_, Tryz.underlying204, fun w => by kernel_rfl⟩
instance : Inf Tryz.prog 204 Tryz.t204 := ⟨by kernel_rfl⟩
instance : Und Tryz.prog 206 (.struct #[{ name := "ID", type := 51, offset := 0, embedded := false, tag := "", pkgPath := "", byteOffset := 0 }, { name := "Peer", type := 162, offset := 32, embedded := false, tag := "", pkgPath := "", byteOffset := 32 }, { name := "Epoch", type := 62, offset := 48, embedded := false, tag := "", pkgPath := "", byteOffset := 48 }, { name := "Out", type := 58, offset := 49, embedded := false, tag := "", pkgPath := "", byteOffset := 52 }, { name := "In", type := 58, offset := 97, embedded := false, tag := "", pkgPath := "", byteOffset := 100 }, { name := "Say", type := 51, offset := 145, embedded := false, tag := "", pkgPath := "", byteOffset := 148 }, { name := "Hear", type := 51, offset := 177, embedded := false, tag := "", pkgPath := "", byteOffset := 180 }]) := ⟨Tryz.underlying206⟩
instance : Sz Tryz.prog 206 209 := ⟨Tryz.sizeOf206⟩
instance : Ag Tryz.prog 206 true := ⟨Tryz.isAgg206⟩
instance : Zv Tryz.prog 206 [.ints .u8 32 (zs (List.replicate 32 0)), .ints .u8 16 (zs (List.replicate 16 0)), .one (.int .u32 0), .ints .u8 32 (zs (List.replicate 32 0)), .ints .u8 16 (zs (List.replicate 16 0)), .ints .u8 32 (zs (List.replicate 32 0)), .ints .u8 16 (zs (List.replicate 16 0)), .ints .u8 32 (zs (List.replicate 32 0)), .ints .u8 32 (zs (List.replicate 32 0))] := ⟨_, Tryz.zeroValue206, by kernel_rfl⟩
instance : FldC Tryz.prog 206 0 0 := ⟨_, _, _, Tryz.underlying206, rfl, Tryz.sizeOf51, by decide, rfl⟩
instance : FldC Tryz.prog 206 1 32 := ⟨_, _, _, Tryz.underlying206, rfl, Tryz.sizeOf162, by decide, rfl⟩
instance : FldC Tryz.prog 206 2 48 := ⟨_, _, _, Tryz.underlying206, rfl, Tryz.sizeOf62, by decide, rfl⟩
instance : FldC Tryz.prog 206 3 49 := ⟨_, _, _, Tryz.underlying206, rfl, Tryz.sizeOf58, by decide, rfl⟩
instance : FldC Tryz.prog 206 4 97 := ⟨_, _, _, Tryz.underlying206, rfl, Tryz.sizeOf58, by decide, rfl⟩
instance : FldC Tryz.prog 206 5 145 := ⟨_, _, _, Tryz.underlying206, rfl, Tryz.sizeOf51, by decide, rfl⟩
instance : FldC Tryz.prog 206 6 177 := ⟨_, _, _, Tryz.underlying206, rfl, Tryz.sizeOf51, by decide, rfl⟩
instance : Pl Tryz.prog 206 #[(0, 32), (32, 16), (48, 1), (49, 48), (97, 48), (145, 32), (177, 32)] := ⟨_, Tryz.underlying206, fun w => by kernel_rfl⟩
instance : Inf Tryz.prog 206 Tryz.t206 := ⟨by kernel_rfl⟩
instance : Und Tryz.prog 209 (.struct #[{ name := "l", type := 83, offset := 0, embedded := false, tag := "", pkgPath := "burrow/burrowlaw01", byteOffset := 0 }, { name := "long", type := 83, offset := 1, embedded := false, tag := "", pkgPath := "burrow/burrowlaw01", byteOffset := 24 }, { name := "n", type := 3, offset := 2, embedded := false, tag := "", pkgPath := "burrow/burrowlaw01", byteOffset := 48 }]) := ⟨Tryz.underlying209⟩
instance : Sz Tryz.prog 209 3 := ⟨Tryz.sizeOf209⟩
instance : Ag Tryz.prog 209 true := ⟨Tryz.isAgg209⟩
instance : Zv Tryz.prog 209 [.one .nils, .one .nils, .one (.int .i64 0)] := ⟨_, Tryz.zeroValue209, by kernel_rfl⟩
instance : FldC Tryz.prog 209 0 0 := ⟨_, _, _, Tryz.underlying209, rfl, Tryz.sizeOf83, by decide, rfl⟩
instance : FldC Tryz.prog 209 1 1 := ⟨_, _, _, Tryz.underlying209, rfl, Tryz.sizeOf83, by decide, rfl⟩
instance : FldC Tryz.prog 209 2 2 := ⟨_, _, _, Tryz.underlying209, rfl, Tryz.sizeOf3, by decide, rfl⟩
instance : Pl Tryz.prog 209 #[(0, 1), (1, 1), (2, 1)] := ⟨_, Tryz.underlying209, fun w => by kernel_rfl⟩
instance : Inf Tryz.prog 209 Tryz.t209 := ⟨by kernel_rfl⟩
end Go.Proofs.X
end

section
/- Structs with memory of their own put behind others. No program. -/
open Go
namespace Go.Bx
theorem Joins.app {l sub : List Seg} {n m : Nat} (h1 : sizeS l = n) (h2 : sizeS sub = m) : Joins l n sub m (l ++ sub) := by
  subst h1; subst h2
  refine ⟨sizeS_append _ _, fun i y hy => ?_⟩
  rw [atS_append] at hy
  refine ⟨fun hi => ⟨y, ?_, .inl rfl⟩, fun hi => ⟨y, ?_, .inl rfl⟩⟩
  · rwa [if_pos hi] at hy
  · rwa [if_neg (by omega)] at hy
theorem row_mid {pre post : List Seg} {y y' : SV} {ρ : Rho} {get : Nat → Option Value} (h : ∀ v, y.rep ρ v → y'.rep ρ v) (hr : RowRep ρ (pre ++ .one y :: post) get) : RowRep ρ (pre ++ .one y' :: post) get := fun i x hx => by
  have hc : ∀ z : SV, ∀ j, atS (.one z :: post) j = if j < 1 then some z else atS post (j - 1) := fun z j => rfl
  rw [atS_append, hc] at hx
  by_cases h1 : i < sizeS pre
  · rw [if_pos h1] at hx
    exact hr i x (by rw [atS_append, if_pos h1]; exact hx)
  · rw [if_neg h1] at hx
    by_cases h2 : i - sizeS pre < 1
    · rw [if_pos h2] at hx
      obtain rfl := Option.some.inj hx
      obtain ⟨v, k1, k2, k3⟩ := hr i y (by rw [atS_append, if_neg h1, hc, if_pos h2])
      exact ⟨v, k1, h v k2, k3⟩
    · rw [if_neg h2] at hx
      exact hr i x (by rw [atS_append, if_neg h1, hc, if_neg h2]; exact hx)
theorem row_groM {pre post : List Seg} {n wd : Nat} {ρ : Rho} {get : Nat → Option Value} (hr : RowRep ρ (pre ++ .one .nils :: post) get) : RowRep ρ (pre ++ .one (.gro n wd 0) :: post) get := row_mid (y := .nils) (fun _ h => .inl ⟨rfl, h⟩) hr
section
variable {P : Program} {T : Tm} {H : Heap} {d : Option Tmp} {ty : TypeId} {pos : String} {af : Array Edge} {g : Option (Nat × Bool)}
theorem k_bs1 {t e : TypeId} {n0 w : Nat} {parts : Array (Nat × Operand)} {ps : List (Nat × Operand)} {l : List (Nat × AV)} {Z row : List Seg} {H' : Heap} [hu : Und P t (.slice e)] [he : Sz P e w] [hz : Zv P e Z] [hN : LenN H n0] (hps : parts.toList = ps := by rfl) (hl : PartL T ps l := by exact (pc (k := .nil))) (hbig : 1 * w ≤ 16777216 := by exact Nat.le_of_ble_eq_true rfl) (hZn : sizeS Z = w := by rfl) (hs : fillS (fun i => some (i * w, w)) (List.replicate 1 Z).flatten l = some row := by exact rfl) (h0 : 0 < 1 * w := by exact Nat.le_of_ble_eq_true rfl) (hH : H ++ [some (Blk.mk true row)] = H' := by repeat (first | exact happ_0 | apply happ_s)) : LOk P ⟨d, .buildSlice t 1 parts, ty, pos, af, g⟩ T H H' (.s (.slice n0 0 0 1 1)) [] [] := by
  obtain ⟨z, hz1, hz2⟩ := hz.h
  have hzs : z.cells.size = w := by rw [(rowOk_rep hz2).1, hZn]
  have hZ1 : rowOk (List.replicate 1 Z).flatten ((Array.range (1 * w)).map fun i => z.cells[i % z.cells.size]!) = true := by
    have := range_rep z.cells 1
    rw [hzs] at this
    rw [hzs, this]
    exact rowOk_rep_n hz2 1
  exact l_bsl hps hl hu.h he.h hbig hz1 hZ1 hs h0 (fun ρ get h => h) hN.h hH
theorem k_ap1 {x y : Operand} {t tx e rt : TypeId} {id id2 n c w n0 : Nat} {b2 : Bool} {segs row segs' : List Seg} {inf : TypeInfo} {z : Value} {H1 H' : Heap} [hu : Und P t (.slice e)] [hux : Und P tx (.slice e)] [hi : Inf P e inf] [hN : LenN H n0] (hx : ev T x = .s (.gro id w n) := by rfl) (hy : ev T y = .s (.slice id2 0 0 1 1) := by rfl) (hb : hget H id = some ⟨true, segs⟩ := by rfl) (hb2 : hget H id2 = some ⟨b2, row⟩ := by rfl) (hsz : inf.size = w := by exact rfl) (hz : inf.zero = some z := by exact rfl) (hzs : z.cells.size = w := by exact rfl) (hs1 : sizeS segs = n * w := by exact rfl) (hs2 : sizeS row = 1 * w := by exact rfl) (hc : n + 1 = c := by exact rfl) (hbig : n + 1 ≤ 1000000 := by exact Nat.le_of_ble_eq_true rfl) (hbb : Nat.ble (1000000 * inf.bytes) 140737488355328 = true := by exact rfl) (hb1 : 0 < inf.bytes := by exact Nat.le_of_ble_eq_true rfl) (hr : segs ++ row = segs' := by exact rfl) (hH1 : H.set id none = H1 := by repeat (first | exact hset_0 | apply hset_s)) (hH : H1 ++ [some (Blk.mk true segs')] = H' := by repeat (first | exact happ_0 | apply happ_s)) :
    LOk P ⟨d, .call ⟨.builtin .append, #[x, y], #[t, tx]⟩, rt, pos, af, g⟩ T H H' (.s (.gro n0 w c)) [id, id2] [id] := by
  subst hc; subst hr; subst hH1
  exact a_app (sub := row) hx hy hb hsz hz hzs (asrc_sl hux.h hb2 (.whole hs2)) (by omega) (.app hs1 hs2) (big_ok hbig hbb) hb1 (fun i hi => by simp at hi; subst hi; exact hget_lt hb2) hN.h hH
theorem k_ixG (q : Nat) (j' : Nat) {t e : TypeId} {x i : Operand} {id wd len sz : Nat} {k : IntKind} {j : Int} [hu : Und P t (.slice e)] [hs : Sz P e sz] (hx : ev T x = .s (.gro id wd len) := by rfl) (hi : ev T i = .s (.int k j) := by rfl) (hj : j = (j' : Int) := by rfl) (h1 : j' < len := by exact Nat.le_of_ble_eq_true rfl) (hq : j' * sz = q := by rfl) : LOk P ⟨d, .indexAddr t x i, ty, pos, af, g⟩ T H H (.s (.ptr id q 0)) [] [] :=
  (l_ixg hx hi hu.h hs.h (by rw [hj]; omega) (by rw [hj]; omega) rfl).conv (R := []) (fun _ W ρ w u _ _ h => by
    subst hq; subst hj
    obtain ⟨b, o, h1, h2⟩ := h
    exact ⟨b, o, h1, by rw [h2, Int.toNat_natCast]; simp [Nat.add_assoc]⟩) (fun _ h => by cases h)
end
end Go.Bx
end

section
/- A block that may be written, told as a value for one call's time; the call gives new memory. No program. -/
namespace Go.Bx
theorem msk_appN (F : List Nat) (H N : Heap) : msk F H.length (H ++ N) = msk F H.length H ++ N := by
  unfold msk
  rw [List.mapIdx_append]
  congr 1
  apply List.ext_getElem?
  intro i
  rw [List.getElem?_mapIdx]
  cases h : N[i]? with
  | none => rfl
  | some k => simp
def newOk (N : Heap) : Bool := N.all fun | some b => b.rw && b.segs.all Seg.plainB | none => true
theorem newOk_at {N : Heap} (h : newOk N = true) {j : Nat} {b : Blk} (hb : hget N j = some b) : b.rw = true ∧ b.segs.all Seg.plainB = true := by
  have hlt := hget_lt hb
  have hm : some b ∈ N := by
    unfold hget at hb
    rw [List.getElem?_eq_getElem hlt] at hb
    have hb : N[j] = some b := hb
    rw [← hb]; exact List.getElem_mem hlt
  have := List.all_eq_true.1 h _ hm
  simpa [Bool.and_eq_true] using this
theorem lok_tmpN {P : Program} {o : Oper} {T : Tm} {H N : Heap} {v : AV} {F : List Nat} (id : Nat) {segs : List Seg} (hb : hget H id = some ⟨true, segs⟩) (h : LOk P o T (H.set id (some ⟨false, segs⟩)) (H.set id (some ⟨false, segs⟩) ++ N) v F []) (hF : id ∈ F) (ho : othersOk H id F = true) (hN : newOk N = true) (hv : v.plainB = true) : LOk P o T H (H ++ N) v F [] := by
  have hlt := hget_lt hb
  refine ⟨by simp, fun j hj _ => by rw [hget_app, if_pos hj], fun _ h => (by cases h), fun j hj => by have := h.lt j hj; simpa using this, ?_⟩
  have hrun := h.run
  have hls : (H.set id (some ⟨false, segs⟩)).length = H.length := List.length_set
  rw [msk_appN, hls, msk_set _ _ _ hF] at hrun
  rw [msk_appN]
  have hbm : hget (msk F H.length H) id = some ⟨true, segs⟩ := by rw [hget_msk, if_pos (.inl hF)]; exact hb
  have hom : ∀ j b, j ≠ id → hget (msk F H.length H) j = some b → b.rw = false ∨ b.segs.all Seg.plainB = true := by
    intro j b hj hg
    rw [hget_msk] at hg
    split at hg
    · rename_i h1
      rcases h1 with h1 | h1
      · exact othersOk_at ho h1 hj hg
      · have := hget_lt hg; omega
    · cases hg
  generalize hH0 : msk F H.length H = H0 at *
  clear h hb hlt hls ho
  have hlt0 := hget_lt hbm
  have hls0 : (H0.set id (some ⟨false, segs⟩)).length = H0.length := List.length_set
  have hg' : ∀ j k, j ≠ id → hget (H0 ++ N) j = some k → hget (H0.set id (some ⟨false, segs⟩) ++ N) j = some k := by
    intro j k hj e
    rw [hget_app] at e ⊢
    rw [hls0]
    split
    · rename_i h1
      rw [if_pos h1] at e
      rw [hget_set hlt0, if_neg hj]; exact e
    · rename_i h1
      rw [if_neg h1] at e; exact e
  intro W ρ a w hH hn hW hops next Q hq
  cases hm : ρ.m id with
  | none =>
    have hHf : HRep W ρ (hget (H0.set id (some ⟨false, segs⟩))) w := by
      refine ⟨hH.lt, fun j b o k e1 e2 => ?_, fun j j' b o o' k k' hne e1 e2 e3 e4 => ?_, hH.fz, hH.sz⟩
      · rw [hget_set hlt0] at e2
        by_cases hj : j = id
        · subst hj; rw [hm] at e1; cases e1
        · rw [if_neg hj] at e2; exact hH.rep j b o k e1 e2
      · rw [hget_set hlt0] at e3 e4
        by_cases hj : j = id
        · subst hj; rw [hm] at e1; cases e1
        · by_cases hj' : j' = id
          · subst hj'; rw [hm] at e2; cases e2
          · rw [if_neg hj] at e3; rw [if_neg hj'] at e4; exact hH.apart j j' b o o' k k' hne e1 e2 e3 e4
    refine hrun W ρ a w hHf (fun i a1 a2 => hn i (by rwa [hls0] at a1) (by simpa using a2)) hW hops next Q ?_
    rintro v' w' ⟨ρ', W', k, hv'⟩
    have hnone : ρ'.m id = none := by
      cases h7 : ρ'.m id with
      | none => rfl
      | some x =>
        rcases k.old id x h7 with h8 | ⟨h8, _⟩
        · rw [hm] at h8; cases h8
        · rw [hls0] at h8; omega
    refine hq v' w' ⟨ρ', W', ⟨k.le, fun i x e => by have := k.old i x e; simpa [hls0] using this, ⟨k.rep.lt, fun j b o k' e1 e2 => ?_, fun j j' b o o' k1 k2 hne e1 e2 e3 e4 => ?_, k.rep.fz, k.rep.sz⟩, k.fr, k.sub, k.fresh, k.fzn⟩, hv'⟩
    · have hj : j ≠ id := by intro e; subst e; rw [hnone] at e1; cases e1
      exact k.rep.rep j b o k' e1 (hg' j k' hj e2)
    · have hj : j ≠ id := by intro e; subst e; rw [hnone] at e1; cases e1
      have hj' : j' ≠ id := by intro e; subst e; rw [hnone] at e2; cases e2
      exact k.rep.apart j j' b o o' k1 k2 hne e1 e2 (hg' j k1 hj e3) (hg' j' k2 hj' e4)
  | some x =>
    obtain ⟨b0, o0⟩ := x
    obtain ⟨hB0, hW0⟩ := hH.rep id b0 o0 _ hm hbm
    have hW0 := hW0 rfl
    have hnone : ρ.fz b0 = none := by
      cases h : ρ.fz b0 with
      | none => rfl
      | some c => exact absurd hW0 (hH.fz b0 c h).1
    obtain ⟨ρ1, W1, h1, h2, h3, h4, h5, h6⟩ := hrep_frz hH hbm hW
    have hf1 : ∃ cells, ρ1.fz b0 = some cells := by
      obtain ⟨⟨cells, t, fr, g1, g2, g3, g4⟩, _⟩ := h3.rep id b0 o0 ⟨false, segs⟩ (by rw [h2]; exact hm) (by rw [hget_set hlt0, if_pos rfl])
      exact ⟨cells, g3 rfl⟩
    obtain ⟨cells1, hf1⟩ := hf1
    have hnW1 : ¬ W1 b0 := (h3.fz b0 _ hf1).1
    refine hrun W1 ρ1 a w h3 (fun i a1 a2 => by rw [h2]; exact hn i (by rwa [hls0] at a1) (by simpa using a2)) h5 (fun x hx => AV.rep_le h1 (hops x hx)) next Q ?_
    rintro v' w' ⟨ρ', W', k, hv'⟩
    have hm1 : ∀ i x, ρ.m i = some x → ρ'.m i = some x := fun i x e => k.le.m i x (h1.m i x e)
    have hm2 : ∀ i x, ρ'.m i = some x → ρ.m i = some x ∨ (H0.length ≤ i ∧ i < (H0 ++ N).length ∧ W1 x.1) := fun i x e => by
      rcases k.old i x e with h7 | h7
      · rw [h2] at h7; exact .inl h7
      · right; simpa [hls0] using h7
    let ρ2 : Rho := ⟨ρ'.m, fun b => if b = b0 then none else ρ'.fz b, ρ'.sz⟩
    have hle2 : Rle ρ ρ2 := ⟨fun i x e => hm1 i x e, fun b x e => by
      show (if b = b0 then none else ρ'.fz b) = some x
      by_cases hbb : b = b0
      · subst hbb; rw [hnone] at e; cases e
      · rw [if_neg hbb]; exact k.le.fz b x (h1.fz b x e), fun b x e => k.le.sz b x (h1.sz b x e)⟩
    have hfz2 : ∀ b x, ρ2.fz b = some x → b ≠ b0 ∧ ρ'.fz b = some x := fun b x e => by
      have e : (if b = b0 then none else ρ'.fz b) = some x := e
      by_cases hbb : b = b0
      · rw [if_pos hbb] at e; cases e
      · rw [if_neg hbb] at e; exact ⟨hbb, e⟩
    have hsame : ∀ b, b < w.heap.size → ¬ W1 b → w'.heap[b]? = w.heap[b]? := fun b h7 h8 => k.fr.block b h7 h8
    have hold : ∀ j kk, j < H0.length → hget (H0 ++ N) j = some kk → hget H0 j = some kk := fun j kk hj e => by rwa [hget_app, if_pos hj] at e
    refine hq v' w' ⟨ρ2, fun b => W' b ∨ b = b0, ⟨hle2, fun i x e => (hm2 i x e).imp (fun q => q) fun ⟨q1, q2, q3⟩ => ⟨q1, q2, h4 _ q3⟩, ⟨fun j b o e => k.rep.lt j b o e, fun j b o kk e1 e2 => ?_, fun j j' b o o' k1 k2 hne e1 e2 e3 e4 => ?_, fun b cs e => ?_, k.rep.sz⟩, k.fr.mono h4, fun b hb => ?_, fun b hb => .inl (k.fresh b hb), fun b c e => ?_⟩, AV.rep_plain (ρ := ρ') (ρ' := ρ2) rfl rfl hv hv'⟩
    · have e1 : ρ'.m j = some (b, o) := e1
      rcases hm2 j _ e1 with e1' | ⟨hjn, hjn2, hjW⟩
      · by_cases hjl : j < H0.length
        · have e2 := hold j kk hjl e2
          by_cases hj : j = id
          · subst hj
            rw [hm] at e1'; cases e1'
            obtain ⟨q1, q2⟩ := hH.rep j b0 o0 kk hm e2
            exact ⟨(q1.world (hsame b0 (hH.lt _ _ _ hm) hnW1)).le hle2, fun _ => .inr rfl⟩
          · rcases hom j kk hj e2 with hk | hk
            · obtain ⟨q1, q2⟩ := hH.rep j b o kk e1' e2
              obtain ⟨cells, t, fr, g1, g2, g3, g4⟩ := q1
              have hnW : ¬ W1 b := fun h7 => (hH.fz b _ (g3 hk)).1 (h4 b h7)
              have q1 : BRep ρ kk w b o := ⟨cells, t, fr, g1, g2, g3, g4⟩
              exact ⟨(q1.world (hsame b (hH.lt _ _ _ e1') hnW)).le hle2, fun h7 => (by rw [hk] at h7; cases h7)⟩
            · obtain ⟨⟨cells, t, fr, g1, g2, g3, g4⟩, q2⟩ := k.rep.rep j b o kk e1 (hg' j kk hj (by rw [hget_app, if_pos hjl]; exact e2))
              refine ⟨⟨cells, t, fr, g1, g2, fun h7 => ?_, g4.plain (ρ := ρ') (ρ' := ρ2) rfl rfl hk⟩, fun h7 => .inl (q2 h7)⟩
              show (if b = b0 then none else ρ'.fz b) = some cells
              rw [if_neg ?_]; exact g3 h7
              intro e
              subst e
              have := (hH.apart j id b o o0 kk _ hj e1' hm e2 hbm).2
              cases this
        · exfalso
          have hjlt := hget_lt e2
          have := hn j (by omega) (by simpa using hjlt)
          rw [this] at e1'; cases e1'
      · have hj : j ≠ id := by omega
        obtain ⟨⟨cells, t, fr, g1, g2, g3, g4⟩, q2⟩ := k.rep.rep j b o kk e1 (hg' j kk hj e2)
        have e2N : hget N (j - H0.length) = some kk := by rwa [hget_app, if_neg (by omega)] at e2
        obtain ⟨n1, n2⟩ := newOk_at hN e2N
        exact ⟨⟨cells, t, fr, g1, g2, fun h7 => (by rw [n1] at h7; cases h7), g4.plain (ρ := ρ') (ρ' := ρ2) rfl rfl n2⟩, fun h7 => .inl (q2 h7)⟩
    · have e1 : ρ'.m j = some (b, o) := e1
      have e2 : ρ'.m j' = some (b, o') := e2
      by_cases hj : j = id
      · subst hj
        obtain ⟨rfl, rfl⟩ := Prod.mk.inj (Option.some.inj ((hm1 _ _ hm).symm.trans e1))
        rcases hm2 j' _ e2 with e2' | ⟨_, _, hw⟩
        · have hjl : j' < H0.length := by
            rcases Nat.lt_or_ge j' H0.length with h | h
            · exact h
            · have := hn j' h (hget_lt e4); rw [this] at e2'; cases e2'
          exact hH.apart j j' _ _ o' k1 k2 hne hm e2' (hold j k1 hlt0 e3) (hold j' k2 hjl e4)
        · exact absurd hw hnW1
      · by_cases hj' : j' = id
        · subst hj'
          obtain ⟨rfl, rfl⟩ := Prod.mk.inj (Option.some.inj ((hm1 _ _ hm).symm.trans e2))
          rcases hm2 j _ e1 with e1' | ⟨_, _, hw⟩
          · have hjl : j < H0.length := by
              rcases Nat.lt_or_ge j H0.length with h | h
              · exact h
              · have := hn j h (hget_lt e3); rw [this] at e1'; cases e1'
            exact hH.apart j j' _ o _ k1 k2 hne e1' hm (hold j k1 hjl e3) (hold j' k2 hlt0 e4)
          · exact absurd hw hnW1
        · exact k.rep.apart j j' b o o' k1 k2 hne e1 e2 (hg' j k1 hj e3) (hg' j' k2 hj' e4)
    · obtain ⟨h7, h8⟩ := hfz2 b cs e
      exact ⟨fun h9 => h9.elim (k.rep.fz b cs h8).1 h7, (k.rep.fz b cs h8).2⟩
    · rcases hb with h7 | h7
      · exact h4 b (k.sub b h7)
      · subst h7; exact hW0
    · obtain ⟨h7, h8⟩ := hfz2 b c e
      rcases k.fzn b c h8 with h9 | h9
      · exact h6 b c h9
      · exact .inr (h4 b h9)
theorem k_tmpN {P : Program} {o : Oper} {T : Tm} {H H' : Heap} {v : AV} {F : List Nat} (id : Nat) (N : Heap) {segs : List Seg} (hb : hget H id = some ⟨true, segs⟩ := by rfl) (h : LOk P o T (H.set id (some ⟨false, segs⟩)) (H.set id (some ⟨false, segs⟩) ++ N) v F []) (hF : List.elem id F = true := by rfl) (ho : othersOk H id F = true := by rfl) (hN : newOk N = true := by rfl) (hv : v.plainB = true := by rfl) (hH : H ++ N = H' := by repeat (first | exact happ_0 | apply happ_s)) : LOk P o T H H' v F [] := hH ▸ lok_tmpN id hb h (List.mem_of_elem_eq_true hF) ho hN hv
section
variable {P : Program} {T : Tm} {H : Heap} {d : Option Tmp} {ty : TypeId} {pos : String} {af : Array Edge} {g : Option (Nat × Bool)}
end
end Go.Bx
end
