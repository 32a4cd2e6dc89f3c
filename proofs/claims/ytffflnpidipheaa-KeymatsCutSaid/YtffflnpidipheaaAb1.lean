/- Abstract states over the kit's calls: values, blocks, what represents what, and what an operation gives. No program. -/
import Derived.WalkKit
import Derived.Orders
import Derived.RangeFuncOwn
namespace Go.Ab

/-- A value of one cell, blocks under abstract numbers. -/
inductive SV where
  | int (k : IntKind) (n : Int)
  | bool (b : Bool)
  | ptr (id base idx : Nat)
  | nilp
  | slice (id base idx len cap : Nat)
  | slx (id base idx len : Nat)
  | nils
  | val (v : Value)
  | clo (f : Nat) (caps : List (Nat × Nat × Nat))
  | junk

/-- A row of cells: one, or so many integers. -/
inductive Seg where
  | one (v : SV)
  | ints (k : IntKind) (n : Nat) (l : List Int)
  | svs (n : Nat) (f : Nat → SV)

inductive AV where
  | s (v : SV)
  | agg (l : List Seg)
  | tup (l : List AV)

structure Blk where
  rw : Bool
  segs : List Seg

abbrev Heap := List (Option Blk)
abbrev Rho := Nat → Option (Nat × Nat)
abbrev Tm := List (Nat × AV)

def SV.rep (ρ : Rho) : SV → Value → Prop
  | .int k n, v => v = .int k n
  | .bool b, v => v = .bool b
  | .ptr id base idx, v => ∃ b o, ρ id = some (b, o) ∧ v = .pointer (some ⟨b, o + base + idx, none⟩)
  | .nilp, v => v = .pointer none
  | .slice id base idx len cap, v => ∃ b o, ρ id = some (b, o) ∧ v = .slice (some ⟨b, o + base + idx, none⟩) len cap
  | .slx id base idx len, v => ∃ b o cap, ρ id = some (b, o) ∧ v = .slice (some ⟨b, o + base + idx, none⟩) len cap ∧ len ≤ cap
  | .nils, v => v = .slice none 0 0
  | .val u, v => v = u ∧ u.oneCell' = true
  | .clo f caps, v => ∃ vs : Array Value, v = .func (.func f) #[] vs ∧ vs.size = caps.length ∧ ∀ (i : Nat) (c : Nat × Nat × Nat), caps[i]? = some c → ∃ b o, ρ c.1 = some (b, o) ∧ vs[i]? = some (.pointer (some ⟨b, o + c.2.1 + c.2.2, none⟩))
  | .junk, _ => True

/-- A cell that may stand in memory. -/
def SV.cell (ρ : Rho) (x : SV) (v : Value) : Prop := x.rep ρ v ∧ v.oneCell' = true

def Seg.size : Seg → Nat
  | .one _ => 1
  | .ints _ n _ => n
  | .svs n _ => n

def Seg.at : Seg → Nat → SV
  | .one v, _ => v
  | .ints k _ l, i => .int k (l.getD i 0)
  | .svs _ f, i => f i

def sizeS : List Seg → Nat
  | [] => 0
  | s :: r => s.size + sizeS r

/-- The cell at a place. -/
def atS : List Seg → Nat → Option SV
  | [], _ => none
  | s :: r, i => if i < s.size then some (s.at i) else atS r (i - s.size)

def RowRep (ρ : Rho) (segs : List Seg) (get : Nat → Option Value) : Prop :=
  ∀ i x, atS segs i = some x → ∃ v, get i = some v ∧ x.cell ρ v

def AV.rep0 (ρ : Rho) : AV → Value → Prop
  | .s x, v => x.rep ρ v
  | .agg l, v => ∃ cs : Array Value, v = .agg cs ∧ cs.size = sizeS l ∧ RowRep ρ l (fun i => cs[i]?)
  | .tup _, _ => False

def AV.rep (ρ : Rho) : AV → Value → Prop
  | .tup l, v => ∃ vs : Array Value, v = .tuple vs ∧ ∀ (i : Nat) (x : AV), l[i]? = some x → ∃ u, vs[i]? = some u ∧ x.rep0 ρ u
  | .s x, v => x.rep ρ v
  | .agg l, v => AV.rep0 ρ (.agg l) v

def BRep (ρ : Rho) (k : Blk) (w : World) (b o : Nat) : Prop :=
  ∃ cells t fr, w.heap[b]? = some (.cells cells t fr) ∧ (k.rw = true → fr = (0, 0)) ∧ RowRep ρ k.segs (fun i => cells[o + i]?)

structure HRep (W : Nat → Prop) (ρ : Rho) (H : Heap) (w : World) : Prop where
  lt : ∀ id b o, ρ id = some (b, o) → b < w.heap.size
  rep : ∀ id b o k, ρ id = some (b, o) → H[id]? = some (some k) → BRep ρ k w b o ∧ (k.rw = true → W b)
  apart : ∀ id id' b o o' k k', id ≠ id' → ρ id = some (b, o) → ρ id' = some (b, o') → H[id]? = some (some k) → H[id']? = some (some k') → k.rw = false ∧ k'.rw = false

/-- Nothing that was there has turned. -/
structure Ext (w w' : World) : Prop where
  os : w'.os = w.os
  tape : w'.tape = w.tape
  output : w'.output = w.output
  size : w.heap.size ≤ w'.heap.size
  block : ∀ k, k < w.heap.size → w'.heap[k]? = w.heap[k]?

/-- What is not W's has not turned. -/
structure Fr (W : Nat → Prop) (w w' : World) : Prop where
  os : w'.os = w.os
  tape : w'.tape = w.tape
  output : w'.output = w.output
  size : w.heap.size ≤ w'.heap.size
  block : ∀ k, k < w.heap.size → ¬ W k → w'.heap[k]? = w.heap[k]?
  others : ∀ (k : Nat) (o : Obj), w.heap[k]? = some o → o.isCells = false → w'.heap[k]? = some o

theorem Ext.refl (w : World) : Ext w w := ⟨rfl, rfl, rfl, Nat.le_refl _, fun _ _ => rfl⟩
theorem Ext.trans {a b c : World} (h : Ext a b) (k : Ext b c) : Ext a c :=
  ⟨k.os.trans h.os, k.tape.trans h.tape, k.output.trans h.output, Nat.le_trans h.size k.size, fun i hi => (k.block i (Nat.lt_of_lt_of_le hi h.size)).trans (h.block i hi)⟩
theorem Ext.drew (w : World) : Ext w { w with drawn := w.drawn + 1 } := ⟨rfl, rfl, rfl, Nat.le_refl _, fun _ _ => rfl⟩
theorem Ext.alloc (w : World) (o : Obj) : Ext w (w.alloc o) := ⟨rfl, rfl, rfl, by simp, fun k hk => Go.RowKit.Below.heap_alloc w o k hk⟩
theorem Ext.obj {a b : World} (h : Ext a b) {k : Nat} {o : Obj} (hk : a.heap[k]? = some o) : b.heap[k]? = some o := (h.block k (Array.getElem?_eq_some_iff.1 hk).1).trans hk
theorem Fr.refl (W : Nat → Prop) (w : World) : Fr W w w := ⟨rfl, rfl, rfl, Nat.le_refl _, fun _ _ _ => rfl, fun _ _ h _ => h⟩
theorem Fr.ext {W : Nat → Prop} {a b c : World} (h : Fr W a b) (k : Ext b c) : Fr W a c :=
  ⟨k.os.trans h.os, k.tape.trans h.tape, k.output.trans h.output, Nat.le_trans h.size k.size, fun i hi hn => (k.block i (Nat.lt_of_lt_of_le hi h.size)).trans (h.block i hi hn), fun i o hi hc => k.obj (h.others i o hi hc)⟩
theorem Fr.trans {W : Nat → Prop} {a b c : World} (h : Fr W a b) (k : Fr W b c) : Fr W a c :=
  ⟨k.os.trans h.os, k.tape.trans h.tape, k.output.trans h.output, Nat.le_trans h.size k.size, fun i hi hn => (k.block i (Nat.lt_of_lt_of_le hi h.size) hn).trans (h.block i hi hn), fun i o hi hc => k.others i o (h.others i o hi hc) hc⟩
theorem Ext.fr {a b : World} (W : Nat → Prop) (h : Ext a b) : Fr W a b := ⟨h.os, h.tape, h.output, h.size, fun k hk _ => h.block k hk, fun _ _ hk _ => h.obj hk⟩

/-- More is known. -/
def Rle (ρ ρ' : Rho) : Prop := ∀ id x, ρ id = some x → ρ' id = some x
theorem Rle.refl (ρ : Rho) : Rle ρ ρ := fun _ _ h => h
theorem Rle.trans {a b c : Rho} (h : Rle a b) (k : Rle b c) : Rle a c := fun i x e => k i x (h i x e)

theorem SV.rep_le {ρ ρ' : Rho} (h : Rle ρ ρ') {x : SV} {v : Value} (hr : x.rep ρ v) : x.rep ρ' v := by
  cases x <;> simp only [SV.rep] at * <;> first
    | exact hr
    | (obtain ⟨b, o, h1, h2⟩ := hr; exact ⟨b, o, h _ _ h1, h2⟩)
    | (obtain ⟨b, o, c, h1, h2⟩ := hr; exact ⟨b, o, c, h _ _ h1, h2⟩)
    | (obtain ⟨vs, h1, h2, h3⟩ := hr; exact ⟨vs, h1, h2, fun i c hc => let ⟨b, o, h4, h5⟩ := h3 i c hc; ⟨b, o, h _ _ h4, h5⟩⟩)

theorem RowRep.le {ρ ρ' : Rho} (h : Rle ρ ρ') {l : List Seg} {g : Nat → Option Value} (hr : RowRep ρ l g) : RowRep ρ' l g := by
  intro i x hx
  obtain ⟨v, hv, hc⟩ := hr i x hx
  exact ⟨v, hv, SV.rep_le h hc.1, hc.2⟩

theorem AV.rep0_le {ρ ρ' : Rho} (h : Rle ρ ρ') {x : AV} {v : Value} (hr : x.rep0 ρ v) : x.rep0 ρ' v := by
  cases x with
  | s x => exact SV.rep_le h hr
  | agg l => obtain ⟨cs, h1, h2, h3⟩ := hr; exact ⟨cs, h1, h2, h3.le h⟩
  | tup l => exact hr.elim

theorem AV.rep_le {ρ ρ' : Rho} (h : Rle ρ ρ') {x : AV} {v : Value} (hr : x.rep ρ v) : x.rep ρ' v := by
  cases x with
  | s x => exact SV.rep_le h hr
  | agg l => exact AV.rep0_le (x := .agg l) h hr
  | tup l =>
    obtain ⟨vs, h1, h3⟩ := hr
    refine ⟨vs, h1, fun i x hx => ?_⟩
    obtain ⟨u, hu, hc⟩ := h3 i x hx
    exact ⟨u, hu, AV.rep0_le h hc⟩

theorem SV.oneCell {ρ : Rho} {x : SV} {v : Value} (h : x.rep ρ v) (hj : x ≠ .junk) : v.oneCell' = true := by
  cases x <;> simp only [SV.rep] at h
  case junk => exact absurd rfl hj
  case val u => rw [h.1]; exact h.2
  case ptr => obtain ⟨b, o, _, rfl⟩ := h; rfl
  case slice => obtain ⟨b, o, _, rfl⟩ := h; rfl
  case slx => obtain ⟨b, o, c, _, rfl, _⟩ := h; rfl
  case clo => obtain ⟨vs, rfl, _⟩ := h; rfl
  all_goals (subst h; rfl)

theorem BRep.le {ρ ρ' : Rho} (h : Rle ρ ρ') {k : Blk} {w : World} {b o : Nat} (hr : BRep ρ k w b o) : BRep ρ' k w b o := by
  obtain ⟨cells, t, fr, h1, h2, h3⟩ := hr
  exact ⟨cells, t, fr, h1, h2, h3.le h⟩

theorem BRep.lt {ρ : Rho} {k : Blk} {w : World} {b o : Nat} (hr : BRep ρ k w b o) : b < w.heap.size := by
  obtain ⟨cells, t, fr, h1, h2, h3⟩ := hr
  rcases Nat.lt_or_ge b w.heap.size with h | h
  · exact h
  · simp [Array.getElem?_eq_none h] at h1

theorem BRep.world {ρ : Rho} {k : Blk} {w w' : World} {b o : Nat} (hr : BRep ρ k w b o) (hw : w'.heap[b]? = w.heap[b]?) : BRep ρ k w' b o := by
  obtain ⟨cells, t, fr, h1, h2, h3⟩ := hr
  exact ⟨cells, t, fr, hw.trans h1, h2, h3⟩

theorem BRep.ext {ρ : Rho} {k : Blk} {w w' : World} {b o : Nat} (hr : BRep ρ k w b o) (hw : Ext w w') : BRep ρ k w' b o :=
  hr.world (hw.block b hr.lt)

theorem HRep.ext {W : Nat → Prop} {ρ : Rho} {H : Heap} {w w' : World} (h : HRep W ρ H w) (hw : Ext w w') : HRep W ρ H w' :=
  ⟨fun id b o hr => Nat.lt_of_lt_of_le (h.lt id b o hr) hw.size, fun id b o k h1 h2 => ⟨(h.rep id b o k h1 h2).1.ext hw, (h.rep id b o k h1 h2).2⟩, h.apart⟩

/-- What is known of fewer. -/
theorem HRep.sub {W : Nat → Prop} {ρ : Rho} {H H' : Heap} {w : World} (h : HRep W ρ H w) (hs : ∀ (id : Nat) (k : Blk), H'[id]? = some (some k) → H[id]? = some (some k)) : HRep W ρ H' w :=
  ⟨h.lt, fun id b o k h1 h2 => h.rep id b o k h1 (hs _ _ h2), fun id id' b o o' k k' hn h1 h2 h3 h4 => h.apart id id' b o o' k k' hn h1 h2 (hs _ _ h3) (hs _ _ h4)⟩

/-! ### Slots -/
def look : Tm → Nat → AV
  | [], _ => .s .junk
  | (j, v) :: r, i => bif Nat.beq j i then v else look r i

def put (T : Tm) (d : Option Tmp) (v : AV) : Tm :=
  match d with
  | some d => (d, v) :: T
  | none => T

def TRep (ρ : Rho) (T : Tm) (a : Act) : Prop := ∀ i, (look T i).rep ρ (a.tmps.getD i undef)

theorem look_cons (j : Nat) (v : AV) (T : Tm) (i : Nat) : look ((j, v) :: T) i = if j = i then v else look T i := by
  simp only [look]
  by_cases h : j = i
  · subst h; simp
  · have : Nat.beq j i = false := by
      cases hb : Nat.beq j i with
      | false => rfl
      | true => exact absurd (Nat.eq_of_beq_eq_true hb) h
    simp [this, h]

theorem getD_set (t : Array Value) (d i : Nat) (v : Value) (hd : d < t.size) : (t.setIfInBounds d v).getD i undef = if d = i then v else t.getD i undef := by
  by_cases h : d = i
  · subst h; simp [hd]
  · simp [h, Array.getElem?_setIfInBounds_ne h]

def ev (T : Tm) : Operand → AV
  | .tmp t => look T t
  | .const (.int k n) => .s (.int k n)
  | .const (.bool b) => .s (.bool b)
  | .const (.pointer none) => .s .nilp
  | .const (.slice none 0 0) => .s .nils
  | .const (.string x) => .s (.val (.string x))
  | .const (.agg cs) => .agg (cs.toList.map fun v => .one (match v with | .int k n => .int k n | .bool b => .bool b | .pointer none => .nilp | .slice none 0 0 => .nils | v => if v.oneCell' then .val v else .junk))
  | .const v => if v.oneCell' then .s (.val v) else .s .junk
  | .func f => .s (.val (.func (.func f) #[] #[]))
  | .global _ => .s .junk

end Go.Ab
