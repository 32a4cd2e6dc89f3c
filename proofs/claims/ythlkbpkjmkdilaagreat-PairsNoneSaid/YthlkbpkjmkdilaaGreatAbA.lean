/- A part of the proofs of this claim: AbA (Ab1, Ab2, Ab3, Ab4, Ab5, Ab6, Ab7, Ab8, Ab9). No conditions. -/
import Derived.WalkKit
import Derived.Orders
import Derived.RangeFuncOwn
import Derived.Laws.CopyRow
import Derived.Deep.LoopGhost
import Derived.Scope
set_option linter.unusedVariables false
set_option linter.unusedSimpArgs false
section
/- Abstract states over the kit's calls: values, blocks, what represents what, and what an operation gives. No program. -/
namespace Go.Ab

/-- A value of one cell, blocks under abstract numbers. -/
inductive SV where
  | int (k : IntKind) (n : Int)
  | bool (b : Bool)
  | ptr (id base idx : Nat)
  | nilp
  | slice (id base idx len cap : Nat)
  | slx (id base idx len : Nat)
  | slf (id base idx len need : Nat)
  | nils
  | val (v : Value)
  | clo (f : Nat) (caps : List (Nat × Nat × Nat))
  | junk

/-- A row of cells: one, or so many integers. -/
inductive Seg where
  | one (v : SV)
  | ints (k : IntKind) (n : Nat) (l : List Int)
  | svs (n : Nat) (f : Nat → SV)

inductive AV where
  | s (v : SV)
  | agg (l : List Seg)
  | tup (l : List AV)

structure Blk where
  rw : Bool
  segs : List Seg

abbrev Heap := List (Option Blk)
abbrev Rho := Nat → Option (Nat × Nat)
abbrev Tm := List (Nat × AV)

def SV.rep (ρ : Rho) : SV → Value → Prop
  | .int k n, v => v = .int k n
  | .bool b, v => v = .bool b
  | .ptr id base idx, v => ∃ b o, ρ id = some (b, o) ∧ v = .pointer (some ⟨b, o + base + idx, none⟩)
  | .nilp, v => v = .pointer none
  | .slice id base idx len cap, v => ∃ b o, ρ id = some (b, o) ∧ v = .slice (some ⟨b, o + base + idx, none⟩) len cap
  | .slx id base idx len, v => ∃ b o cap, ρ id = some (b, o) ∧ v = .slice (some ⟨b, o + base + idx, none⟩) len cap ∧ len ≤ cap
  | .slf id base idx len need, v => ∃ b o cap, ρ id = some (b, o) ∧ v = .slice (some ⟨b, o + base + idx, none⟩) len cap ∧ need ≤ cap ∧ len ≤ cap
  | .nils, v => v = .slice none 0 0
  | .val u, v => v = u ∧ u.oneCell' = true
  | .clo f caps, v => ∃ vs : Array Value, v = .func (.func f) #[] vs ∧ vs.size = caps.length ∧ ∀ (i : Nat) (c : Nat × Nat × Nat), caps[i]? = some c → ∃ b o, ρ c.1 = some (b, o) ∧ vs[i]? = some (.pointer (some ⟨b, o + c.2.1 + c.2.2, none⟩))
  | .junk, _ => True

/-- A cell that may stand in memory. -/
def SV.cell (ρ : Rho) (x : SV) (v : Value) : Prop := x.rep ρ v ∧ v.oneCell' = true

def Seg.size : Seg → Nat
  | .one _ => 1
  | .ints _ n _ => n
  | .svs n _ => n

def Seg.at : Seg → Nat → SV
  | .one v, _ => v
  | .ints k _ l, i => .int k (l.getD i 0)
  | .svs _ f, i => f i

def sizeS : List Seg → Nat
  | [] => 0
  | s :: r => s.size + sizeS r

/-- The cell at a place. -/
def atS : List Seg → Nat → Option SV
  | [], _ => none
  | s :: r, i => if i < s.size then some (s.at i) else atS r (i - s.size)

def RowRep (ρ : Rho) (segs : List Seg) (get : Nat → Option Value) : Prop :=
  ∀ i x, atS segs i = some x → ∃ v, get i = some v ∧ x.cell ρ v

def AV.rep0 (ρ : Rho) : AV → Value → Prop
  | .s x, v => x.rep ρ v
  | .agg l, v => ∃ cs : Array Value, v = .agg cs ∧ cs.size = sizeS l ∧ RowRep ρ l (fun i => cs[i]?)
  | .tup _, _ => False

def AV.rep (ρ : Rho) : AV → Value → Prop
  | .tup l, v => ∃ vs : Array Value, v = .tuple vs ∧ ∀ (i : Nat) (x : AV), l[i]? = some x → ∃ u, vs[i]? = some u ∧ x.rep0 ρ u
  | .s x, v => x.rep ρ v
  | .agg l, v => AV.rep0 ρ (.agg l) v

def BRep (ρ : Rho) (k : Blk) (w : World) (b o : Nat) : Prop :=
  ∃ cells t fr, w.heap[b]? = some (.cells cells t fr) ∧ (k.rw = true → fr = (0, 0)) ∧ RowRep ρ k.segs (fun i => cells[o + i]?)

structure HRep (W : Nat → Prop) (ρ : Rho) (H : Heap) (w : World) : Prop where
  lt : ∀ id b o, ρ id = some (b, o) → b < w.heap.size
  rep : ∀ id b o k, ρ id = some (b, o) → H[id]? = some (some k) → BRep ρ k w b o ∧ (k.rw = true → W b)
  apart : ∀ id id' b o o' k k', id ≠ id' → ρ id = some (b, o) → ρ id' = some (b, o') → H[id]? = some (some k) → H[id']? = some (some k') → k.rw = false ∧ k'.rw = false

/-- Nothing that was there has turned. -/
structure Ext (w w' : World) : Prop where
  os : w'.os = w.os
  tape : w'.tape = w.tape
  output : w'.output = w.output
  size : w.heap.size ≤ w'.heap.size
  block : ∀ k, k < w.heap.size → w'.heap[k]? = w.heap[k]?

/-- What is not W's has not turned. -/
structure Fr (W : Nat → Prop) (w w' : World) : Prop where
  os : w'.os = w.os
  tape : w'.tape = w.tape
  output : w'.output = w.output
  size : w.heap.size ≤ w'.heap.size
  block : ∀ k, k < w.heap.size → ¬ W k → w'.heap[k]? = w.heap[k]?
  others : ∀ (k : Nat) (o : Obj), w.heap[k]? = some o → o.isCells = false → w'.heap[k]? = some o

theorem Ext.refl (w : World) : Ext w w := ⟨rfl, rfl, rfl, Nat.le_refl _, fun _ _ => rfl⟩
theorem Ext.trans {a b c : World} (h : Ext a b) (k : Ext b c) : Ext a c :=
  ⟨k.os.trans h.os, k.tape.trans h.tape, k.output.trans h.output, Nat.le_trans h.size k.size, fun i hi => (k.block i (Nat.lt_of_lt_of_le hi h.size)).trans (h.block i hi)⟩
theorem Ext.drew (w : World) : Ext w { w with drawn := w.drawn + 1 } := ⟨rfl, rfl, rfl, Nat.le_refl _, fun _ _ => rfl⟩
theorem Ext.alloc (w : World) (o : Obj) : Ext w (w.alloc o) := ⟨rfl, rfl, rfl, by simp, fun k hk => Go.RowKit.Below.heap_alloc w o k hk⟩
theorem Ext.obj {a b : World} (h : Ext a b) {k : Nat} {o : Obj} (hk : a.heap[k]? = some o) : b.heap[k]? = some o := (h.block k (Array.getElem?_eq_some_iff.1 hk).1).trans hk
theorem Fr.refl (W : Nat → Prop) (w : World) : Fr W w w := ⟨rfl, rfl, rfl, Nat.le_refl _, fun _ _ _ => rfl, fun _ _ h _ => h⟩
theorem Fr.ext {W : Nat → Prop} {a b c : World} (h : Fr W a b) (k : Ext b c) : Fr W a c :=
  ⟨k.os.trans h.os, k.tape.trans h.tape, k.output.trans h.output, Nat.le_trans h.size k.size, fun i hi hn => (k.block i (Nat.lt_of_lt_of_le hi h.size)).trans (h.block i hi hn), fun i o hi hc => k.obj (h.others i o hi hc)⟩
theorem Fr.trans {W : Nat → Prop} {a b c : World} (h : Fr W a b) (k : Fr W b c) : Fr W a c :=
  ⟨k.os.trans h.os, k.tape.trans h.tape, k.output.trans h.output, Nat.le_trans h.size k.size, fun i hi hn => (k.block i (Nat.lt_of_lt_of_le hi h.size) hn).trans (h.block i hi hn), fun i o hi hc => k.others i o (h.others i o hi hc) hc⟩
theorem Ext.fr {a b : World} (W : Nat → Prop) (h : Ext a b) : Fr W a b := ⟨h.os, h.tape, h.output, h.size, fun k hk _ => h.block k hk, fun _ _ hk _ => h.obj hk⟩

/-- More is known. -/
def Rle (ρ ρ' : Rho) : Prop := ∀ id x, ρ id = some x → ρ' id = some x
theorem Rle.refl (ρ : Rho) : Rle ρ ρ := fun _ _ h => h
theorem Rle.trans {a b c : Rho} (h : Rle a b) (k : Rle b c) : Rle a c := fun i x e => k i x (h i x e)

theorem SV.rep_le {ρ ρ' : Rho} (h : Rle ρ ρ') {x : SV} {v : Value} (hr : x.rep ρ v) : x.rep ρ' v := by
  cases x <;> simp only [SV.rep] at * <;> first
    | exact hr
    | (obtain ⟨b, o, h1, h2⟩ := hr; exact ⟨b, o, h _ _ h1, h2⟩)
    | (obtain ⟨b, o, c, h1, h2⟩ := hr; exact ⟨b, o, c, h _ _ h1, h2⟩)
    | (obtain ⟨vs, h1, h2, h3⟩ := hr; exact ⟨vs, h1, h2, fun i c hc => let ⟨b, o, h4, h5⟩ := h3 i c hc; ⟨b, o, h _ _ h4, h5⟩⟩)

theorem RowRep.le {ρ ρ' : Rho} (h : Rle ρ ρ') {l : List Seg} {g : Nat → Option Value} (hr : RowRep ρ l g) : RowRep ρ' l g := by
  intro i x hx
  obtain ⟨v, hv, hc⟩ := hr i x hx
  exact ⟨v, hv, SV.rep_le h hc.1, hc.2⟩

theorem AV.rep0_le {ρ ρ' : Rho} (h : Rle ρ ρ') {x : AV} {v : Value} (hr : x.rep0 ρ v) : x.rep0 ρ' v := by
  cases x with
  | s x => exact SV.rep_le h hr
  | agg l => obtain ⟨cs, h1, h2, h3⟩ := hr; exact ⟨cs, h1, h2, h3.le h⟩
  | tup l => exact hr.elim

theorem AV.rep_le {ρ ρ' : Rho} (h : Rle ρ ρ') {x : AV} {v : Value} (hr : x.rep ρ v) : x.rep ρ' v := by
  cases x with
  | s x => exact SV.rep_le h hr
  | agg l => exact AV.rep0_le (x := .agg l) h hr
  | tup l =>
    obtain ⟨vs, h1, h3⟩ := hr
    refine ⟨vs, h1, fun i x hx => ?_⟩
    obtain ⟨u, hu, hc⟩ := h3 i x hx
    exact ⟨u, hu, AV.rep0_le h hc⟩

theorem SV.oneCell {ρ : Rho} {x : SV} {v : Value} (h : x.rep ρ v) (hj : x ≠ .junk) : v.oneCell' = true := by
  cases x <;> simp only [SV.rep] at h
  case junk => exact absurd rfl hj
  case val u => rw [h.1]; exact h.2
  case ptr => obtain ⟨b, o, _, rfl⟩ := h; rfl
  case slice => obtain ⟨b, o, _, rfl⟩ := h; rfl
  case slx => obtain ⟨b, o, c, _, rfl, _⟩ := h; rfl
  case slf => obtain ⟨b, o, c, _, rfl, _⟩ := h; rfl
  case clo => obtain ⟨vs, rfl, _⟩ := h; rfl
  all_goals (subst h; rfl)

theorem BRep.le {ρ ρ' : Rho} (h : Rle ρ ρ') {k : Blk} {w : World} {b o : Nat} (hr : BRep ρ k w b o) : BRep ρ' k w b o := by
  obtain ⟨cells, t, fr, h1, h2, h3⟩ := hr
  exact ⟨cells, t, fr, h1, h2, h3.le h⟩

theorem BRep.lt {ρ : Rho} {k : Blk} {w : World} {b o : Nat} (hr : BRep ρ k w b o) : b < w.heap.size := by
  obtain ⟨cells, t, fr, h1, h2, h3⟩ := hr
  rcases Nat.lt_or_ge b w.heap.size with h | h
  · exact h
  · simp [Array.getElem?_eq_none h] at h1

theorem BRep.world {ρ : Rho} {k : Blk} {w w' : World} {b o : Nat} (hr : BRep ρ k w b o) (hw : w'.heap[b]? = w.heap[b]?) : BRep ρ k w' b o := by
  obtain ⟨cells, t, fr, h1, h2, h3⟩ := hr
  exact ⟨cells, t, fr, hw.trans h1, h2, h3⟩

theorem BRep.ext {ρ : Rho} {k : Blk} {w w' : World} {b o : Nat} (hr : BRep ρ k w b o) (hw : Ext w w') : BRep ρ k w' b o :=
  hr.world (hw.block b hr.lt)

theorem HRep.ext {W : Nat → Prop} {ρ : Rho} {H : Heap} {w w' : World} (h : HRep W ρ H w) (hw : Ext w w') : HRep W ρ H w' :=
  ⟨fun id b o hr => Nat.lt_of_lt_of_le (h.lt id b o hr) hw.size, fun id b o k h1 h2 => ⟨(h.rep id b o k h1 h2).1.ext hw, (h.rep id b o k h1 h2).2⟩, h.apart⟩

/-- What is known of fewer. -/
theorem HRep.sub {W : Nat → Prop} {ρ : Rho} {H H' : Heap} {w : World} (h : HRep W ρ H w) (hs : ∀ (id : Nat) (k : Blk), H'[id]? = some (some k) → H[id]? = some (some k)) : HRep W ρ H' w :=
  ⟨h.lt, fun id b o k h1 h2 => h.rep id b o k h1 (hs _ _ h2), fun id id' b o o' k k' hn h1 h2 h3 h4 => h.apart id id' b o o' k k' hn h1 h2 (hs _ _ h3) (hs _ _ h4)⟩

/-! ### Slots -/
def look : Tm → Nat → AV
  | [], _ => .s .junk
  | (j, v) :: r, i => bif Nat.beq j i then v else look r i

def put (T : Tm) (d : Option Tmp) (v : AV) : Tm :=
  match d with
  | some d => (d, v) :: T
  | none => T

def TRep (ρ : Rho) (T : Tm) (a : Act) : Prop := ∀ i, (look T i).rep ρ (a.tmps.getD i undef)

theorem look_cons (j : Nat) (v : AV) (T : Tm) (i : Nat) : look ((j, v) :: T) i = if j = i then v else look T i := by
  simp only [look]
  by_cases h : j = i
  · subst h; simp
  · have : Nat.beq j i = false := by
      cases hb : Nat.beq j i with
      | false => rfl
      | true => exact absurd (Nat.eq_of_beq_eq_true hb) h
    simp [this, h]

theorem getD_set (t : Array Value) (d i : Nat) (v : Value) (hd : d < t.size) : (t.setIfInBounds d v).getD i undef = if d = i then v else t.getD i undef := by
  by_cases h : d = i
  · subst h; simp [hd]
  · simp [h, Array.getElem?_setIfInBounds_ne h]

def ev (T : Tm) : Operand → AV
  | .tmp t => look T t
  | .const (.int k n) => .s (.int k n)
  | .const (.bool b) => .s (.bool b)
  | .const (.pointer none) => .s .nilp
  | .const (.slice none 0 0) => .s .nils
  | .const (.string x) => .s (.val (.string x))
  | .const (.agg cs) => .agg (cs.toList.map fun v => .one (match v with | .int k n => .int k n | .bool b => .bool b | .pointer none => .nilp | .slice none 0 0 => .nils | v => if v.oneCell' then .val v else .junk))
  | .const v => if v.oneCell' then .s (.val v) else .s .junk
  | .func f => .s (.val (.func (.func f) #[] #[]))
  | .global _ => .s .junk

end Go.Ab
end

section
/- What an operation gives on abstract states: rules. -/
namespace Go.Ab

def Gives (P : Program) (o : Oper) (a : Act) (w : World) (R : Value → World → Prop) : Prop :=
  ∀ (next : Act → World → Prop) (Q : Exit → Act → World → Prop), (∀ v w', R v w' → next (a.put o.dst v) w') → o.upon P a next Q ((execOp a.eval o).run P w)

/-- New blocks, from a number on. -/
structure New (ρ ρ' : Rho) (n : Nat) (nb : List Blk) (w w' : World) : Prop where
  le : Rle ρ ρ'
  ext : Ext w w'
  old : ∀ id b o, ρ' id = some (b, o) → ρ id = some (b, o) ∨ (n ≤ id ∧ id < n + nb.length ∧ w.heap.size ≤ b ∧ b < w'.heap.size)
  rep : ∀ (i : Nat) (k : Blk), nb[i]? = some k → ∀ b o, ρ' (n + i) = some (b, o) → BRep ρ' k w' b o
  apart : ∀ id id' b o o', n ≤ id → id < n + nb.length → n ≤ id' → id' < n + nb.length → ρ' id = some (b, o) → ρ' id' = some (b, o') → id = id'

theorem New.nil {ρ : Rho} {n : Nat} {w w' : World} (h : Ext w w') : New ρ ρ n [] w w' :=
  ⟨.refl _, h, fun _ _ _ h => .inl h, fun i k hk => by simp at hk, fun id id' b o o' h1 h2 => by simp at h2; omega⟩

def Ops (o : Oper) (T : Tm) (ρ : Rho) (a : Act) : Prop := ∀ x ∈ o.op.operands, (ev T x).rep ρ (a.eval x)

def HOk (P : Program) (o : Oper) (T : Tm) (H : Heap) (v : AV) (nb : List Blk) : Prop :=
  ∀ (W : Nat → Prop) (ρ : Rho) (a : Act) (w : World), HRep W ρ H w → (∀ i, i < nb.length → ρ (H.length + i) = none) → Ops o T ρ a →
    Gives P o a w fun v' w' => ∃ ρ', New ρ ρ' H.length nb w w' ∧ v.rep ρ' v'

def MOk (P : Program) (o : Oper) (T : Tm) (H : Heap) (v : AV) (H' : Heap) : Prop :=
  ∀ (W : Nat → Prop) (ρ : Rho) (a : Act) (w : World), HRep W ρ H w → (∀ id, H.length ≤ id → ρ id = none) → (∀ b, w.heap.size ≤ b → W b) → Ops o T ρ a →
    Gives P o a w fun v' w' => ∃ ρ', (∀ id, H'.length ≤ id → ρ' id = none) ∧ Rle ρ ρ' ∧ HRep W ρ' H' w' ∧ Fr W w w' ∧ v.rep ρ' v'

theorem HRep.new {W : Nat → Prop} {ρ ρ' : Rho} {H : Heap} {nb : List Blk} {w w' : World} (h : HRep W ρ H w) (hW : ∀ b, w.heap.size ≤ b → W b)
    (hn : ∀ id, H.length ≤ id → ρ id = none) (k : New ρ ρ' H.length nb w w') : HRep W ρ' (H ++ nb.map some) w' := by
  have key : ∀ id b o, ρ' id = some (b, o) → (ρ id = some (b, o) ∧ id < H.length ∧ b < w.heap.size) ∨ (H.length ≤ id ∧ id < H.length + nb.length ∧ w.heap.size ≤ b ∧ b < w'.heap.size) := by
    intro id b o e
    rcases k.old id b o e with h1 | h1
    · refine .inl ⟨h1, ?_, h.lt _ _ _ h1⟩
      rcases Nat.lt_or_ge id H.length with h2 | h2
      · exact h2
      · rw [hn id h2] at h1; cases h1
    · exact .inr h1
  have get : ∀ (id : Nat) (q : Blk), H.length ≤ id → (H ++ nb.map some)[id]? = some (some q) → nb[id - H.length]? = some q := by
    intro id q h1 h2
    rw [List.getElem?_append_right h1] at h2
    simp at h2
    exact h2
  refine ⟨fun id b o e => ?_, fun id b o q e e2 => ?_, fun id id' b o o' q q' hne e e' e2 e2' => ?_⟩
  · rcases key id b o e with ⟨_, _, h3⟩ | h3
    · exact Nat.lt_of_lt_of_le h3 k.ext.size
    · exact h3.2.2.2
  · rcases key id b o e with ⟨h1, h2, h3⟩ | h3
    · rw [List.getElem?_append_left h2] at e2
      have := h.rep id b o q h1 e2
      exact ⟨(this.1.ext k.ext).le k.le, this.2⟩
    · have h4 := get id q h3.1 e2
      have h5 := k.rep _ q h4 b o (by rw [show H.length + (id - H.length) = id by omega]; exact e)
      exact ⟨h5, fun _ => hW b h3.2.2.1⟩
  · rcases key id b o e with ⟨h1, h2, h3⟩ | h3 <;> rcases key id' b o' e' with ⟨h1', h2', h3'⟩ | h3'
    · rw [List.getElem?_append_left h2] at e2
      rw [List.getElem?_append_left h2'] at e2'
      exact h.apart id id' b o o' q q' hne h1 h1' e2 e2'
    · omega
    · omega
    · exact absurd (k.apart id id' b o o' h3.1 h3.2.1 h3'.1 h3'.2.1 e e') hne

theorem HOk.mok {P : Program} {o : Oper} {T : Tm} {H : Heap} {v : AV} {nb : List Blk} (h : HOk P o T H v nb) : MOk P o T H v (H ++ nb.map some) := by
  intro W ρ a w hH hn hW ho next Q hq
  refine h W ρ a w hH (fun i _ => hn _ (by omega)) ho next Q ?_
  rintro v' w' ⟨ρ', hk, hv⟩
  refine hq v' w' ⟨ρ', fun id hid => ?_, hk.le, hH.new hW hn hk, hk.ext.fr W, hv⟩
  cases hr : ρ' id with
  | none => rfl
  | some x =>
    obtain ⟨b, o⟩ := x
    rcases hk.old id b o hr with h1 | h1
    · rw [hn id (by simp at hid; omega)] at h1; cases h1
    · simp at hid; omega

/-- An operation that leaves the world as it is. -/
theorem HOk.pure {P : Program} {o : Oper} {T : Tm} {H : Heap} {v : AV}
    (h : ∀ (W : Nat → Prop) (ρ : Rho) (a : Act) (w : World), HRep W ρ H w → Ops o T ρ a → ∃ v', (execOp a.eval o).run P w = .ok (.value v') w ∧ v.rep ρ v') : HOk P o T H v [] := by
  intro W ρ a w hH _ ho next Q hq
  obtain ⟨v', hr, hv⟩ := h W ρ a w hH ho
  rw [hr]
  exact hq v' w ⟨ρ, .nil (.refl _), hv⟩

section rules
variable {P : Program} {T : Tm} {H : Heap} {d : Option Tmp} {ty : TypeId} {pos : String} {af : Array Edge} {g : Option (Nat × Bool)}

theorem h_move {x : Operand} {v : AV} (hx : ev T x = v) : HOk P ⟨d, .move x, ty, pos, af, g⟩ T H v [] :=
  .pure fun W ρ a w _ ho => ⟨a.eval x, rfl, by have := ho x (by simp [Op.operands]); rwa [hx] at this⟩
theorem h_assign {x : Operand} {v : AV} (hx : ev T x = v) : HOk P ⟨d, .assign x, ty, pos, af, g⟩ T H v [] :=
  .pure fun W ρ a w _ ho => ⟨a.eval x, rfl, by have := ho x (by simp [Op.operands]); rwa [hx] at this⟩

theorem two {op : Op} {x y : Operand} {ρ : Rho} {a : Act} (hop : op.operands = #[x, y]) (ho : Ops ⟨d, op, ty, pos, af, g⟩ T ρ a) {u v : AV} (hx : ev T x = u) (hy : ev T y = v) :
    u.rep ρ (a.eval x) ∧ v.rep ρ (a.eval y) :=
  ⟨by have := ho x (by simp [hop]); rwa [hx] at this, by have := ho y (by simp [hop]); rwa [hy] at this⟩
theorem one {op : Op} {x : Operand} {ρ : Rho} {a : Act} (hop : op.operands = #[x]) (ho : Ops ⟨d, op, ty, pos, af, g⟩ T ρ a) {u : AV} (hx : ev T x = u) : u.rep ρ (a.eval x) := by
  have := ho x (by simp [hop]); rwa [hx] at this

theorem eqGuard_int (op : BinOp) (t : TypeId) (x y : Operand) (k k' : IntKind) (a b : Int) (w : World) : (eqGuard op t x y (.int k a) (.int k' b)).run P w = .ok () w := by
  unfold eqGuard
  cases op <;> simp <;> rfl

/-- A binary operation on two integers. -/
theorem h_bin {op : BinOp} {tx tyy : TypeId} {x y : Operand} {k k' : IntKind} {m n : Int} {r : SV} (hx : ev T x = .s (.int k m)) (hy : ev T y = .s (.int k' n))
    (hr : ∀ w, ∃ v, (binOp op tx (.int k m) (.int k' n)).run P w = .ok v w ∧ ∀ ρ, r.rep ρ v) :
    HOk P ⟨d, .binOp op tx x y tyy, ty, pos, af, g⟩ T H (.s r) [] :=
  .pure fun W ρ a w _ ho => by
    obtain ⟨h1, h2⟩ := two (op := .binOp op tx x y tyy) rfl ho hx hy
    simp only [AV.rep, SV.rep] at h1 h2
    obtain ⟨v, hv, hrep⟩ := hr w
    refine ⟨v, ?_, hrep ρ⟩
    simp [execOp, h1, h2, Sem.run_bind, eqGuard_int, hv]

theorem b_add {k : IntKind} {tx : TypeId} {m n r : Int} (hr : k.wrap (m + n) = r) (w : World) : ∃ v, (binOp .add tx (.int k m) (.int k n)).run P w = .ok v w ∧ ∀ ρ, (SV.int k r).rep ρ v :=
  ⟨.int k r, by simp [binOp, Op.intArith, hr], fun _ => rfl⟩
theorem b_sub {k : IntKind} {tx : TypeId} {m n r : Int} (hr : k.wrap (m - n) = r) (w : World) : ∃ v, (binOp .sub tx (.int k m) (.int k n)).run P w = .ok v w ∧ ∀ ρ, (SV.int k r).rep ρ v :=
  ⟨.int k r, by simp [binOp, Op.intArith, hr], fun _ => rfl⟩
theorem b_mul {k : IntKind} {tx : TypeId} {m n r : Int} (hr : k.wrap (m * n) = r) (w : World) : ∃ v, (binOp .mul tx (.int k m) (.int k n)).run P w = .ok v w ∧ ∀ ρ, (SV.int k r).rep ρ v :=
  ⟨.int k r, by simp [binOp, Op.intArith, hr], fun _ => rfl⟩
theorem b_quo {k : IntKind} {tx : TypeId} {m n r : Int} (h0 : n ≠ 0) (hr : k.wrap (m.tdiv n) = r) (w : World) : ∃ v, (binOp .quo tx (.int k m) (.int k n)).run P w = .ok v w ∧ ∀ ρ, (SV.int k r).rep ρ v :=
  ⟨.int k r, by simp [binOp, Op.intDiv, hr, h0], fun _ => rfl⟩
theorem b_rem {k : IntKind} {tx : TypeId} {m n r : Int} (h0 : n ≠ 0) (hr : m.tmod n = r) (w : World) : ∃ v, (binOp .rem tx (.int k m) (.int k n)).run P w = .ok v w ∧ ∀ ρ, (SV.int k r).rep ρ v :=
  ⟨.int k r, by simp [binOp, Op.intDiv, hr, h0], fun _ => rfl⟩

/-- Bits of integers of a kind. -/
def xorK (k : IntKind) (m n : Int) : Int := k.wrap (BitVec.ofInt k.bits m ^^^ BitVec.ofInt k.bits n).toNat
def andK (k : IntKind) (m n : Int) : Int := k.wrap (BitVec.ofInt k.bits m &&& BitVec.ofInt k.bits n).toNat
def orK (k : IntKind) (m n : Int) : Int := k.wrap (BitVec.ofInt k.bits m ||| BitVec.ofInt k.bits n).toNat
def andNotK (k : IntKind) (m n : Int) : Int := k.wrap (BitVec.ofInt k.bits m &&& ~~~ BitVec.ofInt k.bits n).toNat
def shlK (k : IntKind) (m n : Int) : Int := k.wrap (m * 2 ^ min n.toNat k.bits)
def shrK (k : IntKind) (m n : Int) : Int := m.fdiv (2 ^ min n.toNat k.bits)
theorem b_xor {k : IntKind} {tx : TypeId} {m n r : Int} (hr : xorK k m n = r) (w : World) : ∃ v, (binOp .xor tx (.int k m) (.int k n)).run P w = .ok v w ∧ ∀ ρ, (SV.int k r).rep ρ v :=
  ⟨.int k r, by simp [binOp, Op.intBits, ← hr, xorK], fun _ => rfl⟩
theorem b_and {k : IntKind} {tx : TypeId} {m n r : Int} (hr : andK k m n = r) (w : World) : ∃ v, (binOp .and tx (.int k m) (.int k n)).run P w = .ok v w ∧ ∀ ρ, (SV.int k r).rep ρ v :=
  ⟨.int k r, by simp [binOp, Op.intBits, ← hr, andK], fun _ => rfl⟩
theorem b_or {k : IntKind} {tx : TypeId} {m n r : Int} (hr : orK k m n = r) (w : World) : ∃ v, (binOp .or tx (.int k m) (.int k n)).run P w = .ok v w ∧ ∀ ρ, (SV.int k r).rep ρ v :=
  ⟨.int k r, by simp [binOp, Op.intBits, ← hr, orK], fun _ => rfl⟩
theorem b_andNot {k : IntKind} {tx : TypeId} {m n r : Int} (hr : andNotK k m n = r) (w : World) : ∃ v, (binOp .andNot tx (.int k m) (.int k n)).run P w = .ok v w ∧ ∀ ρ, (SV.int k r).rep ρ v :=
  ⟨.int k r, by simp [binOp, Op.intBits, ← hr, andNotK], fun _ => rfl⟩
theorem b_shl {k k' : IntKind} {tx : TypeId} {m n r : Int} (h0 : 0 ≤ n) (hr : shlK k m n = r) (w : World) : ∃ v, (binOp .shl tx (.int k m) (.int k' n)).run P w = .ok v w ∧ ∀ ρ, (SV.int k r).rep ρ v :=
  ⟨.int k r, by simp [binOp, Op.shift, ← hr, shlK, Int.not_lt.2 h0], fun _ => rfl⟩
theorem b_shr {k k' : IntKind} {tx : TypeId} {m n r : Int} (h0 : 0 ≤ n) (hr : shrK k m n = r) (w : World) : ∃ v, (binOp .shr tx (.int k m) (.int k' n)).run P w = .ok v w ∧ ∀ ρ, (SV.int k r).rep ρ v :=
  ⟨.int k r, by simp [binOp, Op.shift, ← hr, shrK, Int.not_lt.2 h0], fun _ => rfl⟩
theorem b_lss {k : IntKind} {tx : TypeId} {m n : Int} {r : Bool} (hr : decide (m < n) = r) (w : World) : ∃ v, (binOp .lss tx (.int k m) (.int k n)).run P w = .ok v w ∧ ∀ ρ, (SV.bool r).rep ρ v :=
  ⟨.bool r, by simp [binOp, Op.intCmp, ← hr], fun _ => rfl⟩
theorem b_leq {k : IntKind} {tx : TypeId} {m n : Int} {r : Bool} (hr : decide (m ≤ n) = r) (w : World) : ∃ v, (binOp .leq tx (.int k m) (.int k n)).run P w = .ok v w ∧ ∀ ρ, (SV.bool r).rep ρ v :=
  ⟨.bool r, by simp [binOp, Op.intCmp, ← hr], fun _ => rfl⟩
theorem b_gtr {k : IntKind} {tx : TypeId} {m n : Int} {r : Bool} (hr : decide (n < m) = r) (w : World) : ∃ v, (binOp .gtr tx (.int k m) (.int k n)).run P w = .ok v w ∧ ∀ ρ, (SV.bool r).rep ρ v :=
  ⟨.bool r, by simp [binOp, Op.intCmp, ← hr], fun _ => rfl⟩
theorem b_geq {k : IntKind} {tx : TypeId} {m n : Int} {r : Bool} (hr : decide (n ≤ m) = r) (w : World) : ∃ v, (binOp .geq tx (.int k m) (.int k n)).run P w = .ok v w ∧ ∀ ρ, (SV.bool r).rep ρ v :=
  ⟨.bool r, by simp [binOp, Op.intCmp, ← hr], fun _ => rfl⟩
theorem b_eql {k : IntKind} {tx : TypeId} {m n : Int} {r : Bool} (hr : decide (m = n) = r) (w : World) : ∃ v, (binOp .eql tx (.int k m) (.int k n)).run P w = .ok v w ∧ ∀ ρ, (SV.bool r).rep ρ v :=
  ⟨.bool r, by simp [binOp, Op.intCmp, ← hr]; rfl, fun _ => rfl⟩
theorem b_neq {k : IntKind} {tx : TypeId} {m n : Int} {r : Bool} (hr : decide (m ≠ n) = r) (w : World) : ∃ v, (binOp .neq tx (.int k m) (.int k n)).run P w = .ok v w ∧ ∀ ρ, (SV.bool r).rep ρ v :=
  ⟨.bool r, by simp [binOp, Op.intCmp, ← hr, bne]; rfl, fun _ => rfl⟩

theorem h_not {tx : TypeId} {x : Operand} {b : Bool} (hx : ev T x = .s (.bool b)) : HOk P ⟨d, .unOp .not tx x, ty, pos, af, g⟩ T H (.s (.bool (!b))) [] :=
  .pure fun W ρ a w _ ho => by
    have h1 := one (op := .unOp .not tx x) rfl ho hx
    simp only [AV.rep, SV.rep] at h1
    exact ⟨.bool (!b), by simp [execOp, h1, Op.unary], rfl⟩
theorem h_neg {tx : TypeId} {x : Operand} {k : IntKind} {m r : Int} (hx : ev T x = .s (.int k m)) (hr : k.wrap (0 - m) = r) : HOk P ⟨d, .unOp .neg tx x, ty, pos, af, g⟩ T H (.s (.int k r)) [] :=
  .pure fun W ρ a w _ ho => by
    have h1 := one (op := .unOp .neg tx x) rfl ho hx
    simp only [AV.rep, SV.rep] at h1
    exact ⟨.int k r, by simp [execOp, h1, Op.unary, Op.intArith, ← hr], rfl⟩
theorem h_com {tx : TypeId} {x : Operand} {k : IntKind} {m r : Int} (hx : ev T x = .s (.int k m)) (hr : xorK k (if k.signed then -1 else k.max) m = r) : HOk P ⟨d, .unOp .xor tx x, ty, pos, af, g⟩ T H (.s (.int k r)) [] :=
  .pure fun W ρ a w _ ho => by
    have h1 := one (op := .unOp .xor tx x) rfl ho hx
    simp only [AV.rep, SV.rep] at h1
    exact ⟨.int k r, by simp [execOp, h1, Op.unary, Op.intBits, ← hr, xorK], rfl⟩
theorem h_conv {src dst : TypeId} {x : Operand} {k k' : IntKind} {m r : Int} {ds : TypeDesc} (hx : ev T x = .s (.int k m)) (hs : P.underlying src = some ds) (hd : P.underlying dst = some (.int k')) (hr : k'.wrap m = r) :
    HOk P ⟨d, .convert src dst x, ty, pos, af, g⟩ T H (.s (.int k' r)) [] :=
  .pure fun W ρ a w _ ho => by
    have h1 := one (op := .convert src dst x) rfl ho hx
    simp only [AV.rep, SV.rep] at h1
    exact ⟨.int k' r, by simp [execOp, h1, convert, Sem.run_bind, run_underlying hs, run_underlying hd, Conv.intToInt, hr], rfl⟩
end rules
end Go.Ab
end

section
/- Rules for memory: new blocks, addresses, loads, stores. -/
namespace Go.Ab

/-! ### Places in a row -/
def segAt : List Seg → Nat → Option Seg
  | [], _ => none
  | s :: r, b => bif Nat.beq b 0 then some s else bif Nat.ble s.size b then segAt r (b - s.size) else none

theorem segAt_at : ∀ {l : List Seg} {b : Nat} {s : Seg}, segAt l b = some s → ∀ i, i < s.size → atS l (b + i) = some (s.at i)
  | [], _, _, h, _, _ => by simp [segAt] at h
  | s :: r, b, x, h, i, hi => by
    simp only [segAt] at h
    by_cases hb : Nat.beq b 0 = true
    · have : b = 0 := Nat.eq_of_beq_eq_true hb
      subst this
      simp at h
      subst h
      simp [atS, hi]
    · simp only [Bool.not_eq_true] at hb
      rw [hb] at h
      simp only [cond_false] at h
      by_cases hs : Nat.ble s.size b = true
      · rw [hs] at h
        simp only [cond_true] at h
        have hle : s.size ≤ b := Nat.le_of_ble_eq_true hs
        have ih := segAt_at h i hi
        simp only [atS]
        rw [if_neg (by omega), show b + i - s.size = b - s.size + i by omega]
        exact ih
      · simp only [Bool.not_eq_true] at hs
        rw [hs] at h
        simp at h

theorem atS_lt : ∀ {l : List Seg} {i : Nat} {x : SV}, atS l i = some x → i < sizeS l
  | [], _, _, h => by simp [atS] at h
  | s :: r, i, x, h => by
    simp only [atS] at h
    by_cases hi : i < s.size
    · simp [sizeS]; omega
    · rw [if_neg hi] at h
      have := atS_lt h
      simp [sizeS]; omega

theorem atS_some : ∀ {l : List Seg} {i : Nat}, i < sizeS l → ∃ x, atS l i = some x
  | [], _, h => by simp [sizeS] at h
  | s :: r, i, h => by
    simp only [atS]
    by_cases hi : i < s.size
    · exact ⟨_, by rw [if_pos hi]⟩
    · rw [if_neg hi]
      exact atS_some (by simp [sizeS] at h; omega)

/-- 'sub' is what lies at o, n cells. -/
def SubS (l : List Seg) (o n : Nat) (sub : List Seg) : Prop := sizeS sub = n ∧ ∀ j, j < n → atS sub j = atS l (o + j) ∧ ∃ x, atS l (o + j) = some x

theorem SubS.whole {l : List Seg} {n : Nat} (h : sizeS l = n) : SubS l 0 n l := ⟨h, fun j hj => ⟨by simp, by rw [Nat.zero_add]; exact atS_some (by omega)⟩⟩
theorem SubS.seg {l : List Seg} {o n : Nat} {s : Seg} (h : segAt l o = some s) (hn : s.size = n) : SubS l o n [s] :=
  ⟨by simp [sizeS, hn], fun j hj => by have := segAt_at h j (by omega); rw [this]; simp [atS, hn, hj]⟩
theorem SubS.ints {l : List Seg} {o i n m : Nat} {k : IntKind} {xs : List Int} (h : segAt l o = some (.ints k m xs)) (hn : i + n ≤ m) : SubS l (o + i) n [.ints k n ((xs.drop i).take n)] :=
  ⟨by simp [sizeS, Seg.size], fun j hj => by
    have := segAt_at h (i + j) (by simp [Seg.size]; omega)
    rw [show o + i + j = o + (i + j) by omega, this]
    refine ⟨?_, _, rfl⟩
    simp [atS, Seg.size, hj, Seg.at, List.getElem?_take]⟩
theorem SubS.two {l : List Seg} {o n m : Nat} {s : Seg} {r : List Seg} (h : segAt l o = some s) (hm : s.size = m) (hr : SubS l (o + m) n r) : SubS l o (m + n) (s :: r) := by
  refine ⟨by simp [sizeS, hr.1, hm], fun j hj => ?_⟩
  by_cases hjm : j < m
  · have := segAt_at h j (by omega)
    rw [this]; simp [atS, hm, hjm]
  · obtain ⟨h1, h2⟩ := hr.2 (j - m) (by omega)
    rw [show o + m + (j - m) = o + j by omega] at h1 h2
    refine ⟨?_, h2⟩
    simp only [atS]
    rw [if_neg (by omega), hm]; exact h1

def segSet : List Seg → Nat → Seg → List Seg
  | [], _, _ => []
  | s :: r, b, x => bif Nat.beq b 0 then x :: r else s :: segSet r (b - s.size) x

theorem segSet_at : ∀ {l : List Seg} {b : Nat} {s x : Seg}, segAt l b = some s → x.size = s.size → ∀ j, atS (segSet l b x) j = if b ≤ j ∧ j < b + s.size then some (x.at (j - b)) else atS l j
  | [], _, _, _, h, _, _ => by simp [segAt] at h
  | s :: r, b, y, x, h, hx, j => by
    simp only [segAt] at h
    simp only [segSet]
    by_cases hb : Nat.beq b 0 = true
    · have : b = 0 := Nat.eq_of_beq_eq_true hb
      subst this
      simp at h
      subst h
      simp only [hb, cond_true, atS, hx]
      by_cases hj : j < s.size <;> simp [hj]
    · simp only [Bool.not_eq_true] at hb
      rw [hb] at h
      simp only [cond_false] at h
      simp only [hb, cond_false, atS]
      by_cases hs : Nat.ble s.size b = true
      · rw [hs] at h
        simp only [cond_true] at h
        have hle : s.size ≤ b := Nat.le_of_ble_eq_true hs
        have ih := segSet_at h hx (j - s.size)
        by_cases hj : j < s.size
        · rw [if_pos hj, if_neg (by omega), if_pos hj]
        · rw [if_neg hj, ih, if_neg hj]
          by_cases h2 : b ≤ j ∧ j < b + y.size
          · rw [if_pos (by omega), if_pos h2]; congr 2; omega
          · rw [if_neg (by omega), if_neg h2]
      · simp only [Bool.not_eq_true] at hs
        rw [hs] at h
        simp at h

/-- 'l'' is l, with n cells of sub at o. -/
def PutS (l : List Seg) (o n : Nat) (sub l' : List Seg) : Prop := (0 < n ∧ o + n ≤ sizeS l) ∧ ∀ j x, atS l' j = some x → if o ≤ j ∧ j < o + n then atS sub (j - o) = some x else atS l j = some x

theorem segAt_size {l : List Seg} {b : Nat} {s : Seg} (h : segAt l b = some s) : b + s.size ≤ sizeS l := by
  rcases Nat.eq_zero_or_pos s.size with h0 | h0
  · induction l generalizing b with
    | nil => simp [segAt] at h
    | cons y r ih =>
      simp only [segAt] at h
      by_cases hb : Nat.beq b 0 = true
      · have : b = 0 := Nat.eq_of_beq_eq_true hb
        omega
      · simp only [Bool.not_eq_true] at hb
        rw [hb] at h
        simp only [cond_false] at h
        by_cases hs : Nat.ble y.size b = true
        · rw [hs] at h
          have hle : y.size ≤ b := Nat.le_of_ble_eq_true hs
          have := ih h
          simp [sizeS]; omega
        · simp only [Bool.not_eq_true] at hs
          rw [hs] at h
          simp at h
  · have := atS_lt (segAt_at h (s.size - 1) (by omega))
    omega

theorem PutS.whole {l sub : List Seg} {n : Nat} (h0 : 0 < n) (h : sizeS l = n) (hs : sizeS sub = n) : PutS l 0 n sub sub := by
  refine ⟨⟨h0, by omega⟩, fun j x hx => ?_⟩
  have := atS_lt hx
  rw [if_pos ⟨Nat.zero_le _, by omega⟩]; simpa using hx
theorem PutS.seg {l : List Seg} {o n : Nat} {s x : Seg} (h0 : 0 < n) (h : segAt l o = some s) (hn : s.size = n) (hx : x.size = n) : PutS l o n [x] (segSet l o x) := by
  refine ⟨⟨h0, by have := segAt_size h; omega⟩, fun j y hy => ?_⟩
  rw [segSet_at h (by omega) j] at hy
  by_cases hj : o ≤ j ∧ j < o + n
  · rw [if_pos (by omega)] at hy
    rw [if_pos hj]
    simp only [atS]
    rw [if_pos (by omega)]; exact hy
  · rw [if_neg (by omega)] at hy
    rw [if_neg hj]; exact hy

def spl (xs ys : List Int) (i n m : Nat) : List Int := (List.range m).map fun j => if i ≤ j ∧ j < i + n then ys.getD (j - i) 0 else xs.getD j 0

theorem PutS.ints {l : List Seg} {o i n m : Nat} {k : IntKind} {xs ys : List Int} (h0 : 0 < n) (h : segAt l o = some (.ints k m xs)) (hn : i + n ≤ m) : PutS l (o + i) n [.ints k n ys] (segSet l o (.ints k m (spl xs ys i n m))) := by
  refine ⟨⟨h0, by have := segAt_size h; simp [Seg.size] at this; omega⟩, fun j y hy => ?_⟩
  have e := segSet_at (x := .ints k m (spl xs ys i n m)) h rfl j
  have hsz : (Seg.ints k m xs).size = m := rfl
  rw [hsz] at e
  rw [e] at hy
  by_cases hj : o + i ≤ j ∧ j < o + i + n
  · rw [if_pos (by omega)] at hy
    rw [if_pos hj]
    have hs2 : (Seg.ints k n ys).size = n := rfl
    simp only [atS]
    rw [if_pos (by rw [hs2]; omega), ← hy]
    simp only [Seg.at, spl]
    have : j - o < m := by omega
    simp [this]
    rw [if_pos (by omega)]
    rw [show j - o - i = j - (o + i) by omega]
  · rw [if_neg hj]
    by_cases h2 : o ≤ j ∧ j < o + m
    · rw [if_pos h2] at hy
      rw [← hy]
      have h3 := segAt_at h (j - o) (by simp [Seg.size]; omega)
      rw [show o + (j - o) = j by omega] at h3
      rw [h3]
      simp only [Seg.at, spl]
      have : j - o < m := by omega
      simp [this]
      intro a b; omega
    · rw [if_neg h2] at hy; exact hy

/-! ### Closed rows -/
def cellOk : SV → Value → Bool
  | .int k n, .int k' n' => k == k' && n == n'
  | .bool b, .bool c => b == c
  | .nilp, .pointer none => true
  | .nils, .slice none 0 0 => true
  | .val (.string a), .string b => decide (a.data = b.data)
  | .val .nilFunc, .nilFunc => true
  | .val .nilIface, .nilIface => true
  | .val (.map none), .map none => true
  | _, _ => false

theorem cellOk_rep {x : SV} {v : Value} (h : cellOk x v = true) (ρ : Rho) : x.rep ρ v ∧ v.oneCell' = true := by
  unfold cellOk at h
  split at h <;> first
    | (simp_all [SV.rep, Value.oneCell']; done)
    | (have h := of_decide_eq_true h; exact ⟨⟨by rw [ByteArray.ext h], rfl⟩, rfl⟩)

def flatS : List Seg → List SV
  | [] => []
  | .one v :: r => v :: flatS r
  | .ints k _ l :: r => l.map (.int k) ++ flatS r
  | .svs n f :: r => (List.range n).map f ++ flatS r
def lensOk : List Seg → Bool
  | [] => true
  | .ints _ n l :: r => Nat.beq l.length n && lensOk r
  | _ :: r => lensOk r
def all2 : List SV → List Value → Bool
  | [], [] => true
  | x :: r, v :: s => cellOk x v && all2 r s
  | _, _ => false
def rowOk (segs : List Seg) (cs : Array Value) : Bool := lensOk segs && all2 (flatS segs) cs.toList

theorem atS_flat : ∀ {segs : List Seg}, lensOk segs = true → (flatS segs).length = sizeS segs ∧ ∀ i, atS segs i = (flatS segs)[i]?
  | [], _ => ⟨rfl, fun i => by simp [atS, flatS]⟩
  | .one v :: r, h => by
    obtain ⟨h1, h2⟩ := atS_flat (segs := r) (by simpa [lensOk] using h)
    refine ⟨by simp [flatS, sizeS, Seg.size, h1]; omega, fun i => ?_⟩
    cases i with
    | zero => simp [atS, Seg.size, flatS, Seg.at]
    | succ i => simp [atS, Seg.size, flatS, h2]
  | .ints k n l :: r, h => by
    simp only [lensOk, Bool.and_eq_true] at h
    have hl : l.length = n := Nat.eq_of_beq_eq_true h.1
    obtain ⟨h1, h2⟩ := atS_flat (segs := r) h.2
    have hs : (Seg.ints k n l).size = n := rfl
    refine ⟨by simp [flatS, sizeS, hs, h1, hl], fun i => ?_⟩
    simp only [atS, flatS, hs, h2]
    by_cases hi : i < n
    · rw [if_pos hi, List.getElem?_append_left (by simp [hl, hi])]
      simp [Seg.at, show i < l.length by omega]
    · rw [if_neg hi, List.getElem?_append_right (by simp [hl]; omega)]
      simp [hl]
  | .svs n f :: r, h => by
    obtain ⟨h1, h2⟩ := atS_flat (segs := r) (by simpa [lensOk] using h)
    have hs : (Seg.svs n f).size = n := rfl
    refine ⟨by simp [flatS, sizeS, hs, h1], fun i => ?_⟩
    simp only [atS, flatS, hs, h2]
    by_cases hi : i < n
    · rw [if_pos hi, List.getElem?_append_left (by simp [hi])]
      simp [Seg.at, hi]
    · rw [if_neg hi, List.getElem?_append_right (by simp; omega)]
      simp

theorem all2_get : ∀ {l : List SV} {vs : List Value}, all2 l vs = true → l.length = vs.length ∧ ∀ (i : Nat) (x : SV), l[i]? = some x → ∃ v, vs[i]? = some v ∧ cellOk x v = true
  | [], [], _ => ⟨rfl, fun i x h => by simp at h⟩
  | [], _ :: _, h => by simp [all2] at h
  | _ :: _, [], h => by simp [all2] at h
  | y :: r, v :: s, h => by
    simp only [all2, Bool.and_eq_true] at h
    obtain ⟨h1, h2⟩ := all2_get h.2
    refine ⟨by simp [h1], fun i x hx => ?_⟩
    cases i with
    | zero => simp at hx; subst hx; exact ⟨v, rfl, h.1⟩
    | succ i => simp at hx; obtain ⟨u, hu, hc⟩ := h2 i x hx; exact ⟨u, by simpa using hu, hc⟩

theorem rowOk_rep {segs : List Seg} {cs : Array Value} (h : rowOk segs cs = true) : cs.size = sizeS segs ∧ ∀ ρ, RowRep ρ segs (fun i => cs[i]?) := by
  simp only [rowOk, Bool.and_eq_true] at h
  obtain ⟨h1, h2⟩ := atS_flat h.1
  obtain ⟨h3, h4⟩ := all2_get h.2
  refine ⟨by rw [← h1, h3]; simp, fun ρ i x hx => ?_⟩
  rw [h2] at hx
  obtain ⟨v, hv, hc⟩ := h4 i x hx
  exact ⟨v, by simpa using hv, cellOk_rep hc ρ⟩

def upd (ρ : Rho) (n b : Nat) : Rho := fun i => if i = n then some (b, 0) else ρ i

theorem upd_le {ρ : Rho} {n b : Nat} (h : ρ n = none) : Rle ρ (upd ρ n b) := by
  intro i x hx
  unfold upd
  by_cases hi : i = n
  · subst hi; rw [h] at hx; cases hx
  · rw [if_neg hi]; exact hx

theorem New.one {ρ : Rho} {n : Nat} {k : Blk} {w : World} {cells : Array Value} {t : TypeId} (h : ρ n = none) (hr : ∀ ρ', Rle ρ ρ' → RowRep ρ' k.segs (fun i => cells[i]?)) :
    New ρ (upd ρ n w.heap.size) n [k] w (w.alloc (.cells cells t)) := by
  refine ⟨upd_le h, .alloc _ _, fun id b o e => ?_, fun i q hq b o e => ?_, fun id id' b o o' h1 h2 h3 h4 _ _ => by simp at h2 h4; omega⟩
  · by_cases hi : id = n
    · subst hi; simp [upd] at e; obtain ⟨rfl, rfl⟩ := e; exact .inr ⟨Nat.le_refl _, by simp, Nat.le_refl _, by simp⟩
    · simp [upd, hi] at e; exact .inl e
  · have hi : i = 0 := by
      rcases Nat.eq_zero_or_pos i with h0 | h0
      · exact h0
      · rw [List.getElem?_eq_none (by simp; omega)] at hq; cases hq
    subst hi
    simp at hq; subst hq
    simp [upd] at e; obtain ⟨rfl, rfl⟩ := e
    refine ⟨cells, t, (0, 0), heap_alloc_new _ _, fun _ => rfl, ?_⟩
    simpa using hr _ (upd_le h)

section rules
variable {P : Program} {T : Tm} {H : Heap} {d : Option Tmp} {ty : TypeId} {pos : String} {af : Array Edge} {g : Option (Nat × Bool)}

theorem h_alloc {t : TypeId} {z : Value} {segs : List Seg} {n : Nat} (hz : ∀ w, (zeroValue t).run P w = .ok z w) (hk : rowOk segs z.cells = true) (hn : H.length = n) :
    HOk P ⟨d, .alloc t, ty, pos, af, g⟩ T H (.s (.ptr n 0 0)) [⟨true, segs⟩] := by
  subst hn
  intro W ρ a w hH hf ho next Q hq
  have hrun : (execOp a.eval ⟨d, .alloc t, ty, pos, af, g⟩).run P w = .ok (.value (.pointer (some ⟨w.heap.size, 0, none⟩))) (w.alloc (.cells z.cells t)) := by
    simp [execOp, Instr.alloc, Sem.run_bind, hz, newVar, newRow]
  rw [hrun]
  have h0 : ρ H.length = none := by have := hf 0 (by simp); simpa using this
  exact hq _ _ ⟨_, .one h0 (fun ρ' _ => (rowOk_rep hk).2 ρ'), w.heap.size, 0, by simp [upd], rfl⟩

theorem h_box_agg {t : TypeId} {x : Operand} {segs : List Seg} {n : Nat} (hx : ev T x = .agg segs) (hn : H.length = n) :
    HOk P ⟨d, .box t x, ty, pos, af, g⟩ T H (.s (.ptr n 0 0)) [⟨true, segs⟩] := by
  subst hn
  intro W ρ a w hH hf ho next Q hq
  obtain ⟨cs, h1, h2, h3⟩ := one (op := .box t x) rfl ho hx
  have hrun : (execOp a.eval ⟨d, .box t x, ty, pos, af, g⟩).run P w = .ok (.value (.pointer (some ⟨w.heap.size, 0, none⟩))) (w.alloc (.cells cs t)) := by
    simp [execOp, Instr.box, Sem.run_bind, newVar, newRow, h1, Value.cells]
  rw [hrun]
  have h0 : ρ H.length = none := by have := hf 0 (by simp); simpa using this
  exact hq _ _ ⟨_, .one h0 (fun ρ' hl => h3.le hl), w.heap.size, 0, by simp [upd], rfl⟩

theorem cells_one {v : Value} (h : v.oneCell' = true) : v.cells = #[v] := by cases v <;> simp_all [Value.cells, Value.oneCell']

theorem h_box {t : TypeId} {x : Operand} {v : SV} {n : Nat} (hx : ev T x = .s v) (hj : v ≠ .junk) (hn : H.length = n) :
    HOk P ⟨d, .box t x, ty, pos, af, g⟩ T H (.s (.ptr n 0 0)) [⟨true, [.one v]⟩] := by
  subst hn
  intro W ρ a w hH hf ho next Q hq
  have h1 : v.rep ρ (a.eval x) := one (op := .box t x) rfl ho hx
  have h2 := SV.oneCell h1 hj
  have hrun : (execOp a.eval ⟨d, .box t x, ty, pos, af, g⟩).run P w = .ok (.value (.pointer (some ⟨w.heap.size, 0, none⟩))) (w.alloc (.cells #[a.eval x] t)) := by
    simp [execOp, Instr.box, Sem.run_bind, newVar, newRow, cells_one h2]
  rw [hrun]
  have h0 : ρ H.length = none := by have := hf 0 (by simp); simpa using this
  refine hq _ _ ⟨_, .one h0 (fun ρ' hl i y hy => ?_), w.heap.size, 0, by simp [upd], rfl⟩
  simp only [atS, Seg.size] at hy
  by_cases hi : i < 1
  · have : i = 0 := by omega
    subst this
    simp [Seg.at] at hy
    subst hy
    exact ⟨_, rfl, SV.rep_le hl h1, h2⟩
  · simp [hi] at hy

theorem addr_add (b o n : Nat) : (⟨b, o, none⟩ : Addr).add n = ⟨b, o + n, none⟩ := by unfold Addr.add; split <;> simp_all

theorem h_indexAddr {t e : TypeId} {x i : Operand} {id base idx n sz r : Nat} {k : IntKind} {j : Int} (hx : ev T x = .s (.ptr id base idx)) (hi : ev T i = .s (.int k j))
    (hu : P.underlying t = some (.array n e)) (hs : ∀ w, (sizeOf e).run P w = .ok sz w) (h0 : 0 ≤ j) (h1 : j < n) (hr : idx + j.toNat * sz = r) :
    HOk P ⟨d, .indexAddr t x i, ty, pos, af, g⟩ T H (.s (.ptr id base r)) [] :=
  .pure fun W ρ a w _ ho => by
    obtain ⟨ha, hb⟩ := two (op := .indexAddr t x i) rfl ho hx hi
    simp only [AV.rep, SV.rep] at ha hb
    obtain ⟨b, o, hρ, ha⟩ := ha
    refine ⟨.pointer (some ⟨b, o + base + r, none⟩), ?_, b, o, hρ, rfl⟩
    simp [execOp, ha, hb, Instr.indexAt, asIntOf, Sem.run_bind, run_underlying hu, Instr.sureAddr, h0, h1, hs, addr_add, ← hr, Nat.add_assoc]

theorem h_indexAddr_sl {t e : TypeId} {x i : Operand} {id base idx len cap sz r : Nat} {k : IntKind} {j : Int} (hx : ev T x = .s (.slice id base idx len cap)) (hi : ev T i = .s (.int k j))
    (hu : P.underlying t = some (.slice e)) (hs : ∀ w, (sizeOf e).run P w = .ok sz w) (h0 : 0 ≤ j) (h1 : j < len) (hr : idx + j.toNat * sz = r) :
    HOk P ⟨d, .indexAddr t x i, ty, pos, af, g⟩ T H (.s (.ptr id base r)) [] :=
  .pure fun W ρ a w _ ho => by
    obtain ⟨ha, hb⟩ := two (op := .indexAddr t x i) rfl ho hx hi
    simp only [AV.rep, SV.rep] at ha hb
    obtain ⟨b, o, hρ, ha⟩ := ha
    refine ⟨.pointer (some ⟨b, o + base + r, none⟩), ?_, b, o, hρ, rfl⟩
    simp [execOp, ha, hb, Instr.indexAt, asIntOf, Sem.run_bind, run_underlying hu, h0, h1, hs, addr_add, ← hr, Nat.add_assoc]

theorem h_fieldAddr {t : TypeId} {x : Operand} {id base idx f r r2 : Nat} {fs : Array Field} {fd : Field} (hx : ev T x = .s (.ptr id base idx))
    (hu : P.underlying t = some (.struct fs)) (hf : fs[f]? = some fd) (hsz : ∀ (w : World) (a : Addr), a.spot = none → (fieldPlace a fd).run P w = .ok (a.add fd.offset) w) (hr : (base + fd.offset = r ∧ idx = r2) ∨ (base = r ∧ idx + fd.offset = r2)) :
    HOk P ⟨d, .fieldAddr t x f, ty, pos, af, g⟩ T H (.s (.ptr id r r2)) [] :=
  .pure fun W ρ a w _ ho => by
    have ha := one (op := .fieldAddr t x f) rfl ho hx
    simp only [AV.rep, SV.rep] at ha
    obtain ⟨b, o, hρ, ha⟩ := ha
    refine ⟨.pointer (some ⟨b, o + r + r2, none⟩), ?_, b, o, hρ, rfl⟩
    have : o + base + idx + fd.offset = o + r + r2 := by rcases hr with ⟨rfl, rfl⟩ | ⟨rfl, rfl⟩ <;> omega
    simp [execOp, ha, Instr.fieldAt, Sem.run_bind, run_underlying hu, hf, Instr.sureAddr, hsz, addr_add, this]

theorem h_nilCheck {x : Operand} {id base idx : Nat} (hx : ev T x = .s (.ptr id base idx)) : HOk P ⟨d, .nilCheck x, ty, pos, af, g⟩ T H (.s (.ptr id base idx)) [] :=
  .pure fun W ρ a w _ ho => by
    have ha := one (op := .nilCheck x) rfl ho hx
    simp only [AV.rep, SV.rep] at ha
    obtain ⟨b, o, hρ, ha⟩ := ha
    exact ⟨_, by simp [execOp, ha], b, o, hρ, rfl⟩

theorem cell_at {ρ : Rho} {k : Blk} {w : World} {b o i : Nat} {x : SV} (h : BRep ρ k w b o) (hx : atS k.segs i = some x) : ∃ v, w.cell? ⟨b, o + i, none⟩ = some v ∧ x.rep ρ v ∧ v.oneCell' = true := by
  obtain ⟨cells, t, fr, h1, h2, h3⟩ := h
  obtain ⟨v, hv, hc⟩ := h3 i x hx
  exact ⟨v, by simp [World.cell?, h1]; exact hv, hc⟩

theorem h_load {t : TypeId} {x : Operand} {id base idx : Nat} {k : Blk} {v : SV} (hx : ev T x = .s (.ptr id base idx)) (hb : H[id]? = some (some k)) (hv : atS k.segs (base + idx) = some v)
    (ha : ∀ w, (isAgg t).run P w = .ok false w) : HOk P ⟨d, .load t x, ty, pos, af, g⟩ T H (.s v) [] :=
  .pure fun W ρ a w hH ho => by
    have h1 := one (op := .load t x) rfl ho hx
    simp only [AV.rep, SV.rep] at h1
    obtain ⟨b, o, hρ, h1⟩ := h1
    obtain ⟨u, hu, hr⟩ := cell_at (hH.rep id b o k hρ hb).1 hv
    rw [← Nat.add_assoc] at hu
    refine ⟨u, ?_, hr.1⟩
    simp [execOp, h1, Instr.loadAt, Instr.sureAddr, loadVar, Sem.run_bind, ha, hu]

/-- Of a segment of integers. -/
theorem h_load_ints {t : TypeId} {x : Operand} {id base idx n : Nat} {kk : IntKind} {l : List Int} {k : Blk} {r : Int} (hx : ev T x = .s (.ptr id base idx)) (hb : H[id]? = some (some k)) (hs : segAt k.segs base = some (.ints kk n l))
    (hi : idx < n) (hr : l.getD idx 0 = r) (ha : ∀ w, (isAgg t).run P w = .ok false w) : HOk P ⟨d, .load t x, ty, pos, af, g⟩ T H (.s (.int kk r)) [] :=
  h_load hx hb (by rw [segAt_at hs idx hi, ← hr]; rfl) ha

theorem h_load_one {t : TypeId} {x : Operand} {id base : Nat} {v : SV} {k : Blk} (hx : ev T x = .s (.ptr id base 0)) (hb : H[id]? = some (some k)) (hs : segAt k.segs base = some (.one v))
    (ha : ∀ w, (isAgg t).run P w = .ok false w) : HOk P ⟨d, .load t x, ty, pos, af, g⟩ T H (.s v) [] :=
  h_load hx hb (by rw [segAt_at hs 0 (by simp [Seg.size])]; rfl) ha

theorem h_load_agg {t : TypeId} {x : Operand} {id base idx n : Nat} {sub : List Seg} {k : Blk} (hx : ev T x = .s (.ptr id base idx)) (hb : H[id]? = some (some k)) (hsub : SubS k.segs (base + idx) n sub)
    (ha : ∀ w, (isAgg t).run P w = .ok true w) (hs : ∀ w, (sizeOf t).run P w = .ok n w) : HOk P ⟨d, .load t x, ty, pos, af, g⟩ T H (.agg sub) [] :=
  .pure fun W ρ a w hH ho => by
    have h1 := one (op := .load t x) rfl ho hx
    simp only [AV.rep, SV.rep] at h1
    obtain ⟨b, o, hρ, h1⟩ := h1
    obtain ⟨cells, tt, fr, g1, g2, g3⟩ := (hH.rep id b o k hρ hb).1
    have hcs : ∃ cs : List Value, cs.length = n ∧ ∀ j, j < n → cs[j]? = cells[o + (base + idx + j)]? := by
      refine ⟨(cells.toList.drop (o + (base + idx))).take n, ?_, fun j hj => ?_⟩
      · rcases Nat.eq_zero_or_pos n with h0 | h0
        · simp [h0]
        · obtain ⟨y, hy⟩ := (hsub.2 (n - 1) (by omega)).2
          obtain ⟨v, hv, _⟩ := g3 _ y hy
          have : o + (base + idx + (n - 1)) < cells.size := by
            rcases Nat.lt_or_ge (o + (base + idx + (n - 1))) cells.size with h | h
            · exact h
            · simp [Array.getElem?_eq_none h] at hv
          simp; omega
      · simp [List.getElem?_take, hj, Nat.add_assoc]
    obtain ⟨cs, hl, hc⟩ := hcs
    have hload := run_loadCells_list (P := P) w ⟨b, o + base + idx, none⟩ cs (fun j v hv => by
      have hj : j < n := by
        rcases Nat.lt_or_ge j n with h | h
        · exact h
        · rw [List.getElem?_eq_none (by omega)] at hv; cases hv
      rw [addr_add]
      have := hc j hj
      simp [World.cell?, g1]
      rw [show o + base + idx + j = o + (base + idx + j) by omega, ← this, hv])
    rw [hl] at hload
    refine ⟨.agg cs.toArray, ?_, cs.toArray, rfl, by simp [hl, hsub.1], fun i y hy => ?_⟩
    · simp [execOp, h1, Instr.loadAt, Instr.sureAddr, loadVar, Sem.run_bind, ha, hs, hload]
    · have hi : i < n := by rw [← hsub.1]; exact atS_lt hy
      rw [(hsub.2 i hi).1] at hy
      obtain ⟨v, hv, hr⟩ := g3 _ y hy
      exact ⟨v, by simp [hc i hi]; exact hv, hr⟩

/-! ### Stores -/
theorem HRep.write {W : Nat → Prop} {ρ : Rho} {H : Heap} {w : World} {id b o n p : Nat} {segs sub segs' : List Seg} {cells : Array Value} {t : TypeId} {cs : List Value} (hH : HRep W ρ H w) (hρ : ρ id = some (b, o)) (hb : H[id]? = some (some ⟨true, segs⟩))
    (hc : w.heap[b]? = some (.cells cells t (0, 0))) (hr : RowRep ρ segs (fun i => cells[o + i]?)) (hp : PutS segs p n sub segs') (hcs : cs.length = n) (hsub : RowRep ρ sub (fun i => cs[i]?)) (hfit : o + p + n ≤ cells.size) :
    HRep W ρ (H.set id (some ⟨true, segs'⟩)) (w.setRow b (cells.toList.take (o + p) ++ cs ++ cells.toList.drop (o + p + cs.length)).toArray) := by
  have hlen : id < H.length := by
    rcases Nat.lt_or_ge id H.length with h | h
    · exact h
    · rw [List.getElem?_eq_none h] at hb; cases hb
  have hget : ∀ (j : Nat) (q : Blk), (H.set id (some ⟨true, segs'⟩))[j]? = some (some q) → (j = id ∧ q = ⟨true, segs'⟩) ∨ (j ≠ id ∧ H[j]? = some (some q)) := by
    intro j q h
    by_cases hj : id = j
    · subst hj
      simp [hlen] at h
      exact .inl ⟨rfl, h.symm⟩
    · rw [List.getElem?_set_ne hj] at h
      exact .inr ⟨fun e => hj e.symm, h⟩
  have hrw : ∀ (j : Nat) (q : Blk), (H.set id (some ⟨true, segs'⟩))[j]? = some (some q) → ∃ q', H[j]? = some (some q') ∧ q'.rw = q.rw := by
    intro j q h
    rcases hget j q h with ⟨rfl, rfl⟩ | ⟨_, h2⟩
    · exact ⟨_, hb, rfl⟩
    · exact ⟨q, h2, rfl⟩
  refine ⟨fun j b' o' h => by simp; exact hH.lt j b' o' h, fun j b' o' q h1 h2 => ?_, fun j j' b' o1 o2 q q' hne h1 h2 h3 h4 => ?_⟩
  · rcases hget j q h2 with ⟨rfl, rfl⟩ | ⟨hne, h3⟩
    · rw [hρ] at h1
      simp at h1
      obtain ⟨rfl, rfl⟩ := h1
      refine ⟨⟨_, t, (0, 0), setRow_heap _ _ _ _ _ _ hc, fun _ => rfl, fun i x hx => ?_⟩, fun _ => (hH.rep j b o _ hρ hb).2 rfl⟩
      have hput := hp.2 i x hx
      simp only [List.getElem?_toArray]
      by_cases hi : p ≤ i ∧ i < p + n
      · rw [if_pos hi] at hput
        obtain ⟨v, hv, hvr⟩ := hsub _ _ hput
        refine ⟨v, ?_, hvr⟩
        rw [List.getElem?_append_left (by simp; omega), List.getElem?_append_right (by simp; omega)]
        simp only [List.length_take, Array.length_toList]
        rw [show o + i - min (o + p) cells.size = i - p by omega]; exact hv
      · rw [if_neg hi] at hput
        obtain ⟨v, hv, hvr⟩ := hr _ _ hput
        refine ⟨v, ?_, hvr⟩
        by_cases hlt : i < p
        · rw [List.getElem?_append_left (by simp; omega), List.getElem?_append_left (by simp; omega)]
          simp only [List.getElem?_take]
          rw [if_pos (by omega)]
          simpa using hv
        · rw [List.getElem?_append_right (by simp; omega)]
          simp only [List.getElem?_drop, List.length_append, List.length_take, Array.length_toList]
          rw [show o + p + cs.length + (o + i - (min (o + p) cells.size + cs.length)) = o + i by omega]
          simpa using hv
    · have := hH.rep j b' o' q h1 h3
      refine ⟨?_, this.2⟩
      have hbb : b' ≠ b := by
        intro e
        subst e
        have := (hH.apart j id b' o' o q ⟨true, segs⟩ hne h1 hρ h3 hb).2
        simp at this
      exact this.1.world (setRow_other _ _ _ _ hbb)
  · obtain ⟨a1, a2, a3⟩ := hrw j q h3
    obtain ⟨c1, c2, c3⟩ := hrw j' q' h4
    have := hH.apart j j' b' o1 o2 a1 c1 hne h1 h2 a2 c2
    rw [← a3, ← c3]; exact this

theorem Fr.setRow {W : Nat → Prop} {w : World} {b : Nat} (cs : Array Value) (h : W b) : Fr W w (w.setRow b cs) :=
  ⟨rfl, rfl, rfl, by simp, fun k _ hn => setRow_other _ _ _ _ (fun e => hn (e ▸ h)), fun k o hk hc => by
    by_cases e : k = b
    · subst e
      obtain ⟨hl, hk'⟩ := Array.getElem?_eq_some_iff.1 hk
      unfold World.setRow
      show (w.heap.modify k _)[k]? = some o
      rw [Array.getElem?_eq_getElem (by simpa using hl), Array.getElem_modify_self, hk']
      cases o <;> first | rfl | (simp [Obj.isCells] at hc)
    · rw [setRow_other _ _ _ _ e]; exact hk⟩

/-- A store, of whatever cells. -/
theorem m_store {t : TypeId} {x y : Operand} {id base idx n : Nat} {segs sub segs' : List Seg} (hx : ev T x = .s (.ptr id base idx)) (hb : H[id]? = some (some ⟨true, segs⟩))
    (hy : ∀ (ρ : Rho) (v : Value), (ev T y).rep ρ v → v.cells.size = n ∧ RowRep ρ sub (fun i => v.cells[i]?) ∧ ∀ u ∈ v.cells.toList, u.oneCell' = true) (hp : PutS segs (base + idx) n sub segs') (hs : ∀ w, (sizeOf t).run P w = .ok n w) :
    MOk P ⟨d, .store t x y, ty, pos, af, g⟩ T H (.s .junk) (H.set id (some ⟨true, segs'⟩)) := by
  intro W ρ a w hH hn hW ho next Q hq
  have h1 : (ev T x).rep ρ (a.eval x) := ho x (by simp [Op.operands])
  have h2 : (ev T y).rep ρ (a.eval y) := ho y (by simp [Op.operands])
  rw [hx] at h1
  simp only [AV.rep, SV.rep] at h1
  obtain ⟨b, o, hρ, h1⟩ := h1
  obtain ⟨hsz, hsub, hone⟩ := hy ρ _ h2
  obtain ⟨⟨cells, tt, fr, g1, g2, g3⟩, hWb⟩ := hH.rep id b o _ hρ hb
  have hfr := g2 rfl
  subst hfr
  have hfit : o + (base + idx) + n ≤ cells.size := by
    have hle := hp.1
    obtain ⟨y, hy⟩ := atS_some (l := segs) (i := base + idx + n - 1) (by omega)
    obtain ⟨v, hv, _⟩ := g3 _ y hy
    have : o + (base + idx + n - 1) < cells.size := by
      rcases Nat.lt_or_ge (o + (base + idx + n - 1)) cells.size with h | h
      · exact h
      · simp [Array.getElem?_eq_none h] at hv
    omega
  have hst := run_storeCells_at P b (o + (base + idx)) tt (a.eval y).cells.toList 0 cells w g1 (by simp [hsz]; omega) hone
  have hrun : (execOp a.eval ⟨d, .store t x y, ty, pos, af, g⟩).run P w = .ok .skip (w.setRow b (cells.toList.take (o + (base + idx)) ++ (a.eval y).cells.toList ++ cells.toList.drop (o + (base + idx) + (a.eval y).cells.toList.length)).toArray) := by
    rw [Nat.add_zero] at hst
    simp only [Nat.add_assoc] at hst ⊢
    simp [execOp, h1, Instr.storeAt, Instr.sureAddr, storeVar, Sem.run_bind, hs, hsz, Nat.add_assoc] at hst ⊢
    rw [hst]; rfl
  rw [hrun]
  refine hq undef _ ⟨ρ, fun i hi => hn i (by simpa using hi), .refl _, ?_, Fr.setRow _ (hWb rfl), trivial⟩
  exact hH.write hρ hb g1 g3 hp (by simp [hsz]) (by simpa using hsub) hfit

theorem m_store_agg {t : TypeId} {x y : Operand} {id base idx n : Nat} {segs sub segs' : List Seg} (hx : ev T x = .s (.ptr id base idx)) (hy : ev T y = .agg sub) (hb : H[id]? = some (some ⟨true, segs⟩))
    (hp : PutS segs (base + idx) n sub segs') (hs : ∀ w, (sizeOf t).run P w = .ok n w) (hn : sizeS sub = n) :
    MOk P ⟨d, .store t x y, ty, pos, af, g⟩ T H (.s .junk) (H.set id (some ⟨true, segs'⟩)) := by
  refine m_store hx hb (fun ρ v h => ?_) hp hs
  rw [hy] at h
  obtain ⟨cs, h1, h2, h3⟩ := h
  subst h1
  refine ⟨by simp [Value.cells, h2, hn], h3, fun u hu => ?_⟩
  simp only [Value.cells] at hu
  obtain ⟨i, hi, e⟩ := List.getElem_of_mem hu
  obtain ⟨y, hy2⟩ := atS_some (l := sub) (i := i) (by rw [← h2]; simpa using hi)
  obtain ⟨v, hv, hc⟩ := h3 i y hy2
  have h5 : i < cs.size := by simpa using hi
  have h6 : cs[i]? = some cs[i] := by simp [h5]
  simp only at hv
  rw [h6] at hv
  simp at hv e
  rw [← e, hv]; exact hc.2

theorem m_store_s {t : TypeId} {x y : Operand} {id base idx : Nat} {segs segs' : List Seg} {v : SV} (hx : ev T x = .s (.ptr id base idx)) (hy : ev T y = .s v) (hj : v ≠ .junk) (hb : H[id]? = some (some ⟨true, segs⟩))
    (hp : PutS segs (base + idx) 1 [.one v] segs') (hs : ∀ w, (sizeOf t).run P w = .ok 1 w) :
    MOk P ⟨d, .store t x y, ty, pos, af, g⟩ T H (.s .junk) (H.set id (some ⟨true, segs'⟩)) := by
  refine m_store hx hb (fun ρ u h => ?_) hp hs
  rw [hy] at h
  have h1 : v.rep ρ u := h
  have h2 := SV.oneCell h1 hj
  rw [cells_one h2]
  refine ⟨rfl, fun i z hz => ?_, by simp [h2]⟩
  simp only [atS, Seg.size] at hz
  by_cases hi : i < 1
  · have : i = 0 := by omega
    subst this
    simp [Seg.at] at hz
    subst hz
    exact ⟨_, rfl, h1, h2⟩
  · simp [hi] at hz

theorem PutS.int1 {l : List Seg} {o i m : Nat} {k : IntKind} {xs : List Int} {y : Int} (h : segAt l o = some (.ints k m xs)) (hn : i < m) (hl : xs.length = m) : PutS l (o + i) 1 [.one (.int k y)] (segSet l o (.ints k m (xs.set i y))) := by
  refine ⟨⟨by omega, by have := segAt_size h; simp [Seg.size] at this; omega⟩, fun j z hz => ?_⟩
  have e := segSet_at (x := .ints k m (xs.set i y)) h rfl j
  have hsz : (Seg.ints k m xs).size = m := rfl
  rw [hsz] at e
  rw [e] at hz
  by_cases hj : o + i ≤ j ∧ j < o + i + 1
  · have : j = o + i := by omega
    subst this
    rw [if_pos (by omega)] at hz
    rw [if_pos hj, ← hz]
    simp [atS, Seg.size, Seg.at, show i < xs.length by omega]
  · rw [if_neg hj]
    by_cases h2 : o ≤ j ∧ j < o + m
    · rw [if_pos h2] at hz
      rw [← hz]
      have h3 := segAt_at h (j - o) (by simp [Seg.size]; omega)
      rw [show o + (j - o) = j by omega] at h3
      rw [h3]
      simp only [Seg.at]
      have : i ≠ j - o := by omega
      simp [List.getElem?_set_ne this]
    · rw [if_neg h2] at hz; exact hz

theorem m_store_int {t : TypeId} {x y : Operand} {id base idx m : Nat} {segs : List Seg} {k : IntKind} {n : Int} {xs : List Int} {r : Heap} (hx : ev T x = .s (.ptr id base idx)) (hy : ev T y = .s (.int k n)) (hb : H[id]? = some (some ⟨true, segs⟩))
    (hs : segAt segs base = some (.ints k m xs)) (hi : idx < m) (hl : xs.length = m) (hz : ∀ w, (sizeOf t).run P w = .ok 1 w) (hr : H.set id (some ⟨true, segSet segs base (.ints k m (xs.set idx n))⟩) = r) :
    MOk P ⟨d, .store t x y, ty, pos, af, g⟩ T H (.s .junk) r := by
  subst hr
  exact m_store_s hx hy (by simp) hb (PutS.int1 hs hi hl) hz

theorem m_store_one {t : TypeId} {x y : Operand} {id base : Nat} {segs : List Seg} {v u : SV} {r : Heap} (hx : ev T x = .s (.ptr id base 0)) (hy : ev T y = .s v) (hj : v ≠ .junk) (hb : H[id]? = some (some ⟨true, segs⟩))
    (hs : segAt segs base = some (.one u)) (hz : ∀ w, (sizeOf t).run P w = .ok 1 w) (hr : H.set id (some ⟨true, segSet segs base (.one v)⟩) = r) :
    MOk P ⟨d, .store t x y, ty, pos, af, g⟩ T H (.s .junk) r := by
  subst hr
  exact m_store_s hx hy hj hb (PutS.seg (by decide) hs rfl rfl) hz
end rules
end Go.Ab
end

section
/- Regions: in the text's order, and in whatever order the tape draws. -/
namespace Go.Ab

structure Env where
  P : Program
  W : Nat → Prop
  w0 : World
  ρ0 : Rho
  n : Nat
  nE : Nat
  hW : ∀ b, w0.heap.size ≤ b → W b
  hdom : ∀ id, nE ≤ id → ρ0 id = none

/-- The calls that are put off: marks of loops over functions, at which nothing was put off. -/
structure DefOk (w0 : World) (ds : List Deferred) (w : World) : Prop where
  nodup : ds.Nodup
  mark : ∀ d ∈ ds, ∃ D, d = { target := .collected D, args := #[] } ∧ w0.heap.size ≤ D ∧ w.heap[D]? = some (.deferred (some []))
theorem DefOk.nil (w0 w : World) : DefOk w0 [] w := ⟨List.nodup_nil, fun d h => by cases h⟩
theorem DefOk.ext {w0 w w' : World} {ds : List Deferred} (h : DefOk w0 ds w) (k : Ext w w') : DefOk w0 ds w' := ⟨h.nodup, fun d hd => by
  obtain ⟨D, e1, e2, e3⟩ := h.mark d hd
  exact ⟨D, e1, e2, k.obj e3⟩⟩
theorem DefOk.fr {W : Nat → Prop} {w0 w w' : World} {ds : List Deferred} (h : DefOk w0 ds w) (k : Fr W w w') : DefOk w0 ds w' := ⟨h.nodup, fun d hd => by
  obtain ⟨D, e1, e2, e3⟩ := h.mark d hd
  exact ⟨D, e1, e2, k.others D _ e3 rfl⟩⟩

def Rep (E : Env) (T : Tm) (H : Heap) (a : Act) (w : World) : Prop :=
  ∃ ρ, Rle E.ρ0 ρ ∧ (∀ id, H.length ≤ id → ρ id = none) ∧ HRep E.W ρ H w ∧ TRep ρ T a ∧ a.tmps.size = E.n ∧ DefOk E.w0 a.defers w ∧ Fr E.W E.w0 w

theorem Rep.drew {E : Env} {T : Tm} {H : Heap} {a : Act} {w : World} (h : Rep E T H a w) : Rep E T H a { w with drawn := w.drawn + 1 } := by
  obtain ⟨ρ, h1, h2, h3, h4, h5, h6, h7⟩ := h
  exact ⟨ρ, h1, h2, h3.ext (.drew w), h4, h5, h6.ext (.drew w), h7.ext (.drew w)⟩

theorem TRep.put {ρ : Rho} {T : Tm} {a : Act} {d : Option Tmp} {v : AV} {v' : Value} (h : TRep ρ T a) (hd : ∀ i, d = some i → i < a.tmps.size) (hv : v.rep ρ v') : TRep ρ (put T d v) (a.put d v') := by
  intro i
  cases d with
  | none => exact h i
  | some j =>
    simp only [Ab.put, Act.put, look_cons]
    rw [getD_set _ _ _ _ (hd j rfl)]
    by_cases hi : j = i
    · simp only [hi, if_true]; exact hv
    · simp only [hi, if_false]; exact h i

theorem TRep.le {ρ ρ' : Rho} {T : Tm} {a : Act} (h : TRep ρ T a) (hl : Rle ρ ρ') : TRep ρ' T a := fun i => AV.rep_le hl (h i)

theorem put_size (a : Act) (d : Option Tmp) (v : Value) : (a.put d v).tmps.size = a.tmps.size := by cases d <;> simp [Act.put]
theorem put_defers (a : Act) (d : Option Tmp) (v : Value) : (a.put d v).defers = a.defers := by cases d <;> simp [Act.put]

theorem ops_of {o : Oper} {T : Tm} {ρ : Rho} {a : Act} (h : TRep ρ T a) (hx : ∀ x ∈ o.op.operands, ∀ c, x = .const c → (ev T x).rep ρ c) (hg : ∀ x ∈ o.op.operands, ∀ c, x ≠ .global c) : Ops o T ρ a := by
  intro x hm
  cases x with
  | tmp t => exact h t
  | const c => exact hx _ hm c rfl
  | global c => exact absurd rfl (hg _ hm c)
  | func f => exact ⟨rfl, rfl⟩

/-- A constant that is what it says. -/
def constOk : Value → Bool
  | .int .. | .bool _ | .string _ | .nilFunc | .nilIface | .map none | .pointer none | .slice none 0 0 => true
  | _ => false
def operandOk : Operand → Bool
  | .const c => constOk c
  | _ => true

theorem operandOk_rep {x : Operand} (h : operandOk x = true) {T : Tm} {ρ : Rho} {a : Act} (hT : TRep ρ T a) : (ev T x).rep ρ (a.eval x) := by
  cases x with
  | tmp t => exact hT t
  | global g => trivial
  | func f => exact ⟨rfl, rfl⟩
  | const c =>
    simp only [operandOk] at h
    unfold constOk at h
    split at h <;> first
      | (cases h; done)
      | exact rfl
      | exact ⟨rfl, rfl⟩

def opOk (n : Nat) (o : Oper) : Bool := o.op.operands.all operandOk && (match o.dst with | some d => Nat.blt d n | none => true) && (match o.op with | .select .. => false | _ => true)

theorem opOk_ops {n : Nat} {o : Oper} (h : opOk n o = true) {T : Tm} {ρ : Rho} {a : Act} (hT : TRep ρ T a) : Ops o T ρ a := by
  simp only [opOk, Bool.and_eq_true, Array.all_eq_true_iff_forall_mem] at h
  exact fun x hx => operandOk_rep (h.1.1 x hx) hT

theorem opOk_dst {n : Nat} {o : Oper} (h : opOk n o = true) (i : Nat) (hi : o.dst = some i) : i < n := by
  simp only [opOk, Bool.and_eq_true, hi] at h
  exact Nat.blt_eq.mp h.1.2

/-- What a guard says. -/
inductive Guard (ops : Array Oper) (T : Tm) (o : Oper) : Bool → Prop
  | free (h : o.guard = none) : Guard ops T o true
  | on {j t : Nat} {b B : Bool} (h : o.guard = some (j, b)) (ht : (ops[j]?).bind (·.dst) = some t) (hv : look T t = .s (.bool B)) (hB : B = b) : Guard ops T o true
  | off {j t : Nat} {b B : Bool} (h : o.guard = some (j, b)) (ht : (ops[j]?).bind (·.dst) = some t) (hv : look T t = .s (.bool B)) (hB : B = !b) : Guard ops T o false

theorem Guard.wanted {ops : Array Oper} {T : Tm} {o : Oper} {c : Bool} (h : Guard ops T o c) {ρ : Rho} {a : Act}
    (hT : ∀ j b t, o.guard = some (j, b) → (ops[j]?).bind (·.dst) = some t → (look T t).rep ρ (a.tmps.getD t undef) ∧ t < a.tmps.size) : Region.wanted o (yielded ops a.tmps) = c := by
  cases h with
  | free h => simp [Region.wanted, h]
  | @on j t b B h ht hv hB =>
    obtain ⟨h1, h2⟩ := hT j b t h ht
    rw [hv] at h1
    have h1 : a.tmps.getD t undef = .bool B := h1
    have : a.tmps[t]? = some (.bool B) := by rw [← h1]; simp [h2]
    simp [Region.wanted, h, yielded, ht, this, hB]
  | @off j t b B h ht hv hB =>
    obtain ⟨h1, h2⟩ := hT j b t h ht
    rw [hv] at h1
    have h1 : a.tmps.getD t undef = .bool B := h1
    have : a.tmps[t]? = some (.bool B) := by rw [← h1]; simp [h2]
    simp [Region.wanted, h, yielded, ht, this, hB]

inductive HSteps (P : Program) (ops : Array Oper) : List Oper → Tm → Heap → Tm → Heap → Prop
  | nil {T H} : HSteps P ops [] T H T H
  | cons {o r T H v nb T' H'} (hg : Guard ops T o true) (h : HOk P o T H v nb) (k : HSteps P ops r (put T o.dst v) (H ++ nb.map some) T' H') : HSteps P ops (o :: r) T H T' H'
  | skip {o r T H T' H'} (hg : Guard ops T o false) (k : HSteps P ops r (put T o.dst (.s .junk)) H T' H') : HSteps P ops (o :: r) T H T' H'

inductive Steps (P : Program) (ops : Array Oper) : List Oper → Tm → Heap → Tm → Heap → Prop
  | nil {T H} : Steps P ops [] T H T H
  | cons {o r T H v nb T' H'} (hg : Guard ops T o true) (h : HOk P o T H v nb) (k : Steps P ops r (put T o.dst v) (H ++ nb.map some) T' H') : Steps P ops (o :: r) T H T' H'
  | wr {o r T H v H1 T' H'} (hg : Guard ops T o true) (h : MOk P o T H v H1) (k : Steps P ops r (put T o.dst v) H1 T' H') : Steps P ops (o :: r) T H T' H'
  | skip {o r T H T' H'} (hg : Guard ops T o false) (k : Steps P ops r (put T o.dst (.s .junk)) H T' H') : Steps P ops (o :: r) T H T' H'

theorem step_mok {E : Env} {ops : Array Oper} {Q : Exit → Act → World → Prop} {o : Oper} {i : Nat} (ho : ops[i]? = some o) (hok : opOk E.n o = true) {T : Tm} {H H1 : Heap} {v : AV} (hgn : ∀ j b t, o.guard = some (j, b) → (ops[j]?).bind (·.dst) = some t → t < E.n)
    (hg : Guard ops T o true) (h : MOk E.P o T H v H1) {a : Act} {w : World} (hr : Rep E T H a w) {K : Act → World → Prop} (hK : ∀ a' w', Rep E (put T o.dst v) H1 a' w' → K a' w') : wpOp E.P ops Q i K a w := by
  obtain ⟨ρ, h1, h2, h3, h4, h5, h6, h7⟩ := hr
  have hw := hg.wanted (ρ := ρ) (a := a) (fun j b t e1 e2 => ⟨h4 t, by rw [h5]; exact hgn j b t e1 e2⟩)
  unfold wpOp
  simp only [ho, hw, if_true]
  refine .inl (h E.W ρ a w h3 h2 (fun b hb => E.hW b (Nat.le_trans h7.size hb)) (opOk_ops hok h4) K Q ?_)
  rintro v' w' ⟨ρ', k1, k2, k3, k4, k5⟩
  exact hK _ _ ⟨ρ', h1.trans k2, k1, k3, (h4.le k2).put (fun i hi => by rw [h5]; exact opOk_dst hok i hi) k5, (put_size _ _ _).trans h5, (by rw [put_defers]; exact h6.fr k4), h7.trans k4⟩

theorem step_skip {E : Env} {ops : Array Oper} {Q : Exit → Act → World → Prop} {o : Oper} {i : Nat} (ho : ops[i]? = some o) (hok : opOk E.n o = true) {T : Tm} {H : Heap} (hgn : ∀ j b t, o.guard = some (j, b) → (ops[j]?).bind (·.dst) = some t → t < E.n)
    (hg : Guard ops T o false) {a : Act} {w : World} (hr : Rep E T H a w) {K : Act → World → Prop} (hK : ∀ a' w', Rep E (put T o.dst (.s .junk)) H a' w' → K a' w') : wpOp E.P ops Q i K a w := by
  obtain ⟨ρ, h1, h2, h3, h4, h5, h6, h7⟩ := hr
  have hw := hg.wanted (ρ := ρ) (a := a) (fun j b t e1 e2 => ⟨h4 t, by rw [h5]; exact hgn j b t e1 e2⟩)
  unfold wpOp
  simp only [ho, hw, Bool.false_eq_true, if_false]
  exact hK _ _ ⟨ρ, h1, h2, h3, h4.put (fun i hi => by rw [h5]; exact opOk_dst hok i hi) trivial, (put_size _ _ _).trans h5, (by rw [put_defers]; exact h6), h7⟩

def regionOk (n : Nat) (ops : Array Oper) : Bool := ops.all (opOk n)

theorem regionOk_op {n : Nat} {ops : Array Oper} (h : regionOk n ops = true) {i : Nat} {o : Oper} (ho : ops[i]? = some o) : opOk n o = true := by
  simp only [regionOk, Array.all_eq_true_iff_forall_mem] at h
  exact h o (Array.mem_of_getElem? ho)

theorem regionOk_guard {n : Nat} {ops : Array Oper} (h : regionOk n ops = true) (j : Nat) (t : Nat) (e : (ops[j]?).bind (·.dst) = some t) : t < n := by
  cases hj : ops[j]? with
  | none => simp [hj] at e
  | some o => simp [hj] at e; exact opOk_dst (regionOk_op h hj) t e

theorem steps_wpOps {E : Env} {ops : Array Oper} {Q : Exit → Act → World → Prop} (hok : regionOk E.n ops = true) {l : List Oper} {T T' : Tm} {H H' : Heap} (hs : Steps E.P ops l T H T' H') :
    ∀ (k : Nat), (∀ j, l[j]? = ops[k + j]?) → ∀ (a : Act) (w : World), Rep E T H a w → (∀ a' w', Rep E T' H' a' w' → Q .normal a' w') → wpOps E.P ops Q (List.range' k l.length) a w := by
  induction hs with
  | nil => exact fun k _ a w hr hq => hq a w hr
  | @cons o r T H v nb T' H' hg h _ ih =>
    intro k hl a w hr hq
    have h0 : ops[k]? = some o := by have := hl 0; simpa using this.symm
    rw [List.length_cons, List.range'_succ, wpOps_cons]
    exact step_mok h0 (regionOk_op hok h0) (fun j b t _ e => regionOk_guard hok j t e) hg h.mok hr (fun a' w' hr' => ih (k + 1) (fun j => by have := hl (j + 1); simpa [Nat.add_assoc, Nat.add_comm 1 j] using this) a' w' hr' hq)
  | @wr o r T H v H1 T' H' hg h _ ih =>
    intro k hl a w hr hq
    have h0 : ops[k]? = some o := by have := hl 0; simpa using this.symm
    rw [List.length_cons, List.range'_succ, wpOps_cons]
    exact step_mok h0 (regionOk_op hok h0) (fun j b t _ e => regionOk_guard hok j t e) hg h hr (fun a' w' hr' => ih (k + 1) (fun j => by have := hl (j + 1); simpa [Nat.add_assoc, Nat.add_comm 1 j] using this) a' w' hr' hq)
  | @skip o r T H T' H' hg _ ih =>
    intro k hl a w hr hq
    have h0 : ops[k]? = some o := by have := hl 0; simpa using this.symm
    rw [List.length_cons, List.range'_succ, wpOps_cons]
    exact step_skip h0 (regionOk_op hok h0) (fun j b t _ e => regionOk_guard hok j t e) hg hr (fun a' w' hr' => ih (k + 1) (fun j => by have := hl (j + 1); simpa [Nat.add_assoc, Nat.add_comm 1 j] using this) a' w' hr' hq)

/-! ### Whatever order -/
def maskOf (acc : Nat → Nat) : List Edge → Nat
  | [] => 0
  | e :: r => bif Region.binds .any e then (2 ^ e.on ||| acc e.on) ||| maskOf acc r else maskOf acc r
def tbl : List Oper → List Nat → List Nat
  | [], acc => acc
  | o :: r, acc => tbl r (acc ++ [maskOf (fun i => acc.getD i 0) o.after.toList])
/-- Whom an operation waits for, and whom these wait for. -/
def reach (ops : Array Oper) : List Nat := tbl ops.toList []

theorem maskOf_bit {acc : Nat → Nat} {j : Nat} : ∀ {es : List Edge}, (maskOf acc es).testBit j = true → ∃ e ∈ es, Region.binds .any e = true ∧ (e.on = j ∨ (acc e.on).testBit j = true)
  | [], h => by simp [maskOf] at h
  | e :: r, h => by
    simp only [maskOf] at h
    cases hb : Region.binds .any e with
    | false =>
      rw [hb] at h
      obtain ⟨e', h1, h2⟩ := maskOf_bit (es := r) h
      exact ⟨e', by simp [h1], h2⟩
    | true =>
      rw [hb] at h
      simp only [cond_true, Nat.testBit_or, Bool.or_eq_true, Nat.testBit_two_pow, decide_eq_true_eq] at h
      rcases h with (h | h) | h
      · exact ⟨e, by simp, hb, .inl h⟩
      · exact ⟨e, by simp, hb, .inr h⟩
      · obtain ⟨e', h1, h2⟩ := maskOf_bit (es := r) h
        exact ⟨e', by simp [h1], h2⟩

/-- From 'm' on all is done one behind the other; ahead of it in any order that the edges let. -/
def anyOkR (R : List Nat) (ops : Array Oper) (m : Nat) : Bool :=
  (List.range ops.size).all fun i => match ops[i]? with
    | none => false
    | some o =>
      Nat.beq (R.getD i 0) (maskOf (fun i => R.getD i 0) o.after.toList) &&
      ((o.after.all fun e => !Region.binds .any e || Nat.blt e.on i) &&
      if i < m then
        (List.range m).all fun j => match ops[j]? with
          | none => false
          | some p => match p.dst with
            | none => true
            | some d => (j == i || o.dst != some d) && (!(o.looksAt ops).contains d || (Nat.blt j i && (R.getD i 0).testBit j))
      else (List.range i).all fun j => (R.getD i 0).testBit j)
def anyOk (ops : Array Oper) (m : Nat) : Bool := anyOkR (reach ops) ops m

theorem anyOk_edge {ops : Array Oper} {m i : Nat} {o : Oper} (h : anyOk ops m = true) (ho : ops[i]? = some o) : ∀ e ∈ o.after, Region.binds .any e = true → e.on < i := by
  have hi : i < ops.size := (Array.getElem?_eq_some_iff.1 ho).1
  simp only [anyOk, anyOkR, List.all_eq_true, List.mem_range] at h
  have h1 := h i hi
  simp only [ho, Bool.and_eq_true, Array.all_eq_true_iff_forall_mem] at h1
  intro e he hb
  have := h1.2.1 e he
  simp only [hb, Bool.not_true, Bool.false_or] at this
  exact Nat.blt_eq.mp this

def Closed (ops : Array Oper) (listed : Array Bool) : Prop := ∀ (i : Nat) (o : Oper), ops[i]? = some o → listed.getD i false = true → ∀ e ∈ o.after, Region.binds .any e = true → listed.getD e.on false = true

theorem reach_listed {ops : Array Oper} {m : Nat} (h : anyOk ops m = true) {listed : Array Bool} (hc : Closed ops listed) : ∀ (i : Nat) (o : Oper) (j : Nat), ops[i]? = some o → ((reach ops).getD i 0).testBit j = true →
    (∀ e ∈ o.after, Region.binds .any e = true → listed.getD e.on false = true) → listed.getD j false = true := by
  intro i
  induction i using Nat.strongRecOn with
  | _ i ih =>
    intro o j ho hj ha
    have hi : i < ops.size := (Array.getElem?_eq_some_iff.1 ho).1
    have hedge := anyOk_edge h ho
    have h' := h
    simp only [anyOk, anyOkR, List.all_eq_true, List.mem_range] at h'
    have h1 := h' i hi
    simp only [ho, Bool.and_eq_true] at h1
    have h2 := Nat.eq_of_beq_eq_true h1.1
    rw [h2] at hj
    obtain ⟨e, he, hb, hon⟩ := maskOf_bit hj
    have he : e ∈ o.after := by simpa using he
    have hl := ha e he hb
    rcases hon with rfl | hon
    · exact hl
    · have hlt := hedge e he hb
      have hs : e.on < ops.size := by omega
      have hoe : ops[e.on]? = some ops[e.on] := by simp [hs]
      exact ih e.on hlt _ j hoe hon (hc e.on _ hoe hl)

theorem anyOk_tail {ops : Array Oper} {m i : Nat} {o : Oper} (h : anyOk ops m = true) (ho : ops[i]? = some o) (hm : m ≤ i) : ∀ j, j < i → ((reach ops).getD i 0).testBit j = true := by
  have hi : i < ops.size := (Array.getElem?_eq_some_iff.1 ho).1
  simp only [anyOk, anyOkR, List.all_eq_true, List.mem_range] at h
  have h1 := h i hi
  simp only [ho, Bool.and_eq_true] at h1
  have h2 := h1.2.2
  rw [if_neg (by omega)] at h2
  simpa [List.all_eq_true] using h2

theorem anyOk_head {ops : Array Oper} {m i j : Nat} {o p : Oper} {d : Nat} (h : anyOk ops m = true) (ho : ops[i]? = some o) (hm : i < m) (hj : j < m) (hp : ops[j]? = some p) (hd : p.dst = some d) :
    (j = i ∨ o.dst ≠ some d) ∧ (d ∈ o.looksAt ops → j < i ∧ ((reach ops).getD i 0).testBit j = true) := by
  have hi : i < ops.size := (Array.getElem?_eq_some_iff.1 ho).1
  simp only [anyOk, anyOkR, List.all_eq_true, List.mem_range] at h
  have h1 := h i hi
  simp only [ho, Bool.and_eq_true] at h1
  have h2 := h1.2.2
  rw [if_pos hm] at h2
  simp only [List.all_eq_true, List.mem_range] at h2
  have h3 := h2 j hj
  simp only [hp, hd, Bool.and_eq_true, Bool.or_eq_true, beq_iff_eq, bne_iff_ne, Bool.not_eq_true', List.contains_eq_mem, decide_eq_false_iff_not] at h3
  refine ⟨h3.1, fun hmem => ?_⟩
  rcases h3.2 with h4 | h4
  · exact absurd hmem h4
  · exact ⟨Nat.blt_eq.mp h4.1, h4.2⟩

theorem closed_prefix {ops : Array Oper} {m : Nat} (hany : anyOk ops m = true) {k : Nat} {listed : Array Bool} (hk : k ≤ ops.size) (hl : ∀ i, i < ops.size → listed.getD i false = decide (i < k)) : Closed ops listed := by
  intro i o ho hi e he hb
  have his : i < ops.size := (Array.getElem?_eq_some_iff.1 ho).1
  rw [hl i his] at hi
  have := anyOk_edge hany ho e he hb
  rw [hl _ (by omega)]
  simp at hi ⊢; omega

theorem tail_any {E : Env} {ops : Array Oper} {Q : Exit → Act → World → Prop} {m : Nat} (hok : regionOk E.n ops = true) (hany : anyOk ops m = true) {l : List Oper} {T T' : Tm} {H H' : Heap} (hs : Steps E.P ops l T H T' H') :
    ∀ (k : Nat), m ≤ k → k + l.length = ops.size → (∀ j, l[j]? = ops[k + j]?) → ∀ (fuel : Nat) (listed : Array Bool), l.length ≤ fuel → listed.size = ops.size → (∀ i, i < ops.size → listed.getD i false = decide (i < k)) → ∀ (a : Act) (w : World), Rep E T H a w → (∀ a' w', Rep E T' H' a' w' → Q .normal a' w') →
      wpAny E.P .any ops Q fuel listed a w := by
  have nothing : ∀ (k : Nat) (listed : Array Bool), k ≤ ops.size → listed.size = ops.size → (∀ i, i < ops.size → listed.getD i false = decide (i < k)) → ∀ i ∈ Region.ready .any ops listed, m ≤ k → i = k := by
    intro k listed hks hsz hl i hi hmk
    obtain ⟨hu, o, ho, hall⟩ := mem_ready.1 hi
    have hi : i < ops.size := (Array.getElem?_eq_some_iff.1 ho).1
    have hik : ¬ i < k := by
      intro hlt
      have := hl i hi
      simp [hsz, hi, hlt] at this hu
      rw [this] at hu; cases hu
    rcases Nat.lt_or_ge k i with h | h
    · have := reach_listed hany (closed_prefix hany hks hl) i o k ho (anyOk_tail hany ho (by omega) k h) hall
      rw [hl k (by omega)] at this
      simp at this
    · omega
  induction hs with
  | nil =>
    intro k hmk hk _ fuel listed _ hsz hl a w hr hq
    have hnil : Region.ready .any ops listed = [] := by
      cases hc : Region.ready .any ops listed with
      | nil => rfl
      | cons x xs =>
        have hx : x ∈ Region.ready .any ops listed := by simp [hc]
        have := nothing k listed (by simp at hk; omega) hsz hl x hx hmk
        obtain ⟨_, o, ho, _⟩ := mem_ready.1 hx
        have hi : x < ops.size := (Array.getElem?_eq_some_iff.1 ho).1
        simp at hk
        omega
    exact wpAny_done hnil (hq a w hr) fuel
  | @cons o r T H v nb T' H' hg h _ ih =>
    intro k hmk hk hl0 fuel listed hf hsz hl a w hr hq
    obtain ⟨fuel, rfl⟩ : ∃ f, fuel = f + 1 := ⟨fuel - 1, by simp at hf; omega⟩
    have h0 : ops[k]? = some o := by have := hl0 0; simpa using this.symm
    have hks : k < ops.size := (Array.getElem?_eq_some_iff.1 h0).1
    have hrk : k ∈ Region.ready .any ops listed := mem_ready.2 ⟨by have := hl k hks; simp [hsz, hks] at this ⊢; exact this, o, h0, fun e he hb => by have := anyOk_edge hany h0 e he hb; rw [hl _ (by omega)]; simpa using this⟩
    refine ⟨fun hn => (by rw [hn] at hrk; cases hrk), fun i hi => ?_⟩
    have := nothing k listed (by omega) hsz hl i hi hmk
    subst this
    refine step_mok h0 (regionOk_op hok h0) (fun j b t _ e => regionOk_guard hok j t e) hg h.mok hr (fun a' w' hr' => ?_)
    refine ih (i + 1) (by omega) (by simp at hk; omega) (fun j => by have := hl0 (j + 1); simpa [Nat.add_assoc, Nat.add_comm 1 j] using this) fuel _ (by simpa using hf) (by simpa using hsz) (fun j hj => ?_) a' w' hr' hq
    by_cases hij : i = j
    · subst hij; simp [hsz, hj]
    · rw [getD_set_ne false hij, hl j hj]; simp; omega
  | @wr o r T H v H1 T' H' hg h _ ih =>
    intro k hmk hk hl0 fuel listed hf hsz hl a w hr hq
    obtain ⟨fuel, rfl⟩ : ∃ f, fuel = f + 1 := ⟨fuel - 1, by simp at hf; omega⟩
    have h0 : ops[k]? = some o := by have := hl0 0; simpa using this.symm
    have hks : k < ops.size := (Array.getElem?_eq_some_iff.1 h0).1
    have hrk : k ∈ Region.ready .any ops listed := mem_ready.2 ⟨by have := hl k hks; simp [hsz, hks] at this ⊢; exact this, o, h0, fun e he hb => by have := anyOk_edge hany h0 e he hb; rw [hl _ (by omega)]; simpa using this⟩
    refine ⟨fun hn => (by rw [hn] at hrk; cases hrk), fun i hi => ?_⟩
    have := nothing k listed (by omega) hsz hl i hi hmk
    subst this
    refine step_mok h0 (regionOk_op hok h0) (fun j b t _ e => regionOk_guard hok j t e) hg h hr (fun a' w' hr' => ?_)
    refine ih (i + 1) (by omega) (by simp at hk; omega) (fun j => by have := hl0 (j + 1); simpa [Nat.add_assoc, Nat.add_comm 1 j] using this) fuel _ (by simpa using hf) (by simpa using hsz) (fun j hj => ?_) a' w' hr' hq
    by_cases hij : i = j
    · subst hij; simp [hsz, hj]
    · rw [getD_set_ne false hij, hl j hj]; simp; omega
  | @skip o r T H T' H' hg _ ih =>
    intro k hmk hk hl0 fuel listed hf hsz hl a w hr hq
    obtain ⟨fuel, rfl⟩ : ∃ f, fuel = f + 1 := ⟨fuel - 1, by simp at hf; omega⟩
    have h0 : ops[k]? = some o := by have := hl0 0; simpa using this.symm
    have hks : k < ops.size := (Array.getElem?_eq_some_iff.1 h0).1
    have hrk : k ∈ Region.ready .any ops listed := mem_ready.2 ⟨by have := hl k hks; simp [hsz, hks] at this ⊢; exact this, o, h0, fun e he hb => by have := anyOk_edge hany h0 e he hb; rw [hl _ (by omega)]; simpa using this⟩
    refine ⟨fun hn => (by rw [hn] at hrk; cases hrk), fun i hi => ?_⟩
    have := nothing k listed (by omega) hsz hl i hi hmk
    subst this
    refine step_skip h0 (regionOk_op hok h0) (fun j b t _ e => regionOk_guard hok j t e) hg hr (fun a' w' hr' => ?_)
    refine ih (i + 1) (by omega) (by simp at hk; omega) (fun j => by have := hl0 (j + 1); simpa [Nat.add_assoc, Nat.add_comm 1 j] using this) fuel _ (by simpa using hf) (by simpa using hsz) (fun j hj => ?_) a' w' hr' hq
    by_cases hij : i = j
    · subst hij; simp [hsz, hj]
    · rw [getD_set_ne false hij, hl j hj]; simp; omega

end Go.Ab
end

section
/- A region that draws: ahead of 'm' in any order, from there on one behind the other. -/
namespace Go.Ab

def Tk (ops : Array Oper) (V : Nat → AV) (T0 : Tm) : Nat → Tm
  | 0 => T0
  | k + 1 => put (Tk ops V T0 k) ((ops[k]?).bind (·.dst)) (V k)
def Hk (N : Nat → List Blk) (H0 : Heap) : Nat → Heap
  | 0 => H0
  | k + 1 => Hk N H0 k ++ (N k).map some

def StepOk (P : Program) (ops : Array Oper) (V : Nat → AV) (N : Nat → List Blk) (T0 : Tm) (H0 : Heap) (k : Nat) : Prop :=
  ∃ o, ops[k]? = some o ∧ ((Guard ops (Tk ops V T0 k) o true ∧ HOk P o (Tk ops V T0 k) (Hk N H0 k) (V k) (N k)) ∨ (Guard ops (Tk ops V T0 k) o false ∧ V k = .s .junk ∧ N k = []))

theorem Tk_congr {ops : Array Oper} {V V' : Nat → AV} {T0 : Tm} : ∀ {k : Nat}, (∀ j, j < k → V j = V' j) → Tk ops V T0 k = Tk ops V' T0 k
  | 0, _ => rfl
  | k + 1, h => by simp only [Tk]; rw [Tk_congr (fun j hj => h j (by omega)), h k (by omega)]
theorem Hk_congr {N N' : Nat → List Blk} {H0 : Heap} : ∀ {k : Nat}, (∀ j, j < k → N j = N' j) → Hk N H0 k = Hk N' H0 k
  | 0, _ => rfl
  | k + 1, h => by simp only [Hk]; rw [Hk_congr (fun j hj => h j (by omega)), h k (by omega)]

theorem trace' {P : Program} {ops : Array Oper} {l : List Oper} {T T' : Tm} {H H' : Heap} (hs : HSteps P ops l T H T' H') (T0 : Tm) (H0 : Heap) :
    ∀ (i : Nat) (V0 : Nat → AV) (N0 : Nat → List Blk), (∀ j, j < l.length → l[j]? = ops[i + j]?) → T = Tk ops V0 T0 i → H = Hk N0 H0 i →
      ∃ V N, (∀ j, j < i → V j = V0 j ∧ N j = N0 j) ∧ (∀ k, i ≤ k → k < i + l.length → StepOk P ops V N T0 H0 k) ∧ Tk ops V T0 (i + l.length) = T' ∧ Hk N H0 (i + l.length) = H' := by
  induction hs with
  | nil => exact fun i V0 N0 _ hT hH => ⟨V0, N0, fun _ _ => ⟨rfl, rfl⟩, fun k h1 h2 => by simp at h2; omega, hT.symm, hH.symm⟩
  | @cons o r T H v nb T' H' hg h _ ih =>
    intro i V0 N0 hl hT hH
    have h0 : ops[i]? = some o := by have := hl 0 (by simp); simpa using this.symm
    let V1 : Nat → AV := fun j => if j = i then v else V0 j
    let N1 : Nat → List Blk := fun j => if j = i then nb else N0 j
    have eT : Tk ops V1 T0 i = T := by rw [hT]; exact Tk_congr fun j hj => by simp [V1, show j ≠ i by omega]
    have eH : Hk N1 H0 i = H := by rw [hH]; exact Hk_congr fun j hj => by simp [N1, show j ≠ i by omega]
    obtain ⟨V, N, k1, k2, k3, k4⟩ := ih (i + 1) V1 N1 (fun j hj => by have := hl (j + 1) (by simpa using hj); simpa [Nat.add_assoc, Nat.add_comm 1 j] using this) (by simp only [Tk, eT, h0, Option.bind_some]; simp [V1]) (by simp only [Hk, eH]; simp [N1])
    have vi : V i = v := by rw [(k1 i (by omega)).1]; simp [V1]
    have ni : N i = nb := by rw [(k1 i (by omega)).2]; simp [N1]
    refine ⟨V, N, fun j hj => ?_, fun k h1 h2 => ?_, by rw [List.length_cons, ← k3]; congr 1; omega, by rw [List.length_cons, ← k4]; congr 1; omega⟩
    · have := k1 j (by omega)
      simpa [V1, N1, show j ≠ i by omega] using this
    · by_cases hk : k = i
      · subst hk
        refine ⟨o, h0, .inl ?_⟩
        have e1 : Tk ops V T0 k = T := by rw [← eT]; exact Tk_congr fun j hj => (k1 j (by omega)).1
        have e2 : Hk N H0 k = H := by rw [← eH]; exact Hk_congr fun j hj => (k1 j (by omega)).2
        rw [e1, e2, vi, ni]; exact ⟨hg, h⟩
      · exact k2 k (by omega) (by simp at h2; omega)
  | @skip o r T H T' H' hg _ ih =>
    intro i V0 N0 hl hT hH
    have h0 : ops[i]? = some o := by have := hl 0 (by simp); simpa using this.symm
    let V1 : Nat → AV := fun j => if j = i then .s .junk else V0 j
    let N1 : Nat → List Blk := fun j => if j = i then [] else N0 j
    have eT : Tk ops V1 T0 i = T := by rw [hT]; exact Tk_congr fun j hj => by simp [V1, show j ≠ i by omega]
    have eH : Hk N1 H0 i = H := by rw [hH]; exact Hk_congr fun j hj => by simp [N1, show j ≠ i by omega]
    obtain ⟨V, N, k1, k2, k3, k4⟩ := ih (i + 1) V1 N1 (fun j hj => by have := hl (j + 1) (by simpa using hj); simpa [Nat.add_assoc, Nat.add_comm 1 j] using this) (by simp only [Tk, eT, h0, Option.bind_some]; simp [V1]) (by simp only [Hk, eH]; simp [N1])
    have vi : V i = .s .junk := by rw [(k1 i (by omega)).1]; simp [V1]
    have ni : N i = [] := by rw [(k1 i (by omega)).2]; simp [N1]
    refine ⟨V, N, fun j hj => ?_, fun k h1 h2 => ?_, by rw [List.length_cons, ← k3]; congr 1; omega, by rw [List.length_cons, ← k4]; congr 1; omega⟩
    · have := k1 j (by omega)
      simpa [V1, N1, show j ≠ i by omega] using this
    · by_cases hk : k = i
      · subst hk
        refine ⟨o, h0, .inr ?_⟩
        have e1 : Tk ops V T0 k = T := by rw [← eT]; exact Tk_congr fun j hj => (k1 j (by omega)).1
        rw [e1, vi, ni]; exact ⟨hg, rfl, rfl⟩
      · exact k2 k (by omega) (by simp at h2; omega)

/-- What slot t holds at k: the last one's value that wrote it, or what it held. -/
theorem look_Tk {ops : Array Oper} {V : Nat → AV} {T0 : Tm} (t : Nat) : ∀ (k : Nat),
    (∃ j, j < k ∧ (ops[j]?).bind (·.dst) = some t ∧ look (Tk ops V T0 k) t = V j) ∨ ((∀ j, j < k → (ops[j]?).bind (·.dst) ≠ some t) ∧ look (Tk ops V T0 k) t = look T0 t)
  | 0 => .inr ⟨fun j hj => absurd hj (by omega), rfl⟩
  | k + 1 => by
    simp only [Tk]
    cases hd : (ops[k]?).bind (·.dst) with
    | none =>
      rcases look_Tk (ops := ops) (V := V) (T0 := T0) t k with ⟨j, h1, h2, h3⟩ | ⟨h1, h2⟩
      · exact .inl ⟨j, by omega, h2, h3⟩
      · refine .inr ⟨fun j hj => ?_, h2⟩
        by_cases hk : j = k
        · subst hk; rw [hd]; simp
        · exact h1 j (by omega)
    | some d =>
      simp only [put, look_cons]
      by_cases hdt : d = t
      · subst hdt
        exact .inl ⟨k, by omega, hd, by simp⟩
      · rw [if_neg hdt]
        rcases look_Tk (ops := ops) (V := V) (T0 := T0) t k with ⟨j, h1, h2, h3⟩ | ⟨h1, h2⟩
        · exact .inl ⟨j, by omega, h2, h3⟩
        · refine .inr ⟨fun j hj => ?_, h2⟩
          by_cases hk : j = k
          · subst hk; rw [hd]; simpa using hdt
          · exact h1 j (by omega)

theorem Hk_le {N : Nat → List Blk} {H0 : Heap} {k m : Nat} (h : k ≤ m) : ∃ r, Hk N H0 m = Hk N H0 k ++ r := by
  induction m with
  | zero => have : k = 0 := by omega
            subst this; exact ⟨[], by simp⟩
  | succ m ih =>
    by_cases hk : k = m + 1
    · subst hk; exact ⟨[], by simp⟩
    · obtain ⟨r, hr⟩ := ih (by omega)
      exact ⟨r ++ (N m).map some, by simp only [Hk, hr, List.append_assoc]⟩

theorem Hk_len {N : Nat → List Blk} {H0 : Heap} {k m : Nat} (h : k < m) : (Hk N H0 k).length + (N k).length ≤ (Hk N H0 m).length := by
  obtain ⟨r, hr⟩ := Hk_le (N := N) (H0 := H0) (show k + 1 ≤ m by omega)
  rw [hr]; simp [Hk]

theorem HRep.sub_pre {W : Nat → Prop} {ρ : Rho} {H r : Heap} {w : World} (h : HRep W ρ (H ++ r) w) : HRep W ρ H w :=
  h.sub fun id k hk => by
    have : id < H.length := by
      rcases Nat.lt_or_ge id H.length with h | h
      · exact h
      · rw [List.getElem?_eq_none h] at hk; cases hk
    rw [List.getElem?_append_left this]; exact hk

/-- New blocks, among others that are told already. -/
theorem HRep.new' {W : Nat → Prop} {ρ ρ' : Rho} {H : Heap} {n : Nat} {nb : List Blk} {w w' : World} (h : HRep W ρ H w) (hW : ∀ b, w.heap.size ≤ b → W b)
    (hn : ∀ i, i < nb.length → ρ (n + i) = none) (hH : ∀ i, i < nb.length → H[n + i]? = some nb[i]?) (k : New ρ ρ' n nb w w') : HRep W ρ' H w' := by
  have key : ∀ id b o, ρ' id = some (b, o) → (ρ id = some (b, o) ∧ b < w.heap.size) ∨ (n ≤ id ∧ id < n + nb.length ∧ w.heap.size ≤ b ∧ b < w'.heap.size) := by
    intro id b o e
    rcases k.old id b o e with h1 | h1
    · exact .inl ⟨h1, h.lt _ _ _ h1⟩
    · exact .inr h1
  refine ⟨fun id b o e => ?_, fun id b o q e e2 => ?_, fun id id' b o o' q q' hne e e' e2 e2' => ?_⟩
  · rcases key id b o e with ⟨_, h3⟩ | h3
    · exact Nat.lt_of_lt_of_le h3 k.ext.size
    · exact h3.2.2.2
  · rcases key id b o e with ⟨h1, h3⟩ | h3
    · have := h.rep id b o q h1 e2
      exact ⟨(this.1.ext k.ext).le k.le, this.2⟩
    · have h4 := hH (id - n) (by omega)
      rw [show n + (id - n) = id by omega, e2] at h4
      have h5 := k.rep (id - n) q (Option.some.inj h4).symm b o (by rw [show n + (id - n) = id by omega]; exact e)
      exact ⟨h5, fun _ => hW b h3.2.2.1⟩
  · rcases key id b o e with ⟨h1, h3⟩ | h3 <;> rcases key id' b o' e' with ⟨h1', h3'⟩ | h3'
    · exact h.apart id id' b o o' q q' hne h1 h1' e2 e2'
    · omega
    · omega
    · exact absurd (k.apart id id' b o o' h3.1 h3.2.1 h3'.1 h3'.2.1 e e') hne

structure Inv (E : Env) (ops : Array Oper) (m : Nat) (V : Nat → AV) (N : Nat → List Blk) (T0 : Tm) (H0 : Heap) (listed : Array Bool) (a : Act) (w : World) : Prop where
  size : listed.size = ops.size
  closed : Closed ops listed
  late : ∀ i, m ≤ i → i < ops.size → listed.getD i false = false
  ex : ∃ ρ, Rle E.ρ0 ρ ∧ HRep E.W ρ (Hk N H0 m) w ∧
    (∀ t, (∀ j, j < m → listed.getD j false = true → (ops[j]?).bind (·.dst) = some t → (V j).rep ρ (a.tmps.getD t undef)) ∧ ((∀ j, j < m → (ops[j]?).bind (·.dst) ≠ some t) → (look T0 t).rep ρ (a.tmps.getD t undef))) ∧
    (∀ id x, ρ id = some x → id < H0.length ∨ ∃ j, j < m ∧ listed.getD j false = true ∧ (Hk N H0 j).length ≤ id ∧ id < (Hk N H0 j).length + (N j).length) ∧
    a.tmps.size = E.n ∧ DefOk E.w0 a.defers w ∧ Fr E.W E.w0 w

theorem looksAt_op {ops : Array Oper} {o : Oper} {t : Nat} (h : Operand.tmp t ∈ o.op.operands) : t ∈ o.looksAt ops := by
  unfold Oper.looksAt
  refine List.mem_append.2 (.inl (List.mem_filterMap.2 ⟨.tmp t, by simpa using h, rfl⟩))
theorem looksAt_guard {ops : Array Oper} {o : Oper} {j t : Nat} {b : Bool} (h : o.guard = some (j, b)) (ht : (ops[j]?).bind (·.dst) = some t) : t ∈ o.looksAt ops := by
  unfold Oper.looksAt
  refine List.mem_append.2 (.inr ?_)
  simp [h, ht]

theorem head_any {E : Env} {ops : Array Oper} {Q : Exit → Act → World → Prop} {m : Nat} (hok : regionOk E.n ops = true) (hany : anyOk ops m = true) (hm : m ≤ ops.size) {V : Nat → AV} {N : Nat → List Blk} {T0 : Tm} {H0 : Heap}
    (hstep : ∀ k, k < m → StepOk E.P ops V N T0 H0 k) {l : List Oper} (hl : ∀ j, l[j]? = ops[m + j]?) (hlen : m + l.length = ops.size) {T' : Tm} {H' : Heap} (htail : Steps E.P ops l (Tk ops V T0 m) (Hk N H0 m) T' H') (hQ : ∀ a' w', Rep E T' H' a' w' → Q .normal a' w') :
    ∀ (fuel : Nat) (us : List Nat) (listed : Array Bool) (a : Act) (w : World), (∀ j, j < m → listed.getD j false = false → j ∈ us) → us.length + l.length ≤ fuel → Inv E ops m V N T0 H0 listed a w → wpAny E.P .any ops Q fuel listed a w := by
  have finish : ∀ (fuel : Nat) (listed : Array Bool) (a : Act) (w : World), (∀ j, j < m → listed.getD j false = true) → l.length ≤ fuel → Inv E ops m V N T0 H0 listed a w → wpAny E.P .any ops Q fuel listed a w := by
    intro fuel listed a w hall hf hi
    refine tail_any hok hany htail m (Nat.le_refl _) hlen hl fuel listed hf hi.size (fun i his => ?_) a w ?_ hQ
    · rcases Nat.lt_or_ge i m with h | h
      · rw [hall i h]; simp [h]
      · rw [hi.late i h his]; simp; omega
    · obtain ⟨ρ, k1, k2, k3, k4, k5, k6, k7⟩ := hi.ex
      refine ⟨ρ, k1, fun id hid => ?_, k2, fun t => ?_, k5, k6, k7⟩
      · cases hr : ρ id with
        | none => rfl
        | some x =>
          rcases k4 id x hr with h | ⟨j, h1, _, _, h2⟩
          · obtain ⟨r, hr⟩ := Hk_le (N := N) (H0 := H0) (Nat.zero_le m)
            simp only [Hk] at hr
            rw [hr] at hid
            simp at hid; omega
          · have := Hk_len (N := N) (H0 := H0) h1
            omega
      · rcases look_Tk (ops := ops) (V := V) (T0 := T0) t m with ⟨j, h1, h2, h3⟩ | ⟨h1, h2⟩
        · rw [h3]; exact (k3 t).1 j h1 (hall j h1) h2
        · rw [h2]; exact (k3 t).2 h1
  intro fuel
  induction fuel with
  | zero =>
    intro us listed a w hus hf hi
    refine finish 0 listed a w (fun j hj => ?_) (by omega) hi
    cases hb : listed.getD j false with
    | true => rfl
    | false => have := hus j hj hb; have := List.length_pos_of_mem this; omega
  | succ fuel ih =>
    intro us listed a w hus hf hi
    by_cases hall : ∀ j, j < m → listed.getD j false = true
    · exact finish _ listed a w hall (by omega) hi
    have hex : ∃ j, j < m ∧ listed.getD j false = false := by
      apply Classical.byContradiction
      intro hn
      refine hall fun j hj => ?_
      cases hb : listed.getD j false with
      | true => rfl
      | false => exact absurd ⟨j, hj, hb⟩ hn
    -- the least unlisted one is ready
    have hready : ∃ j, j ∈ Region.ready .any ops listed := by
      have hleast : ∀ n, (∃ j, j ≤ n ∧ j < m ∧ listed.getD j false = false) → ∃ j, j < m ∧ listed.getD j false = false ∧ ∀ i, i < j → listed.getD i false = true := by
        intro n
        induction n with
        | zero =>
          rintro ⟨j, h1, h2, h3⟩
          have : j = 0 := by omega
          subst this
          exact ⟨0, h2, h3, fun i hi => absurd hi (by omega)⟩
        | succ n ihn =>
          rintro ⟨j, h1, h2, h3⟩
          by_cases hh : ∃ j, j ≤ n ∧ j < m ∧ listed.getD j false = false
          · exact ihn hh
          · refine ⟨j, h2, h3, fun i hi => ?_⟩
            cases hb : listed.getD i false with
            | true => rfl
            | false => exact absurd ⟨i, by omega, by omega, hb⟩ hh
      obtain ⟨j0, h1, h2⟩ := hex
      obtain ⟨j, hj, hjf, hji⟩ := hleast j0 ⟨j0, Nat.le_refl _, h1, h2⟩
      have hjs : j < ops.size := by omega
      have ho : ops[j]? = some ops[j] := by simp [hjs]
      exact ⟨j, mem_ready.2 ⟨by simp [hi.size, hjs] at hjf ⊢; exact hjf, _, ho, fun e he hb => hji _ (anyOk_edge hany ho e he hb)⟩⟩
    refine ⟨fun hn => (by obtain ⟨j, hj⟩ := hready; rw [hn] at hj; cases hj), fun i hir => ?_⟩
    obtain ⟨hun, o, ho, hedges⟩ := mem_ready.1 hir
    have his : i < ops.size := (Array.getElem?_eq_some_iff.1 ho).1
    have hif : listed.getD i false = false := by simp [hi.size, his] at hun ⊢; exact hun
    have him : i < m := by
      rcases Nat.lt_or_ge i m with h | h
      · exact h
      · obtain ⟨j, h1, h2⟩ := hex
        have := reach_listed hany hi.closed i o j ho (anyOk_tail hany ho h j (by omega)) hedges
        rw [h2] at this; cases this
    obtain ⟨ρ, k1, k2, k3, k4, k5, k6, k7⟩ := hi.ex
    obtain ⟨o', ho', hso⟩ := hstep i him
    rw [ho] at ho'
    cases ho'
    -- what it looks at is told
    have hlook : ∀ t, t ∈ o.looksAt ops → (look (Tk ops V T0 i) t).rep ρ (a.tmps.getD t undef) := by
      intro t ht
      rcases look_Tk (ops := ops) (V := V) (T0 := T0) t i with ⟨j, h1, h2, h3⟩ | ⟨h1, h2⟩
      · rw [h3]
        have hjs : j < ops.size := by omega
        have hp : ops[j]? = some ops[j] := by simp [hjs]
        have hd : ops[j].dst = some t := by rw [hp] at h2; simpa using h2
        have := (anyOk_head hany ho him (show j < m by omega) hp hd).2 ht
        exact (k3 t).1 j (by omega) (reach_listed hany hi.closed i o j ho this.2 hedges) h2
      · rw [h2]
        refine (k3 t).2 fun j hj hd => ?_
        by_cases hji : j < i
        · exact h1 j hji hd
        · have hjs : j < ops.size := by omega
          have hp : ops[j]? = some ops[j] := by simp [hjs]
          have hd' : ops[j].dst = some t := by rw [hp] at hd; simpa using hd
          have := (anyOk_head hany ho him hj hp hd').2 ht
          omega
    have hopk := regionOk_op hok ho
    have hopsrep : Ops o (Tk ops V T0 i) ρ a := by
      intro x hx
      simp only [opOk, Bool.and_eq_true, Array.all_eq_true_iff_forall_mem] at hopk
      cases x with
      | tmp t => exact hlook t (looksAt_op hx)
      | global g => trivial
      | func f => exact ⟨rfl, rfl⟩
      | const c =>
        have h := hopk.1.1 _ hx
        simp only [operandOk] at h
        unfold constOk at h
        split at h <;> first
          | (cases h; done)
          | exact rfl
          | exact ⟨rfl, rfl⟩
    have hdst : ∀ d, o.dst = some d → d < a.tmps.size := fun d hd => by rw [k5]; exact opOk_dst hopk d hd
    have hwant : ∀ c, Guard ops (Tk ops V T0 i) o c → Region.wanted o (yielded ops a.tmps) = c := fun c hg =>
      hg.wanted (ρ := ρ) fun j b t e1 e2 => ⟨hlook t (looksAt_guard e1 e2), by rw [k5]; exact regionOk_guard hok j t e2⟩
    have hW : ∀ b, w.heap.size ≤ b → E.W b := fun b hb => E.hW b (Nat.le_trans k7.size hb)
    obtain ⟨rest, hrest⟩ := Hk_le (N := N) (H0 := H0) (show i + 1 ≤ m by omega)
    have hrest' : Hk N H0 m = Hk N H0 i ++ ((N i).map some ++ rest) := by rw [hrest]; simp only [Hk, List.append_assoc]
    have hnone : ∀ i', i' < (N i).length → ρ ((Hk N H0 i).length + i') = none := by
      intro i' hi'
      cases hr : ρ ((Hk N H0 i).length + i') with
      | none => rfl
      | some x =>
        rcases k4 _ x hr with h | ⟨j, h1, h2, h3, h4⟩
        · obtain ⟨r, hr⟩ := Hk_le (N := N) (H0 := H0) (Nat.zero_le i)
          simp only [Hk] at hr
          rw [hr] at h; simp at h; omega
        · rcases Nat.lt_trichotomy i j with h5 | h5 | h5
          · have := Hk_len (N := N) (H0 := H0) h5; omega
          · subst h5; rw [hif] at h2; cases h2
          · have := Hk_len (N := N) (H0 := H0) h5; omega
    -- the step
    have hinv : ∀ (v' : Value) (w' : World) (ρ' : Rho), New ρ ρ' (Hk N H0 i).length (N i) w w' → (V i).rep ρ' v' → Inv E ops m V N T0 H0 (listed.setIfInBounds i true) (a.put o.dst v') w' := by
      intro v' w' ρ' hnew hv
      have hset : ∀ j, j ≠ i → (listed.setIfInBounds i true).getD j false = listed.getD j false := fun j hj => getD_set_ne false (Ne.symm hj)
      have hseti : (listed.setIfInBounds i true).getD i false = true := by simp [hi.size, his]
      refine ⟨by simpa using hi.size, fun j p hp hjl e he hb => ?_, fun j h1 h2 => by rw [hset j (by omega)]; exact hi.late j h1 h2, ρ', k1.trans hnew.le, ?_, fun t => ?_, fun id x hx => ?_, (put_size _ _ _).trans k5, (by rw [put_defers]; exact k6.ext hnew.ext), k7.ext hnew.ext⟩
      · have keep : ∀ x, listed.getD x false = true → (listed.setIfInBounds i true).getD x false = true := fun x hx => getD_set_true hx
        by_cases hji : j = i
        · subst hji
          rw [ho] at hp
          cases hp
          exact keep _ (hedges e he hb)
        · rw [hset j hji] at hjl
          exact keep _ (hi.closed j p hp hjl e he hb)
      · refine k2.new' hW hnone (fun i' hi' => ?_) hnew
        rw [hrest', List.getElem?_append_right (by omega), Nat.add_sub_cancel_left, List.getElem?_append_left (by simpa using hi')]
        simp [hi']
      · have hslot : (a.put o.dst v').tmps.getD t undef = if o.dst = some t then v' else a.tmps.getD t undef := by
          cases hd : o.dst with
          | none => simp [Act.put]
          | some d =>
            simp only [Act.put]
            rw [getD_set _ _ _ _ (hdst d hd)]
            simp
        rw [hslot]
        refine ⟨fun j hj hlj hdj => ?_, fun hno => ?_⟩
        · by_cases hji : j = i
          · subst hji
            rw [ho] at hdj
            have hdj : o.dst = some t := by simpa using hdj
            rw [if_pos hdj]; exact hv
          · have hjs : j < ops.size := by omega
            have hp : ops[j]? = some ops[j] := by simp [hjs]
            have hd' : ops[j].dst = some t := by rw [hp] at hdj; simpa using hdj
            have h1 := (anyOk_head hany ho him hj hp hd').1
            rw [if_neg (h1.resolve_left hji)]
            rw [hset j hji] at hlj
            exact AV.rep_le hnew.le ((k3 t).1 j hj hlj hdj)
        · have : o.dst ≠ some t := by have := hno i him; rw [ho] at this; simpa using this
          rw [if_neg this]
          exact AV.rep_le hnew.le ((k3 t).2 hno)
      · obtain ⟨b, off⟩ := x
        rcases hnew.old id b off hx with h | ⟨h1, h2, _, _⟩
        · rcases k4 id _ h with h | ⟨j, h1, h2, h3⟩
          · exact .inl h
          · refine .inr ⟨j, h1, ?_, h3⟩
            by_cases hji : j = i
            · subst hji; exact hseti
            · rw [hset j hji]; exact h2
        · exact .inr ⟨i, him, hseti, h1, h2⟩
    have hus' : ∀ j, j < m → (listed.setIfInBounds i true).getD j false = false → j ∈ us.erase i := by
      intro j hj hjf
      by_cases hji : j = i
      · subst hji; simp [hi.size, his] at hjf
      · rw [getD_set_ne false (Ne.symm hji)] at hjf
        exact (List.mem_erase_of_ne hji).2 (hus j hj hjf)
    have hlen' : (us.erase i).length + l.length ≤ fuel := by
      have hmem := hus i him hif
      rw [List.length_erase_of_mem hmem]
      have := List.length_pos_of_mem hmem
      omega
    unfold wpOp
    simp only [ho]
    rcases hso with ⟨hg, hh⟩ | ⟨hg, hv, hn⟩
    · rw [hwant _ hg]
      simp only [if_true]
      refine .inl (hh E.W ρ a w ((hrest' ▸ k2).sub_pre) hnone hopsrep _ Q ?_)
      rintro v' w' ⟨ρ', hnew, hv⟩
      exact ih (us.erase i) _ _ _ hus' hlen' (hinv v' w' ρ' hnew hv)
    · rw [hwant _ hg]
      simp only [Bool.false_eq_true, if_false]
      refine ih (us.erase i) _ _ _ hus' hlen' (hinv undef w ρ ?_ ?_)
      · rw [hn]; exact .nil (.refl _)
      · rw [hv]; trivial

theorem getD_rep_false (n j : Nat) : (Array.replicate n false).getD j false = false := by
  simp only [Array.getD_eq_getD_getElem?, Array.getElem?_replicate]
  split <;> rfl

theorem Rep.inv {E : Env} {ops : Array Oper} {m : Nat} {V : Nat → AV} {N : Nat → List Blk} {T0 : Tm} {H0 : Heap} {a : Act} {w : World} (h : Rep E T0 H0 a w) : Inv E ops m V N T0 H0 (Array.replicate ops.size false) a w := by
  obtain ⟨ρ, k1, k2, k3, k4, k5, k6, k7⟩ := h
  obtain ⟨r, hr⟩ := Hk_le (N := N) (H0 := H0) (Nat.zero_le m)
  simp only [Hk] at hr
  refine ⟨by simp, fun i o _ hi => (by rw [getD_rep_false] at hi; cases hi), fun i _ _ => getD_rep_false _ _, ρ, k1, ⟨k3.lt, fun id b o k h1 h2 => ?_, fun id id' b o o' k k' hne h1 h2 h3 h4 => ?_⟩, fun t => ⟨fun j _ hj => by (rw [getD_rep_false] at hj; cases hj), fun _ => k4 t⟩, fun id x hx => .inl ?_, k5, k6, k7⟩
  · have hid : id < H0.length := by
      rcases Nat.lt_or_ge id H0.length with h | h
      · exact h
      · rw [k2 id h] at h1; cases h1
    rw [hr, List.getElem?_append_left hid] at h2
    exact k3.rep id b o k h1 h2
  · have hid : id < H0.length := by
      rcases Nat.lt_or_ge id H0.length with h | h
      · exact h
      · rw [k2 id h] at h1; cases h1
    have hid' : id' < H0.length := by
      rcases Nat.lt_or_ge id' H0.length with h | h
      · exact h
      · rw [k2 id' h] at h2; cases h2
    rw [hr, List.getElem?_append_left hid] at h3
    rw [hr, List.getElem?_append_left hid'] at h4
    exact k3.apart id id' b o o' k k' hne h1 h2 h3 h4
  · rcases Nat.lt_or_ge id H0.length with h | h
    · exact h
    · rw [k2 id h] at hx; cases hx

/-- **A region that draws its order.** -/
theorem region_any {E : Env} {id : Nat} {ops : Array Oper} {Q : Exit → Act → World → Prop} {m : Nat} (hmix : E.P.follows .mixedOrders = true) (hok : regionOk E.n ops = true) (hany : anyOk ops m = true) {l1 l2 : List Oper} (hl : ops.toList = l1 ++ l2) (hm : l1.length = m)
    {T T1 T' : Tm} {H H1 H' : Heap} (h1 : HSteps E.P ops l1 T H T1 H1) (h2 : Steps E.P ops l2 T1 H1 T' H') {a : Act} {w : World} (hr : Rep E T H a w) (hQ : ∀ a' w', Rep E T' H' a' w' → Q .normal a' w') : (Code.region id ops true).wp E.P Q a w := by
  have hsz : ops.size = m + l2.length := by rw [← Array.length_toList, hl]; simp [hm]
  have hget : ∀ j, ops[j]? = (l1 ++ l2)[j]? := fun j => by rw [← Array.getElem?_toList, hl]
  have htake : ∀ (j : Nat), j < m → l1[j]? = ops[j]? := fun j hj => by rw [hget, List.getElem?_append_left (by omega)]
  -- the trace wants a list that goes on as ops does: taken up to m
  obtain ⟨V, N, _, k2, k3, k4⟩ := trace' h1 T H 0 (fun _ => .s .junk) (fun _ => []) (fun j hj => by rw [Nat.zero_add]; exact htake j (by omega)) rfl rfl
  rw [Nat.zero_add, hm] at k3 k4
  refine wp_region_any hmix ?_
  refine head_any hok hany (by omega) (fun k hk => k2 k (Nat.zero_le _) (by omega)) (l := l2) (fun j => ?_) (by omega) (k3 ▸ k4 ▸ h2) hQ ops.size (List.range m) _ a _ (fun j hj _ => List.mem_range.2 hj) (by simp; omega) hr.drew.inv
  rw [hget, List.getElem?_append_right (by omega), ← hm, Nat.add_sub_cancel_left]
end Go.Ab
end

section
/- Code, loops, calls, entry. -/
namespace Go.Ab

def Wp (E : Env) (c : Code) (T : Tm) (H : Heap) (Q : Exit → Tm → Heap → Prop) : Prop :=
  ∀ a w, Rep E T H a w → c.wp E.P (fun e a' w' => ∃ T' H', Q e T' H' ∧ Rep E T' H' a' w') a w

def Thn (K : Tm → Heap → Prop) (Q : Exit → Tm → Heap → Prop) : Exit → Tm → Heap → Prop
  | .normal, T, H => K T H
  | e, T, H => Q e T H
def Blo (i : Nat) (Q : Exit → Tm → Heap → Prop) : Exit → Tm → Heap → Prop
  | .exit j, T, H => if j = i then Q .normal T H else Q (.exit j) T H
  | e, T, H => Q e T H

section code
variable {E : Env} {T : Tm} {H : Heap} {Q : Exit → Tm → Heap → Prop}

theorem Wp.mono {c : Code} {Q' : Exit → Tm → Heap → Prop} (h : Wp E c T H Q) (hq : ∀ e T H, Q e T H → Q' e T H) : Wp E c T H Q' :=
  fun a w hr => wp_mono (h a w hr) fun _ _ _ ⟨T', H', h1, h2⟩ => ⟨T', H', hq _ _ _ h1, h2⟩

theorem w_skip (h : Q .normal T H) : Wp E .skip T H Q := fun _ _ hr => wp_skip ⟨T, H, h, hr⟩
theorem w_label {l : Nat} (h : Q .normal T H) : Wp E (.label l) T H Q := fun _ _ hr => wp_label ⟨T, H, h, hr⟩
theorem w_exit {i : Nat} (h : Q (.exit i) T H) : Wp E (.exit i) T H Q := fun _ _ hr => wp_exit ⟨T, H, h, hr⟩
theorem w_goto {i : Nat} (h : Q (.goto i) T H) : Wp E (.goto i) T H Q := fun _ _ hr => wp_goto ⟨T, H, h, hr⟩
theorem w_ret (h : Q .ret T H) : Wp E .ret T H Q := fun _ _ hr => wp_ret ⟨T, H, h, hr⟩
theorem w_seq {x y : Code} (h : Wp E x T H (Thn (fun T H => Wp E y T H Q) Q)) : Wp E (.seq x y) T H Q := by
  intro a w hr
  refine wp_seq (wp_mono (h a w hr) ?_)
  rintro e a' w' ⟨T', H', h1, h2⟩
  cases e with
  | normal => exact h1 a' w' h2
  | exit i => exact ⟨T', H', h1, h2⟩
  | goto l => exact ⟨T', H', h1, h2⟩
  | ret => exact ⟨T', H', h1, h2⟩
  | panic ch => exact ⟨T', H', h1, h2⟩
  | outgrown => exact ⟨T', H', h1, h2⟩
theorem w_block {i : Nat} {c : Code} (h : Wp E c T H (Blo i Q)) : Wp E (.block i c) T H Q := by
  intro a w hr
  refine wp_block (wp_mono (h a w hr) ?_)
  rintro e a' w' ⟨T', H', h1, h2⟩
  cases e with
  | normal => exact ⟨T', H', h1, h2⟩
  | exit j =>
    simp only [Exit.inBlock]
    simp only [Blo] at h1
    split <;> rename_i hj
    · rw [if_pos hj] at h1; exact ⟨T', H', h1, h2⟩
    · rw [if_neg hj] at h1; exact ⟨T', H', h1, h2⟩
  | goto l => exact ⟨T', H', h1, h2⟩
  | ret => exact ⟨T', H', h1, h2⟩
  | panic ch => exact ⟨T', H', h1, h2⟩
  | outgrown => exact ⟨T', H', h1, h2⟩

theorem eval_tmp {ρ : Rho} {a : Act} (hT : TRep ρ T a) {t : Nat} {b : Bool} (h : look T t = .s (.bool b)) : a.eval (.tmp t) = .bool b := by
  have := hT t
  rw [h] at this
  exact this

theorem w_cond {t : Nat} {x y : Code} {b : Bool} (hc : look T t = .s (.bool b)) (h1 : b = true → Wp E x T H Q) (h2 : b = false → Wp E y T H Q) : Wp E (.cond (.tmp t) x y) T H Q := by
  intro a w hr
  obtain ⟨ρ, k1, k2, k3, k4, k5, k6, k7⟩ := hr
  exact wp_cond_split (eval_tmp k4 hc) (fun e => h1 e a w ⟨ρ, k1, k2, k3, k4, k5, k6, k7⟩) (fun e => h2 e a w ⟨ρ, k1, k2, k3, k4, k5, k6, k7⟩)

theorem w_region {id : Nat} {ops : Array Oper} {T' : Tm} {H' : Heap} (hok : regionOk E.n ops = true) {l : List Oper} (hl : ops.toList = l) (hs : Steps E.P ops l T H T' H') (hq : Q .normal T' H') : Wp E (.region id ops false) T H Q := by
  subst hl
  intro a w hr
  refine wp_region ?_
  have := steps_wpOps (Q := fun e a' w' => ∃ T' H', Q e T' H' ∧ Rep E T' H' a' w') hok hs 0 (fun j => by simp) a w hr (fun a' w' hr' => ⟨T', H', hq, hr'⟩)
  simpa [List.range_eq_range'] using this

theorem w_region_any {id : Nat} {ops : Array Oper} (m : Nat) {T1 T' : Tm} {H1 H' : Heap} (hmix : E.P.follows .mixedOrders = true) (hok : regionOk E.n ops = true) (hany : anyOk ops m = true) {l1 l2 : List Oper} (hl : ops.toList = l1 ++ l2) (hm : l1.length = m)
    (h1 : HSteps E.P ops l1 T H T1 H1) (h2 : Steps E.P ops l2 T1 H1 T' H') (hq : Q .normal T' H') : Wp E (.region id ops true) T H Q :=
  fun _ _ hr => region_any hmix hok hany hl hm h1 h2 hr fun _ _ hr' => ⟨T', H', hq, hr'⟩

/-! ### Less is known -/
def SV.lowB (n : Nat) : SV → Bool
  | .ptr id _ _ => Nat.blt id n
  | .slice id _ _ _ _ => Nat.blt id n
  | .slx id _ _ _ => Nat.blt id n
  | .slf id _ _ _ _ => Nat.blt id n
  | .clo _ caps => caps.all fun c => Nat.blt c.1 n
  | _ => true
def Seg.lowB (n : Nat) : Seg → Bool
  | .one v => v.lowB n
  | .ints .. => true
  | .svs .. => false
def AV.lowB (n : Nat) : AV → Bool
  | .s v => v.lowB n
  | .agg l => l.all (Seg.lowB n)
  | .tup l => l.all fun | .s v => v.lowB n | .agg l => l.all (Seg.lowB n) | .tup _ => false
def belowAll (T : Tm) (H : Heap) : Bool := T.all (fun p => p.2.lowB H.length) && H.all fun | none => true | some k => k.segs.all (Seg.lowB H.length)

def cutR (ρ : Rho) (n : Nat) : Rho := fun id => if id < n then ρ id else none

theorem SV.rep_cut {ρ : Rho} {n : Nat} {x : SV} {v : Value} (h : x.rep ρ v) (hb : x.lowB n = true) : x.rep (cutR ρ n) v := by
  cases x <;> simp only [SV.rep, SV.lowB] at * <;> first
    | exact h
    | (obtain ⟨b, o, h1, h2⟩ := h; exact ⟨b, o, by simp [cutR, Nat.blt_eq.mp hb, h1], h2⟩)
    | (obtain ⟨b, o, c, h1, h2⟩ := h; exact ⟨b, o, c, by simp [cutR, Nat.blt_eq.mp hb, h1], h2⟩)
    | (obtain ⟨vs, h1, h2, h3⟩ := h; exact ⟨vs, h1, h2, fun i c hc => let ⟨b, o, h4, h5⟩ := h3 i c hc; ⟨b, o, by simp [cutR, Nat.blt_eq.mp (List.all_eq_true.1 hb c (List.mem_of_getElem? hc)), h4], h5⟩⟩)

theorem atS_below {n : Nat} : ∀ {l : List Seg} {i : Nat} {x : SV}, l.all (Seg.lowB n) = true → atS l i = some x → x.lowB n = true
  | [], _, _, _, h => by simp [atS] at h
  | s :: r, i, x, hb, h => by
    simp only [List.all_cons, Bool.and_eq_true] at hb
    simp only [atS] at h
    by_cases hi : i < s.size
    · rw [if_pos hi] at h
      have h := Option.some.inj h
      subst h
      cases s with
      | one v => exact hb.1
      | ints k m l => rfl
      | svs m f => simp [Seg.lowB] at hb
    · rw [if_neg hi] at h
      exact atS_below hb.2 h

theorem RowRep.cut {ρ : Rho} {n : Nat} {l : List Seg} {g : Nat → Option Value} (h : RowRep ρ l g) (hb : l.all (Seg.lowB n) = true) : RowRep (cutR ρ n) l g := fun i x hx => by
  obtain ⟨v, h1, h2, h3⟩ := h i x hx
  exact ⟨v, h1, SV.rep_cut h2 (atS_below hb hx), h3⟩

theorem AV.rep_cut {ρ : Rho} {n : Nat} {x : AV} {v : Value} (h : x.rep ρ v) (hb : x.lowB n = true) : x.rep (cutR ρ n) v := by
  cases x with
  | s x => exact SV.rep_cut h hb
  | agg l => obtain ⟨cs, e1, e2, e3⟩ := h; exact ⟨cs, e1, e2, e3.cut hb⟩
  | tup l =>
    obtain ⟨vs, e1, e2⟩ := h
    simp only [AV.lowB, List.all_eq_true] at hb
    refine ⟨vs, e1, fun i x hx => ?_⟩
    obtain ⟨u, hu, hr⟩ := e2 i x hx
    have h2 := hb x (List.mem_of_getElem? hx)
    refine ⟨u, hu, ?_⟩
    cases x with
    | s x => exact SV.rep_cut hr h2
    | agg l => obtain ⟨cs, e1, e2, e3⟩ := hr; exact ⟨cs, e1, e2, e3.cut h2⟩
    | tup l => exact hr.elim

def Weak (E : Env) (T : Tm) (H : Heap) (T' : Tm) (H' : Heap) : Prop := ∀ a w, Rep E T H a w → Rep E T' H' a w

theorem look_mem (T' : Tm) (t : Nat) : look T' t = .s .junk ∨ ∃ p ∈ T', p.1 = t ∧ look T' t = p.2 := by
  induction T' with
  | nil => exact .inl rfl
  | cons p r ih =>
    obtain ⟨j, v⟩ := p
    rw [look_cons]
    by_cases h : j = t
    · exact .inr ⟨(j, v), by simp, h, by simp [h]⟩
    · rw [if_neg h]
      rcases ih with h1 | ⟨p, h1, h2, h3⟩
      · exact .inl h1
      · exact .inr ⟨p, by simp [h1], h2, h3⟩

theorem weak {T' : Tm} {H' : Heap} (hT : ∀ p ∈ T', look T p.1 = p.2) (hH : H.take H'.length = H') (hb : belowAll T' H' = true) (hn : E.nE ≤ H'.length) : Weak E T H T' H' := by
  intro a w ⟨ρ, h1, h2, h3, h4, h5, h6, h7⟩
  simp only [belowAll, Bool.and_eq_true, List.all_eq_true] at hb
  have hget : ∀ (id : Nat) (k : Blk), H'[id]? = some (some k) → H[id]? = some (some k) := by
    intro id k hk
    rw [← hH] at hk
    rw [List.getElem?_take] at hk
    split at hk
    · exact hk
    · cases hk
  have hseg : ∀ (id : Nat) (k : Blk), H'[id]? = some (some k) → k.segs.all (Seg.lowB H'.length) = true := by
    intro id k hk
    exact hb.2 _ (List.mem_of_getElem? hk)
  have hc : ∀ id x, cutR ρ H'.length id = some x → ρ id = some x := by
    intro id x hx
    unfold cutR at hx
    split at hx
    · exact hx
    · cases hx
  refine ⟨cutR ρ H'.length, fun id x hx => ?_, fun id hid => by simp [cutR]; omega, ⟨fun id b o hr => h3.lt id b o (hc _ _ hr), fun id b o k hr hk => ?_, fun id id' b o o' k k' hne a1 a2 a3 a4 => h3.apart id id' b o o' k k' hne (hc _ _ a1) (hc _ _ a2) (hget _ _ a3) (hget _ _ a4)⟩, fun t => ?_, h5, h6, h7⟩
  · have := h1 id x hx
    have hid : id < H'.length := by
      rcases Nat.lt_or_ge id H'.length with h | h
      · exact h
      · rw [E.hdom id (by omega)] at hx; cases hx
    simp [cutR, hid, this]
  · obtain ⟨⟨cells, t, fr, g1, g2, g3⟩, hw⟩ := h3.rep id b o k (hc _ _ hr) (hget _ _ hk)
    exact ⟨⟨cells, t, fr, g1, g2, g3.cut (hseg id k hk)⟩, hw⟩
  · rcases look_mem T' t with h | ⟨p, hp, rfl, h⟩
    · rw [h]; trivial
    · rw [h]
      have hr := h4 p.1
      rw [hT p hp] at hr
      have hbl := hb.1 p hp
      cases hv : p.2 with
      | s v => rw [hv] at hr hbl; exact SV.rep_cut hr hbl
      | agg l =>
        rw [hv] at hr hbl
        obtain ⟨cs, e1, e2, e3⟩ := hr
        exact ⟨cs, e1, e2, e3.cut hbl⟩
      | tup l => rw [hv] at hr hbl; exact AV.rep_cut hr hbl

theorem w_weak {c : Code} {T' : Tm} {H' : Heap} (hw : Weak E T H T' H') (h : Wp E c T' H' Q) : Wp E c T H Q := fun a w hr => h a w (hw a w hr)

theorem w_loop {c : Code} (I : Nat → Tm → Heap → Prop) (n0 : Nat) (h0 : ∃ T' H', Weak E T H T' H' ∧ I n0 T' H')
    (round : ∀ n T H, I n T H → Wp E c T H (Thn (fun T1 H1 => ∃ n', n' < n ∧ ∃ T2 H2, Weak E T1 H1 T2 H2 ∧ I n' T2 H2) Q)) : Wp E (.loop c) T H Q := by
  intro a w hr
  obtain ⟨T', H', hw, hI⟩ := h0
  refine wp_loop_ghost (fun n a w => ∃ T H, I n T H ∧ Rep E T H a w) n0 ⟨T', H', hI, hw a w hr⟩ ?_
  rintro n a w ⟨T, H, hI, hr⟩
  refine wp_mono (round n T H hI a w hr) ?_
  rintro e a' w' ⟨T1, H1, h1, h2⟩
  cases e with
  | normal =>
    obtain ⟨n', hlt, T2, H2, hw2, hI2⟩ := h1
    exact ⟨n', hlt, T2, H2, hI2, hw2 _ _ h2⟩
  | exit i => exact ⟨T1, H1, h1, h2⟩
  | goto l => exact ⟨T1, H1, h1, h2⟩
  | ret => exact ⟨T1, H1, h1, h2⟩
  | panic ch => exact ⟨T1, H1, h1, h2⟩
  | outgrown => exact ⟨T1, H1, h1, h2⟩
end code

/-! ### Calls -/
def ArgsRep (ρ : Rho) (args : List AV) (vals : Array Value) : Prop := vals.size = args.length ∧ ∀ (i : Nat) (x : AV), args[i]? = some x → x.rep ρ (vals.getD i undef)

def ACall (P : Program) (f : FuncId) (H : Heap) (args : List AV) (v : AV) (nb : List Blk) : Prop :=
  ∀ (W : Nat → Prop) (ρ : Rho) (vals : Array Value) (w : World), HRep W ρ H w → (∀ i, i < nb.length → ρ (H.length + i) = none) → ArgsRep ρ args vals →
    Calls P f vals w fun e w' => ∃ v' ρ', e = .returned v' ∧ New ρ ρ' H.length nb w w' ∧ v.rep ρ' v'

def AMut (P : Program) (f : FuncId) (H : Heap) (args : List AV) (v : AV) (H' : Heap) : Prop :=
  ∀ (W : Nat → Prop) (ρ : Rho) (vals : Array Value) (w : World), HRep W ρ H w → (∀ id, H.length ≤ id → ρ id = none) → (∀ b, w.heap.size ≤ b → W b) → ArgsRep ρ args vals →
    Calls P f vals w fun e w' => ∃ v' ρ', e = .returned v' ∧ (∀ id, H'.length ≤ id → ρ' id = none) ∧ Rle ρ ρ' ∧ HRep W ρ' H' w' ∧ Fr W w w' ∧ v.rep ρ' v'

def Callable (P : Program) (f : FuncId) : Prop := ∃ fn, P.funcs[f]? = some fn ∧ (fn.name == "runtime.NumGoroutine") = false ∧ fn.body.isNone = false

section rules
variable {P : Program} {T : Tm} {H : Heap} {d : Option Tmp} {ty : TypeId} {pos : String} {af : Array Edge} {g : Option (Nat × Bool)}

theorem run_callFunc {f : FuncId} (hf : Callable P f) (vals : Array Value) (w : World) : (callFunc f vals).run P w = .ok (.enter f vals) w := by
  obtain ⟨fn, h1, h2, h3⟩ := hf
  have h2' : ¬ fn.name = "runtime.NumGoroutine" := by simpa using h2
  have h3' : ¬ fn.body = none := by intro h; rw [h] at h3; simp at h3
  simp [callFunc, Sem.run_bind, h1, h2', h3']

theorem run_call {f : FuncId} (hf : Callable P f) (xs : Array Operand) (at_ : Array TypeId) (a : Act) (w : World) :
    (execOp a.eval ⟨d, .call ⟨.value (.func f), xs, at_⟩, ty, pos, af, g⟩).run P w = .ok (.enter f (xs.map a.eval)) w := by
  simp [execOp, resolve, Deferred.ofValue, invoke, Act.eval, Sem.run_bind, run_callFunc hf]

theorem argsRep {xs : Array Operand} {at_ : Array TypeId} {f : FuncId} {args : List AV} {ρ : Rho} {a : Act} (ho : Ops ⟨d, .call ⟨.value (.func f), xs, at_⟩, ty, pos, af, g⟩ T ρ a) (hargs : xs.toList.map (ev T) = args) : ArgsRep ρ args (xs.map a.eval) := by
  subst hargs
  refine ⟨by simp, fun i x hx => ?_⟩
  simp at hx
  obtain ⟨y, hy, rfl⟩ := hx
  have hm : y ∈ (Op.call ⟨.value (.func f), xs, at_⟩).operands := by
    simp only [Op.operands, Call.operands]
    exact Array.mem_append.2 (.inr (Array.mem_of_getElem? hy))
  have := ho y hm
  simpa [hy] using this

theorem h_call {f : FuncId} {xs : Array Operand} {at_ : Array TypeId} {args : List AV} {v : AV} {nb : List Blk} (hf : Callable P f) (hargs : xs.toList.map (ev T) = args) (h : ACall P f H args v nb) :
    HOk P ⟨d, .call ⟨.value (.func f), xs, at_⟩, ty, pos, af, g⟩ T H v nb := by
  intro W ρ a w hH hn ho next Q hq
  rw [run_call hf]
  refine (h W ρ _ w hH hn (argsRep ho hargs)).mono ?_
  rintro e w' ⟨v', ρ', rfl, h1, h2⟩
  exact hq v' w' ⟨ρ', h1, h2⟩

theorem m_call {f : FuncId} {xs : Array Operand} {at_ : Array TypeId} {args : List AV} {v : AV} {H' : Heap} (hf : Callable P f) (hargs : xs.toList.map (ev T) = args) (h : AMut P f H args v H') :
    MOk P ⟨d, .call ⟨.value (.func f), xs, at_⟩, ty, pos, af, g⟩ T H v H' := by
  intro W ρ a w hH hn hW ho next Q hq
  rw [run_call hf]
  refine (h W ρ _ w hH hn hW (argsRep ho hargs)).mono ?_
  rintro e w' ⟨v', ρ', rfl, h1, h2, h3, h4, h5⟩
  exact hq v' w' ⟨ρ', h1, h2, h3, h4, h5⟩
end rules

/-! ### Entry -/
def argT : Nat → List AV → Tm
  | _, [] => []
  | i, v :: r => (i, v) :: argT (i + 1) r

theorem look_argT : ∀ (l : List AV) (i t : Nat), look (argT i l) t = if i ≤ t then (l[t - i]?).getD (.s .junk) else .s .junk
  | [], i, t => by simp [argT, look]
  | v :: r, i, t => by
    simp only [argT, look_cons, look_argT r (i + 1) t]
    by_cases h : i = t
    · subst h; simp
    · rw [if_neg h]
      by_cases h2 : i + 1 ≤ t
      · rw [if_pos h2, if_pos (by omega), show t - i = (t - (i + 1)) + 1 by omega]; simp
      · rw [if_neg h2, if_neg (by omega)]

/-- What a function gives back. -/
def Ret (E : Env) (fn : Func) (T : Tm) (H : Heap) (v : AV) : Prop :=
  ∀ (ρ : Rho) (a : Act) (w : World), HRep E.W ρ H w → TRep ρ T a → ∃ v', (results fn a.tmps).run E.P w = .ok v' w ∧ v.rep ρ v'

def Done (E : Env) (fn : Func) (v : AV) (H' : Heap) : Exit → Tm → Heap → Prop := fun e T H => (e = .ret ∨ e = .normal) ∧ Ret E fn T H v ∧ Weak E T H [] H'

theorem leaves_marks {P : Program} {fn : Func} {tmps : Array Value} {R : Ending → World → Prop} {W : Nat → Prop} {w0 : World} {ρ : Rho} {H : Heap} (hres : ∀ w, HRep W ρ H w → Fr W w0 w → ∃ v, (results fn tmps).run P w = .ok v w ∧ R (.returned v) w) :
    ∀ (ds : List Deferred) (w : World), DefOk w0 ds w → HRep W ρ H w → Fr W w0 w → LeavesInM Fence.wide 0 P fn tmps R ds .returning w := by
  intro ds
  induction ds with
  | nil =>
    intro w _ hH hF
    exact hres w hH hF
  | cons d ds ih =>
    intro w hd hH hF
    obtain ⟨D, e1, e2, e3⟩ := hd.mark d (by simp)
    have hlt : D < w.heap.size := (Array.getElem?_eq_some_iff.1 e3).1
    have ho : ∀ k, k ≠ D → (w.putObj D (.deferred none)).heap[k]? = w.heap[k]? := fun k hk => World.putObj_heap_other hk
    refine ⟨by simp, .inl ⟨D, w.putObj D (.deferred none), by rw [e1], run_takeDeferred e3, ih _ ⟨(List.nodup_cons.1 hd.nodup).2, fun d' hd' => ?_⟩ ⟨fun id b o h => by simpa using hH.lt id b o h, fun id b o k h hk => ?_, hH.apart⟩ ⟨hF.os, hF.tape, hF.output, by simpa using hF.size, fun k hk hn => ?_, fun k o hk hc => ?_⟩⟩⟩
    · obtain ⟨D', f1, f2, f3⟩ := hd.mark d' (by simp [hd'])
      refine ⟨D', f1, f2, ?_⟩
      rw [ho D' ?_]
      · exact f3
      · intro e
        subst e
        rw [← e1] at f1
        subst f1
        exact (List.nodup_cons.1 hd.nodup).1 hd'
    · have hr := hH.rep id b o k h hk
      refine ⟨hr.1.world (ho b ?_), hr.2⟩
      intro e
      subst e
      obtain ⟨cells, t, fr, g1, _⟩ := hr.1
      rw [e3] at g1; cases g1
    · rw [ho k (by omega)]; exact hF.block k hk hn
    · have : k < w0.heap.size := (Array.getElem?_eq_some_iff.1 hk).1
      rw [ho k (by omega)]; exact hF.others k o hk hc
theorem calls_enter {P : Program} {f : FuncId} {fn : Func} {c : Code} (hf : P.funcs[f]? = some fn) (hb : fn.body = some c) {W : Nat → Prop} {w : World} {ρ0 : Rho} {H0 : Heap} {args : List AV} {vals : Array Value} (hW : ∀ b, w.heap.size ≤ b → W b)
    (hH : HRep W ρ0 H0 w) (hdom : ∀ id, H0.length ≤ id → ρ0 id = none) (hargs : ArgsRep ρ0 args vals) (hn : args.length ≤ fn.ntmps) {R : Ending → World → Prop}
    (h : Wp ⟨P, W, w, ρ0, fn.ntmps, H0.length, hW, hdom⟩ c (argT 0 args) H0 (fun e T H => (e = .ret ∨ e = .normal) ∧ ∃ v, Ret ⟨P, W, w, ρ0, fn.ntmps, H0.length, hW, hdom⟩ fn T H v ∧
      ∀ v' ρ' w', v.rep ρ' v' → Rle ρ0 ρ' → HRep W ρ' H w' → (∀ id, H.length ≤ id → ρ' id = none) → Fr W w w' → R (.returned v') w')) : Calls P f vals w R := by
  refine (callsIn_wide (n := 0)).1 (callsIn_of_wp_marks hf hb trivial (wpIn_wide.2 (wp_mono (h _ w ⟨ρ0, .refl _, hdom, hH, fun t => ?_, ?_, DefOk.nil _ _, .refl _ _⟩) ?_)))
  · rw [look_argT, if_pos (Nat.zero_le _), Nat.sub_zero]
    cases hx : args[t]? with
    | none => trivial
    | some x =>
      have hlt : t < vals.size := by
        rw [hargs.1]
        exact (List.getElem?_eq_some_iff.1 hx).1
      have := hargs.2 t x hx
      simp only [Option.getD_some]
      simp only [Array.getD_eq_getD_getElem?] at this ⊢
      rw [Array.getElem?_append_left hlt]
      exact this
  · simp; have := hargs.1; omega
  · rintro e a' w' ⟨T, H, ⟨he, v, hret, hR⟩, ρ', k1, k2, k3, k4, k5, k6, k7⟩
    have hl : LeavesInM Fence.wide 0 P fn a'.tmps R a'.defers .returning w' := leaves_marks (W := W) (w0 := w) (ρ := ρ') (H := H) (fun w2 h1 h2 => by
      obtain ⟨v', hv, hrep⟩ := hret ρ' a' w2 h1 k4
      exact ⟨v', hv, hR v' ρ' w2 hrep k1 h1 k2 h2⟩) a'.defers w' k6 k3 k7
    rcases he with rfl | rfl
    · exact hl
    · exact hl

theorem amut_of {P : Program} {f : FuncId} {fn : Func} {c : Code} (hf : P.funcs[f]? = some fn) (hb : fn.body = some c) {H0 H' : Heap} {args : List AV} {v : AV} (hn : args.length ≤ fn.ntmps)
    (h : ∀ E : Env, E.P = P → E.n = fn.ntmps → E.nE = H0.length → Wp E c (argT 0 args) H0 (fun e T H => (e = .ret ∨ e = .normal) ∧ H = H' ∧ Ret E fn T H v)) : AMut P f H0 args v H' := by
  intro W ρ vals w hH hdom hW hargs
  refine calls_enter hf hb hW hH hdom hargs hn ((h ⟨P, W, w, ρ, fn.ntmps, H0.length, hW, hdom⟩ rfl rfl rfl).mono ?_)
  rintro e T H ⟨he, rfl, hret⟩
  exact ⟨he, v, hret, fun v' ρ' w' h1 h2 h3 h4 h5 => ⟨v', ρ', rfl, h4, h2, h3, h5, h1⟩⟩

/-! Results -/
theorem ret_tmp {E : Env} {fn : Func} {T : Tm} {H : Heap} {v : AV} {t : Nat} (hr : fn.results = #[.tmp t]) (hv : look T t = v) : Ret E fn T H v := by
  intro ρ a w hH hT
  refine ⟨a.tmps.getD t undef, by simp [results, hr, Sem.run_bind], ?_⟩
  rw [← hv]; exact hT t

theorem run_load_sub {P : Program} {ρ : Rho} {k : Blk} {w : World} {b o p n : Nat} {sub : List Seg} {ty : TypeId} (hB : BRep ρ k w b o) (hs : SubS k.segs p n sub)
    (ha : ∀ w, (isAgg ty).run P w = .ok true w) (hz : ∀ w, (sizeOf ty).run P w = .ok n w) : ∃ v', (loadVar ty ⟨b, o + p, none⟩).run P w = .ok v' w ∧ (AV.agg sub).rep ρ v' := by
  obtain ⟨cells, tt, fr, g1, g2, g3⟩ := hB
  have hcs : ∃ cs : List Value, cs.length = n ∧ ∀ j, j < n → cs[j]? = cells[o + (p + j)]? := by
    refine ⟨(cells.toList.drop (o + p)).take n, ?_, fun j hj => ?_⟩
    · rcases Nat.eq_zero_or_pos n with h0 | h0
      · simp [h0]
      · obtain ⟨y, hy⟩ := (hs.2 (n - 1) (by omega)).2
        obtain ⟨v, hv, _⟩ := g3 _ y hy
        have : o + (p + (n - 1)) < cells.size := by
          rcases Nat.lt_or_ge (o + (p + (n - 1))) cells.size with h | h
          · exact h
          · simp [Array.getElem?_eq_none h] at hv
        simp; omega
    · simp [List.getElem?_take, hj, Nat.add_assoc]
  obtain ⟨cs, hl, hc⟩ := hcs
  have hload := run_loadCells_list (P := P) w ⟨b, o + p, none⟩ cs (fun j v hv => by
    have hj : j < n := by
      rcases Nat.lt_or_ge j n with h | h
      · exact h
      · rw [List.getElem?_eq_none (by omega)] at hv; cases hv
    rw [addr_add]
    have := hc j hj
    simp [World.cell?, g1]
    rw [Nat.add_assoc, ← this, hv])
  rw [hl] at hload
  refine ⟨.agg cs.toArray, by simp [loadVar, Sem.run_bind, ha, hz, hload], cs.toArray, rfl, by simp [hl, hs.1], fun i y hy => ?_⟩
  have hi : i < n := by rw [← hs.1]; exact atS_lt hy
  rw [(hs.2 i hi).1] at hy
  obtain ⟨v, hv, hr⟩ := g3 _ y hy
  exact ⟨v, by simp only [List.getElem?_toArray]; rw [hc i hi]; exact hv, hr⟩

theorem ret_cell_agg {E : Env} {fn : Func} {T : Tm} {H : Heap} {p id n : Nat} {ty : TypeId} {k : Blk} {segs : List Seg} (hr : fn.results = #[.cell p ty]) (hp : look T p = .s (.ptr id 0 0)) (hb : H[id]? = some (some k)) (hs : SubS k.segs 0 n segs)
    (ha : ∀ w, (isAgg ty).run E.P w = .ok true w) (hz : ∀ w, (sizeOf ty).run E.P w = .ok n w) : Ret E fn T H (.agg segs) := by
  intro ρ a w hH hT
  have hx := hT p
  rw [hp] at hx
  obtain ⟨b, o, hρ, hx⟩ := hx
  obtain ⟨v', h3, h4⟩ := run_load_sub (P := E.P) (hH.rep id b o k hρ hb).1 hs ha hz
  refine ⟨v', ?_, h4⟩
  have hx'' : a.tmps[p]?.getD undef = .pointer (some ⟨b, o, none⟩) := by simpa using hx
  simp [results, hr, Sem.run_bind, hx'', asAddr]
  simpa using h3

end Go.Ab
end

section
/- Short forms of the rules, as a walk types them. -/
namespace Go.Ab

def SK (P : Program) (ops : Array Oper) (l : List Oper) (T : Tm) (H : Heap) (K : Tm → Heap → Prop) : Prop := ∃ T' H', Steps P ops l T H T' H' ∧ K T' H'
def TK (P : Program) (ops : Array Oper) (l : List Oper) (T : Tm) (H : Heap) (l2 : List Oper) (K : Tm → Heap → Prop) : Prop := ∃ T1 H1, HSteps P ops l T H T1 H1 ∧ SK P ops l2 T1 H1 K

section steps
variable {P : Program} {ops : Array Oper} {T : Tm} {H : Heap} {ty : TypeId} {pos : String} {af : Array Edge} {r l2 : List Oper} {op : Op} {d : Nat} {K : Tm → Heap → Prop}

theorem s_nil (h : K T H) : SK P ops [] T H K := ⟨T, H, .nil, h⟩
theorem s_p {v : AV} (h : HOk P ⟨some d, op, ty, pos, af, none⟩ T H v []) (k : SK P ops r ((d, v) :: T) H K) : SK P ops (⟨some d, op, ty, pos, af, none⟩ :: r) T H K :=
  let ⟨T', H', k1, k2⟩ := k
  ⟨T', H', .cons (.free rfl) h (by simpa [put] using k1), k2⟩
theorem s_a {v : AV} {b : Blk} {H1 : Heap} (h : HOk P ⟨some d, op, ty, pos, af, none⟩ T H v [b]) (e : H ++ [some b] = H1) (k : SK P ops r ((d, v) :: T) H1 K) : SK P ops (⟨some d, op, ty, pos, af, none⟩ :: r) T H K :=
  let ⟨T', H', k1, k2⟩ := k
  ⟨T', H', .cons (.free rfl) h (by subst e; simpa [put] using k1), k2⟩
theorem s_m {v : AV} {H1 : Heap} (h : MOk P ⟨some d, op, ty, pos, af, none⟩ T H v H1) (k : SK P ops r ((d, v) :: T) H1 K) : SK P ops (⟨some d, op, ty, pos, af, none⟩ :: r) T H K :=
  let ⟨T', H', k1, k2⟩ := k
  ⟨T', H', .wr (.free rfl) h k1, k2⟩
theorem s_st {v : AV} {H1 : Heap} (h : MOk P ⟨none, op, ty, pos, af, none⟩ T H v H1) (k : SK P ops r T H1 K) : SK P ops (⟨none, op, ty, pos, af, none⟩ :: r) T H K :=
  let ⟨T', H', k1, k2⟩ := k
  ⟨T', H', .wr (.free rfl) h k1, k2⟩
theorem s_on {j t : Nat} {b B : Bool} {v : AV} (ht : (ops[j]?).bind (·.dst) = some t) (hv : look T t = .s (.bool B)) (hB : B = b) (h : HOk P ⟨some d, op, ty, pos, af, some (j, b)⟩ T H v []) (k : SK P ops r ((d, v) :: T) H K) : SK P ops (⟨some d, op, ty, pos, af, some (j, b)⟩ :: r) T H K :=
  let ⟨T', H', k1, k2⟩ := k
  ⟨T', H', .cons (.on rfl ht hv hB) h (by simpa [put] using k1), k2⟩
theorem s_off {j t : Nat} {b B : Bool} (ht : (ops[j]?).bind (·.dst) = some t) (hv : look T t = .s (.bool B)) (hB : B = !b) (k : SK P ops r ((d, .s .junk) :: T) H K) : SK P ops (⟨some d, op, ty, pos, af, some (j, b)⟩ :: r) T H K :=
  let ⟨T', H', k1, k2⟩ := k
  ⟨T', H', .skip (.off rfl ht hv hB) k1, k2⟩

theorem t_nil (h : SK P ops l2 T H K) : TK P ops [] T H l2 K := ⟨T, H, .nil, h⟩
theorem t_p {v : AV} (h : HOk P ⟨some d, op, ty, pos, af, none⟩ T H v []) (k : TK P ops r ((d, v) :: T) H l2 K) : TK P ops (⟨some d, op, ty, pos, af, none⟩ :: r) T H l2 K :=
  let ⟨T', H', k1, k2⟩ := k
  ⟨T', H', .cons (.free rfl) h (by simpa [put] using k1), k2⟩
theorem t_a {v : AV} {b : Blk} {H1 : Heap} (h : HOk P ⟨some d, op, ty, pos, af, none⟩ T H v [b]) (e : H ++ [some b] = H1) (k : TK P ops r ((d, v) :: T) H1 l2 K) : TK P ops (⟨some d, op, ty, pos, af, none⟩ :: r) T H l2 K :=
  let ⟨T', H', k1, k2⟩ := k
  ⟨T', H', .cons (.free rfl) h (by subst e; simpa [put] using k1), k2⟩
theorem t_on {j t : Nat} {b B : Bool} {v : AV} (ht : (ops[j]?).bind (·.dst) = some t) (hv : look T t = .s (.bool B)) (hB : B = b) (h : HOk P ⟨some d, op, ty, pos, af, some (j, b)⟩ T H v []) (k : TK P ops r ((d, v) :: T) H l2 K) : TK P ops (⟨some d, op, ty, pos, af, some (j, b)⟩ :: r) T H l2 K :=
  let ⟨T', H', k1, k2⟩ := k
  ⟨T', H', .cons (.on rfl ht hv hB) h (by simpa [put] using k1), k2⟩
theorem t_off {j t : Nat} {b B : Bool} (ht : (ops[j]?).bind (·.dst) = some t) (hv : look T t = .s (.bool B)) (hB : B = !b) (k : TK P ops r ((d, .s .junk) :: T) H l2 K) : TK P ops (⟨some d, op, ty, pos, af, some (j, b)⟩ :: r) T H l2 K :=
  let ⟨T', H', k1, k2⟩ := k
  ⟨T', H', .skip (.off rfl ht hv hB) k1, k2⟩
end steps

section code
variable {E : Env} {T : Tm} {H : Heap} {Q : Exit → Tm → Heap → Prop} {K : Tm → Heap → Prop}
theorem c_reg {id : Nat} {ops : Array Oper} {l : List Oper} (hok : regionOk E.n ops = true) (hl : ops.toList = l) (h : SK E.P ops l T H (Q .normal)) : Wp E (.region id ops false) T H Q :=
  let ⟨_, _, k1, k2⟩ := h
  w_region hok hl k1 k2
theorem c_any {id : Nat} {ops : Array Oper} (m : Nat) {l1 l2 : List Oper} (hmix : E.P.follows .mixedOrders = true) (hok : regionOk E.n ops = true) (hany : anyOk ops m = true) (hl1 : ops.toList.take m = l1) (hl2 : ops.toList.drop m = l2) (hm : l1.length = m)
    (h : TK E.P ops l1 T H l2 (Q .normal)) : Wp E (.region id ops true) T H Q :=
  let ⟨_, _, k1, _, _, k2, k3⟩ := h
  w_region_any m hmix hok hany (by rw [← hl1, ← hl2, List.take_append_drop]) hm k1 k2 k3
theorem n_wp {y : Code} (h : Wp E y T H Q) : Thn (fun T H => Wp E y T H Q) Q .normal T H := h
theorem n_blo {i : Nat} (h : Q .normal T H) : Blo i Q .normal T H := h
theorem x_thn {i : Nat} (h : Q (.exit i) T H) : Thn K Q (.exit i) T H := h
theorem x_eq {i : Nat} (h : Q .normal T H) : Blo i Q (.exit i) T H := by simp only [Blo, if_true]; exact h
theorem x_ne {i j : Nat} (hn : (Nat.beq j i) = false) (h : Q (.exit j) T H) : Blo i Q (.exit j) T H := by
  have : j ≠ i := by intro e; subst e; simp at hn
  simp only [Blo, if_neg this]; exact h
theorem r_thn (h : Q .ret T H) : Thn K Q .ret T H := h
theorem r_blo {i : Nat} (h : Q .ret T H) : Blo i Q .ret T H := h

/-- A loop's head: the relation's state, told as it is. -/
theorem c_loop {c : Code} (I : Nat → Tm → Heap → Prop) (n0 : Nat) {T' : Tm} {H' : Heap} (h0 : I n0 T' H') (hw : Weak E T H T' H')
    (round : ∀ n T H, I n T H → Wp E c T H (Thn (fun T1 H1 => ∃ n', n' < n ∧ ∃ T2 H2, Weak E T1 H1 T2 H2 ∧ I n' T2 H2) Q)) : Wp E (.loop c) T H Q := w_loop I n0 ⟨T', H', hw, h0⟩ round
theorem n_round {I : Nat → Tm → Heap → Prop} {n : Nat} {T2 : Tm} {H2 : Heap} (n' : Nat) (hn : n' < n) (hI : I n' T2 H2) (hw : Weak E T H T2 H2) : Thn (fun T1 H1 => ∃ n', n' < n ∧ ∃ T2 H2, Weak E T1 H1 T2 H2 ∧ I n' T2 H2) Q .normal T H := ⟨n', hn, T2, H2, hw, hI⟩
end code

def AllLook (T : Tm) : Tm → Prop
  | [] => True
  | (i, v) :: r => look T i = v ∧ AllLook T r
theorem allLook {T T' : Tm} (h : AllLook T T') : ∀ p ∈ T', look T p.1 = p.2 := by
  induction T' with
  | nil => intro p hp; cases hp
  | cons q r ih =>
    intro p hp
    cases hp with
    | head => exact h.1
    | tail _ hm => exact ih h.2 p hm
theorem weak' {E : Env} {T T' : Tm} {H H' : Heap} (hT : AllLook T T') (hH : H.take H'.length = H') (hb : belowAll T' H' = true) (hn : E.nE ≤ H'.length) : Weak E T H T' H' := weak (allLook hT) hH hb hn

section ix
variable {P : Program} {T : Tm} {H : Heap} {d : Option Tmp} {ty : TypeId} {pos : String} {af : Array Edge} {g : Option (Nat × Bool)}
/-- An index that is a number, cells of one. -/
theorem h_ix {t e : TypeId} {x i : Operand} {id base n j : Nat} {k : IntKind} (hx : ev T x = .s (.ptr id base 0)) (hi : ev T i = .s (.int k (j : Int)))
    (hu : P.underlying t = some (.array n e)) (hs : ∀ w, (sizeOf e).run P w = .ok 1 w) (h1 : j < n) : HOk P ⟨d, .indexAddr t x i, ty, pos, af, g⟩ T H (.s (.ptr id base j)) [] :=
  h_indexAddr hx hi hu hs (by omega) (by omega) (by simp)
theorem h_pick_t {c x y : Operand} {B : Bool} {v : AV} (hc : ev T c = .s (.bool B)) (hB : B = true) (hx : ev T x = v) : HOk P ⟨d, .pick c x y, ty, pos, af, g⟩ T H v [] :=
  .pure fun W ρ a w _ ho => by
    have h1 : (ev T c).rep ρ (a.eval c) := ho c (by simp [Op.operands])
    have h2 : (ev T x).rep ρ (a.eval x) := ho x (by simp [Op.operands])
    rw [hc] at h1
    simp only [AV.rep, SV.rep] at h1
    subst hB
    exact ⟨a.eval x, by simp [execOp, h1, asBool], hx ▸ h2⟩
theorem h_pick_f {c x y : Operand} {B : Bool} {v : AV} (hc : ev T c = .s (.bool B)) (hB : B = false) (hy : ev T y = v) : HOk P ⟨d, .pick c x y, ty, pos, af, g⟩ T H v [] :=
  .pure fun W ρ a w _ ho => by
    have h1 : (ev T c).rep ρ (a.eval c) := ho c (by simp [Op.operands])
    have h2 : (ev T y).rep ρ (a.eval y) := ho y (by simp [Op.operands])
    rw [hc] at h1
    simp only [AV.rep, SV.rep] at h1
    subst hB
    exact ⟨a.eval y, by simp [execOp, h1, asBool], hy ▸ h2⟩
theorem h_extract {x : Operand} {l : List AV} {i : Nat} {v : AV} (hx : ev T x = .tup l) (hv : l[i]? = some v) (hnt : ∀ q, v ≠ .tup q) : HOk P ⟨d, .extract x i, ty, pos, af, g⟩ T H v [] :=
  .pure fun W ρ a w _ ho => by
    have h1 := one (op := .extract x i) rfl ho hx
    obtain ⟨vs, e1, e2⟩ := h1
    obtain ⟨u, hu, hr⟩ := e2 i v hv
    refine ⟨u, by simp [execOp, e1, Instr.extract, hu], ?_⟩
    cases v with
    | s v => exact hr
    | agg l => exact hr
    | tup q => exact absurd rfl (hnt q)
theorem h_len {x : Operand} {id base idx len cap : Nat} {t : TypeId} {e : TypeId} {rt : TypeId} (hx : ev T x = .s (.slice id base idx len cap)) (hu : P.underlying t = some (.slice e)) : HOk P ⟨d, .call ⟨.builtin .len, #[x], #[t]⟩, rt, pos, af, g⟩ T H (.s (.int .i64 len)) [] :=
  .pure fun W ρ a w _ ho => by
    have h1 : (ev T x).rep ρ (a.eval x) := ho x (by simp [Op.operands, Call.operands])
    rw [hx] at h1
    obtain ⟨b, o, _, h1⟩ := h1
    exact ⟨.int .i64 len, by simp [execOp, resolve, invoke, builtin, Builtin.len_, run_underlying hu, h1, goInt], rfl⟩
theorem h_len_slx {x : Operand} {id base idx len : Nat} {t : TypeId} {e : TypeId} {rt : TypeId} (hx : ev T x = .s (.slx id base idx len)) (hu : P.underlying t = some (.slice e)) : HOk P ⟨d, .call ⟨.builtin .len, #[x], #[t]⟩, rt, pos, af, g⟩ T H (.s (.int .i64 len)) [] :=
  .pure fun W ρ a w _ ho => by
    have h1 : (ev T x).rep ρ (a.eval x) := ho x (by simp [Op.operands, Call.operands])
    rw [hx] at h1
    obtain ⟨b, o, c, _, h1, _⟩ := h1
    exact ⟨.int .i64 len, by simp [execOp, resolve, invoke, builtin, Builtin.len_, run_underlying hu, h1, goInt], rfl⟩
theorem h_len_nil {x : Operand} {t : TypeId} {e : TypeId} {rt : TypeId} (hx : ev T x = .s .nils) (hu : P.underlying t = some (.slice e)) : HOk P ⟨d, .call ⟨.builtin .len, #[x], #[t]⟩, rt, pos, af, g⟩ T H (.s (.int .i64 0)) [] :=
  .pure fun W ρ a w _ ho => by
    have h1 : (ev T x).rep ρ (a.eval x) := ho x (by simp [Op.operands, Call.operands])
    rw [hx] at h1
    simp only [AV.rep, SV.rep] at h1
    exact ⟨.int .i64 0, by simp [execOp, resolve, invoke, builtin, Builtin.len_, run_underlying hu, h1, goInt], rfl⟩
theorem h_ixl {t e : TypeId} {x i : Operand} {id base n : Nat} {k : IntKind} {m : Int} (j : Nat) (hx : ev T x = .s (.ptr id base 0)) (hi : ev T i = .s (.int k m)) (hm : m = (j : Int))
    (hu : P.underlying t = some (.array n e)) (hs : ∀ w, (sizeOf e).run P w = .ok 1 w) (h1 : j < n) : HOk P ⟨d, .indexAddr t x i, ty, pos, af, g⟩ T H (.s (.ptr id base j)) [] :=
  h_ix hx (hm ▸ hi) hu hs h1
end ix

/-- The environment of a call that is handed no memory. -/
abbrev E0 (P : Program) (n : Nat) (W : Nat → Prop) (w : World) (hW : ∀ b, w.heap.size ≤ b → W b) : Env := ⟨P, W, w, fun _ => none, n, 0, hW, fun _ _ => rfl⟩

def DoneF (E : Env) (fn : Func) (v : AV) : Exit → Tm → Heap → Prop := fun e T H => (e = .ret ∨ e = .normal) ∧ Ret E fn T H v

theorem acall_free {P : Program} {f : FuncId} {fn : Func} {c : Code} {n : Nat} {args : List AV} {v : AV} (hf : P.funcs[f]? = some fn) (hb : fn.body = some c) (hn : fn.ntmps = n) (hl : args.length ≤ n) (ha : args.all (AV.lowB 0) = true) (hv : v.lowB 0 = true)
    (h : ∀ W w hW, Wp (E0 P n W w hW) c (argT 0 args) [] (DoneF (E0 P n W w hW) fn v)) (H : Heap) : ACall P f H args v [] := by
  subst hn
  intro W ρ vals w hH _ hargs
  let W' : Nat → Prop := fun b => w.heap.size ≤ b
  have hW' : ∀ b, w.heap.size ≤ b → W' b := fun b hb => hb
  simp only [List.all_eq_true] at ha
  refine calls_enter (W := W') (ρ0 := fun _ => none) (H0 := []) (args := args) hf hb hW' ⟨fun _ _ _ h => (by cases h), fun _ _ _ _ h => (by cases h), fun _ _ _ _ _ _ _ _ h => (by cases h)⟩ (fun _ _ => rfl) ⟨hargs.1, fun i x hx => ?_⟩ hl ((h W' w hW').mono ?_)
  · exact AV.rep_cut (n := 0) (hargs.2 i x hx) (ha x (List.mem_of_getElem? hx))
  · rintro e T H1 ⟨he, hret⟩
    refine ⟨he, v, hret, fun v' ρ' w' h1 _ _ _ h5 => ⟨v', ρ, rfl, .nil ⟨h5.os, h5.tape, h5.output, h5.size, fun k hk => h5.block k hk (by simp [W']; omega)⟩, ?_⟩⟩
    exact AV.rep_le (fun _ _ e => (by simp [cutR] at e)) (AV.rep_cut (n := 0) h1 hv)
end Go.Ab
end

section
/- Contracts: of a function that reads what it is handed, and makes memory of its own. -/
namespace Go.Ab

/-- The callee's numbers: each is one of the caller's, from a place on. -/
def foot (ρ : Rho) (σ : List (Nat × Nat)) : Rho := fun k => match σ[k]? with
  | some (id, sh) => (ρ id).map fun x => (x.1, x.2 + sh)
  | none => none

/-- A value that names new blocks by their places. -/
def Ren (vf : (Nat → Nat) → AV) (n : Nat) : Prop := ∀ (r r' : Nat → Nat) (ρ ρ' : Rho) (u : Value), (∀ i x, i < n → ρ (r i) = some x → ρ' (r' i) = some x) → (vf r).rep ρ u → (vf r').rep ρ' u

theorem ren_free {v : AV} (h : v.lowB 0 = true) {n : Nat} : Ren (fun _ => v) n := fun _ _ ρ ρ' u _ hr => AV.rep_le (ρ := cutR ρ 0) (fun _ _ e => by simp [cutR] at e) (AV.rep_cut hr h)
theorem ren_ptr {n b i : Nat} (h : 0 < n) : Ren (fun r => .s (.ptr (r 0) b i)) n := fun r r' ρ ρ' u hx hr => by
  obtain ⟨b, o, h1, h2⟩ := hr
  exact ⟨b, o, hx 0 _ h h1, h2⟩
theorem ren_slice {n b i l c : Nat} (h : 0 < n) : Ren (fun r => .s (.slice (r 0) b i l c)) n := fun r r' ρ ρ' u hx hr => by
  obtain ⟨b, o, h1, h2⟩ := hr
  exact ⟨b, o, hx 0 _ h h1, h2⟩
theorem ren_slx {n b i l : Nat} (h : 0 < n) : Ren (fun r => .s (.slx (r 0) b i l)) n := fun r r' ρ ρ' u hx hr => by
  obtain ⟨b, o, c, h1, h2⟩ := hr
  exact ⟨b, o, c, hx 0 _ h h1, h2⟩

structure DoneP (E : Env) (fn : Func) (vf : (Nat → Nat) → AV) (nb : List Blk) (e : Exit) (T : Tm) (H : Heap) : Prop where
  e : e = .ret ∨ e = .normal
  ex : ∃ picks : List Nat, picks.Nodup ∧ picks.length = nb.length ∧ (∀ (i k : Nat) (b : Blk), picks[i]? = some k → nb[i]? = some b → E.nE ≤ k ∧ H[k]? = some (some b)) ∧ Ret E fn T H (vf fun i => picks.getD i 0)

theorem acall_gen {P : Program} {f : FuncId} {fn : Func} {c : Code} {n : Nat} {args0 args : List AV} {H0 H : Heap} {vf : (Nat → Nat) → AV} {nb : List Blk} (σ : List (Nat × Nat)) (hf : P.funcs[f]? = some fn) (hb : fn.body = some c) (hn : fn.ntmps = n) (hl : args0.length ≤ n)
    (hσ : σ.length = H0.length)
    (hfoot : ∀ (k id sh : Nat) (b0 : Blk), σ[k]? = some (id, sh) → H0[k]? = some (some b0) → b0.rw = false ∧ b0.segs.all (Seg.lowB 0) = true ∧ ∃ b : Blk, H[id]? = some (some b) ∧ ∀ i x, atS b0.segs i = some x → atS b.segs (sh + i) = some x)
    (hlen : args.length = args0.length) (hargs : ∀ (i : Nat) (x0 x : AV), args0[i]? = some x0 → args[i]? = some x → ∀ ρ u, x.rep ρ u → x0.rep (foot ρ σ) u)
    (hnb : nb.all (fun b => b.rw && b.segs.all (Seg.lowB 0)) = true) (hvf : Ren vf nb.length)
    (h : ∀ W w ρ0 hW hdom, Wp ⟨P, W, w, ρ0, n, H0.length, hW, hdom⟩ c (argT 0 args0) H0 (DoneP ⟨P, W, w, ρ0, n, H0.length, hW, hdom⟩ fn vf nb)) : ACall P f H args (vf fun i => H.length + i) nb := by
  subst hn
  intro W ρ vals w hH hnone hrep
  let W' : Nat → Prop := fun b => w.heap.size ≤ b
  have hW' : ∀ b, w.heap.size ≤ b → W' b := fun b hb => hb
  have hdom : ∀ id, H0.length ≤ id → foot ρ σ id = none := fun id hid => by simp [foot, List.getElem?_eq_none (show σ.length ≤ id by omega)]
  have hfr : ∀ id b o, foot ρ σ id = some (b, o) → ∃ i sh o', σ[id]? = some (i, sh) ∧ ρ i = some (b, o') ∧ o = o' + sh := by
    intro id b o e
    unfold foot at e
    cases hs : σ[id]? with
    | none => simp [hs] at e
    | some x =>
      obtain ⟨i, sh⟩ := x
      simp [hs] at e
      obtain ⟨a, o', h1, rfl, h2⟩ := e
      exact ⟨i, sh, o', rfl, h1, h2.symm⟩
  have hH0 : HRep W' (foot ρ σ) H0 w := by
    refine ⟨fun id b o e => ?_, fun id b o k e hk => ?_, fun id id' b o o' k k' _ e e' hk hk' => ?_⟩
    · obtain ⟨i, sh, o', h1, h2, h3⟩ := hfr id b o e
      exact hH.lt _ _ _ h2
    · obtain ⟨i, sh, o', h1, h2, h3⟩ := hfr id b o e
      obtain ⟨f1, f2, bb, f3, f4⟩ := hfoot id i sh k h1 hk
      obtain ⟨⟨cells, t, fr, g1, g2, g3⟩, _⟩ := hH.rep i b o' bb h2 f3
      refine ⟨⟨cells, t, fr, g1, fun hr => (by rw [f1] at hr; cases hr), fun j x hx => ?_⟩, fun hr => (by rw [f1] at hr; cases hr)⟩
      obtain ⟨v, hv, hc⟩ := g3 _ x (f4 j x hx)
      refine ⟨v, by show cells[o + j]? = some v; rw [h3, Nat.add_assoc]; exact hv, ?_⟩
      exact ⟨SV.rep_le (ρ := cutR ρ 0) (fun _ _ e => by simp [cutR] at e) (SV.rep_cut hc.1 (atS_below f2 hx)), hc.2⟩
    · obtain ⟨i, sh, _, h1, _⟩ := hfr id b o e
      obtain ⟨i', sh', _, h1', _⟩ := hfr id' b o' e'
      exact ⟨(hfoot id i sh k h1 hk).1, (hfoot id' i' sh' k' h1' hk').1⟩
  refine calls_enter (W := W') (ρ0 := foot ρ σ) (H0 := H0) (args := args0) hf hb hW' hH0 hdom ⟨by rw [hrep.1, hlen], fun i x hx => ?_⟩ hl ((h W' w (foot ρ σ) hW' hdom).mono ?_)
  · have hlt : i < args.length := by rw [hlen]; exact (List.getElem?_eq_some_iff.1 hx).1
    have h2 : args[i]? = some args[i] := by simp [hlt]
    exact hargs i x _ hx h2 ρ _ (hrep.2 i _ h2)
  · rintro e T H1 ⟨he, picks, hnd, hpl, hpk, hret⟩
    refine ⟨he, _, hret, fun v' ρ' w' h1 h2 h3 h4 h5 => ?_⟩
    have hext : Ext w w' := ⟨h5.os, h5.tape, h5.output, h5.size, fun k hk => h5.block k hk (by simp [W']; omega)⟩
    let ρ'' : Rho := fun id => if H.length ≤ id ∧ id < H.length + nb.length then (picks[id - H.length]?).bind ρ' else ρ id
    have hnew : ∀ i, i < nb.length → ρ'' (H.length + i) = (picks[i]?).bind ρ' := fun i hi => by
      simp only [ρ'']
      rw [if_pos ⟨by omega, by omega⟩, Nat.add_sub_cancel_left]
    have hle : Rle ρ ρ'' := by
      intro id x hx
      simp only [ρ'']
      by_cases hid : H.length ≤ id ∧ id < H.length + nb.length
      · have := hnone (id - H.length) (by omega)
        rw [show H.length + (id - H.length) = id by omega] at this
        rw [this] at hx; cases hx
      · rw [if_neg hid]; exact hx
    have hpick : ∀ i, i < nb.length → ∃ k b, picks[i]? = some k ∧ nb[i]? = some b ∧ H1[k]? = some (some b) := by
      intro i hi
      have a1 : picks[i]? = some picks[i] := by simp [hpl, hi]
      have a2 : nb[i]? = some nb[i] := by simp [hi]
      exact ⟨_, _, a1, a2, (hpk i _ _ a1 a2).2⟩
    simp only [List.all_eq_true, Bool.and_eq_true] at hnb
    refine ⟨v', ρ'', rfl, ⟨hle, hext, fun id b o e => ?_, fun i k hk b o e => ?_, fun id id' b o o' a1 a2 a3 a4 e e' => ?_⟩, ?_⟩
    · by_cases hid : H.length ≤ id ∧ id < H.length + nb.length
      · refine .inr ⟨hid.1, hid.2, ?_⟩
        have e2 := hnew (id - H.length) (by omega)
        rw [show H.length + (id - H.length) = id by omega, e] at e2
        obtain ⟨k, bb, p1, p2, p4⟩ := hpick (id - H.length) (by omega)
        rw [p1] at e2
        have e3 : ρ' k = some (b, o) := e2.symm
        have hr := hnb bb (List.mem_of_getElem? p2)
        exact ⟨(h3.rep k b o bb e3 p4).2 hr.1, h3.lt k b o e3⟩
      · simp only [ρ'', if_neg hid] at e; exact .inl e
    · have hi : i < nb.length := (List.getElem?_eq_some_iff.1 hk).1
      rw [hnew i hi] at e
      obtain ⟨kk, bb, p1, p2, p4⟩ := hpick i hi
      rw [p1] at e
      rw [hk] at p2
      cases p2
      have e3 : ρ' kk = some (b, o) := e
      obtain ⟨⟨cells, t, fr, g1, g2, g3⟩, _⟩ := h3.rep kk b o k e3 p4
      have hr := hnb k (List.mem_of_getElem? hk)
      refine ⟨cells, t, fr, g1, g2, fun j x hx => ?_⟩
      obtain ⟨v, hv, hc⟩ := g3 j x hx
      exact ⟨v, hv, SV.rep_le (ρ := cutR ρ' 0) (fun _ _ e => by simp [cutR] at e) (SV.rep_cut hc.1 (atS_below (List.all_eq_true.2 hr.2) hx)), hc.2⟩
    · have i1 := hnew (id - H.length) (by omega)
      have i2 := hnew (id' - H.length) (by omega)
      rw [show H.length + (id - H.length) = id by omega, e] at i1
      rw [show H.length + (id' - H.length) = id' by omega, e'] at i2
      obtain ⟨k, bb, p1, p2, p4⟩ := hpick (id - H.length) (by omega)
      obtain ⟨k', bb', p1', p2', p4'⟩ := hpick (id' - H.length) (by omega)
      rw [p1] at i1
      rw [p1'] at i2
      apply Classical.byContradiction
      intro hne
      have hkk : k ≠ k' := by
        intro ek
        subst ek
        have q1 := (List.getElem?_eq_some_iff.1 p1)
        have q2 := (List.getElem?_eq_some_iff.1 p1')
        have := (List.getElem_inj (h₀ := q1.1) (h₁ := q2.1) hnd).1 (q1.2.trans q2.2.symm)
        omega
      have := h3.apart k k' b o o' bb bb' hkk i1.symm i2.symm p4 p4'
      have hr := hnb bb (List.mem_of_getElem? p2)
      rw [this.1] at hr
      exact absurd hr.1 (by simp)
    · refine hvf _ _ ρ' ρ'' v' (fun i x hi hx => ?_) h1
      rw [hnew i hi]
      obtain ⟨k, bb, p1, _⟩ := hpick i hi
      simp only [List.getD_eq_getElem?_getD, p1, Option.getD_some] at hx
      rw [p1]; exact hx

/-! Arguments -/
theorem arg_free {x : AV} (h : x.lowB 0 = true) {ρ ρ' : Rho} {u : Value} (hr : x.rep ρ u) : x.rep ρ' u :=
  AV.rep_le (ρ := cutR ρ 0) (fun _ _ e => by simp [cutR] at e) (AV.rep_cut hr h)
theorem arg_slice {ρ : Rho} {σ : List (Nat × Nat)} {k id base idx len cap : Nat} (h : σ[k]? = some (id, base + idx)) {u : Value} (hr : (AV.s (.slice id base idx len cap)).rep ρ u) : (AV.s (.slice k 0 0 len cap)).rep (foot ρ σ) u := by
  obtain ⟨b, o, h1, h2⟩ := hr
  exact ⟨b, o + (base + idx), by simp [foot, h, h1], by rw [h2]; simp [Nat.add_assoc]⟩
theorem arg_slx {ρ : Rho} {σ : List (Nat × Nat)} {k id base idx len : Nat} (h : σ[k]? = some (id, base + idx)) {u : Value} (hr : (AV.s (.slx id base idx len)).rep ρ u) : (AV.s (.slx k 0 0 len)).rep (foot ρ σ) u := by
  obtain ⟨b, o, c, h1, h2, h3⟩ := hr
  exact ⟨b, o + (base + idx), c, by simp [foot, h, h1], by rw [h2]; simp [Nat.add_assoc], h3⟩
theorem arg_slice_x {ρ : Rho} {σ : List (Nat × Nat)} {k id base idx len cap : Nat} (hc : len ≤ cap) (h : σ[k]? = some (id, base + idx)) {u : Value} (hr : (AV.s (.slice id base idx len cap)).rep ρ u) : (AV.s (.slx k 0 0 len)).rep (foot ρ σ) u := by
  obtain ⟨b, o, h1, h2⟩ := hr
  exact ⟨b, o + (base + idx), cap, by simp [foot, h, h1], by rw [h2]; simp [Nat.add_assoc], hc⟩
theorem arg_ptr {ρ : Rho} {σ : List (Nat × Nat)} {k id base idx : Nat} (h : σ[k]? = some (id, base + idx)) {u : Value} (hr : (AV.s (.ptr id base idx)).rep ρ u) : (AV.s (.ptr k 0 0)).rep (foot ρ σ) u := by
  obtain ⟨b, o, h1, h2⟩ := hr
  exact ⟨b, o + (base + idx), by simp [foot, h, h1], by rw [h2]; simp [Nat.add_assoc]⟩

end Go.Ab
end

section
/- More rules: scopes, slices made and cut, min, max. -/
namespace Go.Ab

def Sco (Q : Exit → Tm → Heap → Prop) : Exit → Tm → Heap → Prop
  | .goto _, _, _ => False
  | e, T, H => Q e T H
section code
variable {E : Env} {T : Tm} {H : Heap} {Q : Exit → Tm → Heap → Prop}
theorem w_scope {c : Code} (h : Wp E c T H (Sco Q)) : Wp E (.scope c) T H Q := by
  intro a w hr
  refine wp_scope_straight (wp_mono (h a w hr) ?_)
  rintro e a' w' ⟨T', H', h1, h2⟩
  cases e with
  | goto l => exact h1.elim
  | normal => exact ⟨T', H', h1, h2⟩
  | exit j => exact ⟨T', H', h1, h2⟩
  | ret => exact ⟨T', H', h1, h2⟩
  | panic ch => exact ⟨T', H', h1, h2⟩
  | outgrown => exact ⟨T', H', h1, h2⟩
theorem n_sco (h : Q .normal T H) : Sco Q .normal T H := h
theorem x_sco {i : Nat} (h : Q (.exit i) T H) : Sco Q (.exit i) T H := h
theorem r_sco (h : Q .ret T H) : Sco Q .ret T H := h
/-- Two ways that meet again: what is told there. -/
theorem w_cut {x y : Code} (J : Tm → Heap → Prop) (h1 : Wp E x T H (Thn (fun T1 H1 => ∃ T2 H2, Weak E T1 H1 T2 H2 ∧ J T2 H2) Q)) (h2 : ∀ T H, J T H → Wp E y T H Q) : Wp E (.seq x y) T H Q := by
  refine w_seq (h1.mono ?_)
  rintro e T1 H1 he
  cases e with
  | normal => obtain ⟨T2, H2, k1, k2⟩ := he; exact w_weak k1 (h2 T2 H2 k2)
  | exit i => exact he
  | goto l => exact he
  | ret => exact he
  | panic ch => exact he
  | outgrown => exact he
theorem w_cut' {x y : Code} (J : Tm → Heap → Prop) (h1 : Wp E x T H (Thn (fun T1 H1 => ∃ T2 H2, Weak E T1 H1 T2 H2 ∧ J T2 H2) Q)) (h2 : ∀ T H, J T H → Wp E y T H Q) : Wp E x T H (Thn (fun T H => Wp E y T H Q) Q) := by
  refine h1.mono ?_
  rintro e T1 H1 he
  cases e with
  | normal => obtain ⟨T2, H2, k1, k2⟩ := he; exact w_weak k1 (h2 T2 H2 k2)
  | exit i => exact he
  | goto l => exact he
  | ret => exact he
  | panic ch => exact he
  | outgrown => exact he
theorem n_cut {J : Tm → Heap → Prop} {T2 : Tm} {H2 : Heap} (hJ : J T2 H2) (hw : Weak E T H T2 H2) : Thn (fun T1 H1 => ∃ T2 H2, Weak E T1 H1 T2 H2 ∧ J T2 H2) Q .normal T H := ⟨T2, H2, hw, hJ⟩
end code

/-! A region of few operations, order by order. -/
def AnyK (E : Env) (ops : Array Oper) (Q : Exit → Tm → Heap → Prop) (fuel : Nat) (listed : Array Bool) (T : Tm) (H : Heap) : Prop :=
  ∀ a w, Rep E T H a w → wpAny E.P .any ops (fun e a' w' => ∃ T' H', Q e T' H' ∧ Rep E T' H' a' w') fuel listed a w
section anyk
variable {E : Env} {ops : Array Oper} {Q : Exit → Tm → Heap → Prop} {T : Tm} {H : Heap}
theorem c_all {id : Nat} {n : Nat} (hmix : E.P.follows .mixedOrders = true) (hn : ops.size = n) (h : AnyK E ops Q n (Array.replicate n false) T H) : Wp E (.region id ops true) T H Q := by
  subst hn
  exact fun a w hr => wp_region_any hmix (h a _ hr.drew)
theorem ak_done {fuel : Nat} {listed : Array Bool} (hr : Region.ready .any ops listed = []) (h : Q .normal T H) : AnyK E ops Q fuel listed T H := fun _ _ hrep => wpAny_done hr ⟨T, H, h, hrep⟩ fuel
theorem ak_op {fuel i : Nat} {listed : Array Bool} {o : Oper} {v : AV} {H1 : Heap} (ho : ops[i]? = some o) (hok : opOk E.n o = true) (hg : o.guard = none) (h : MOk E.P o T H v H1) (k : AnyK E ops Q fuel (listed.setIfInBounds i true) (put T o.dst v) H1) :
    ∀ a w, Rep E T H a w → wpOp E.P ops (fun e a' w' => ∃ T' H', Q e T' H' ∧ Rep E T' H' a' w') i (wpAny E.P .any ops (fun e a' w' => ∃ T' H', Q e T' H' ∧ Rep E T' H' a' w') fuel (listed.setIfInBounds i true)) a w :=
  fun _ _ hr => step_mok ho hok (fun j b t e _ => by rw [hg] at e; cases e) (.free hg) h hr (fun a' w' hr' => k a' w' hr')
theorem ak_one {fuel i : Nat} {listed : Array Bool} (hr : Region.ready .any ops listed = [i])
    (h : ∀ a w, Rep E T H a w → wpOp E.P ops (fun e a' w' => ∃ T' H', Q e T' H' ∧ Rep E T' H' a' w') i (wpAny E.P .any ops (fun e a' w' => ∃ T' H', Q e T' H' ∧ Rep E T' H' a' w') fuel (listed.setIfInBounds i true)) a w) : AnyK E ops Q (fuel + 1) listed T H :=
  fun a w hrep => wpAny_all hr (by simp) (fun j hj => by simp at hj; subst hj; exact h a w hrep)
theorem ak_two {fuel i j : Nat} {listed : Array Bool} (hr : Region.ready .any ops listed = [i, j])
    (h1 : ∀ a w, Rep E T H a w → wpOp E.P ops (fun e a' w' => ∃ T' H', Q e T' H' ∧ Rep E T' H' a' w') i (wpAny E.P .any ops (fun e a' w' => ∃ T' H', Q e T' H' ∧ Rep E T' H' a' w') fuel (listed.setIfInBounds i true)) a w)
    (h2 : ∀ a w, Rep E T H a w → wpOp E.P ops (fun e a' w' => ∃ T' H', Q e T' H' ∧ Rep E T' H' a' w') j (wpAny E.P .any ops (fun e a' w' => ∃ T' H', Q e T' H' ∧ Rep E T' H' a' w') fuel (listed.setIfInBounds j true)) a w) : AnyK E ops Q (fuel + 1) listed T H :=
  fun a w hrep => wpAny_all hr (by simp) (fun k hk => by simp at hk; rcases hk with rfl | rfl; exact h1 a w hrep; exact h2 a w hrep)
end anyk

theorem HOk.m0 {P : Program} {o : Oper} {T : Tm} {H : Heap} {v : AV} (h : HOk P o T H v []) : MOk P o T H v H := by simpa using h.mok

theorem atS_ints1 {k : IntKind} {n i : Nat} {l : List Int} {x : SV} (h : atS [.ints k n l] i = some x) : i < n ∧ x = .int k (l.getD i 0) := by
  have hs : (Seg.ints k n l).size = n := rfl
  simp only [atS] at h
  rw [hs] at h
  by_cases hi : i < n
  · rw [if_pos hi] at h; exact ⟨hi, (Option.some.inj h).symm⟩
  · rw [if_neg hi] at h; cases h

theorem wrap_u8 {n : Int} (h0 : 0 ≤ n) (h1 : n < 256) : IntKind.u8.wrap n = n := by
  unfold IntKind.wrap
  simp [IntKind.bits, IntKind.signed]
  omega
theorem wrap_u8_range (n : Int) : 0 ≤ IntKind.u8.wrap n ∧ IntKind.u8.wrap n < 256 := by
  unfold IntKind.wrap
  simp [IntKind.bits, IntKind.signed]
  omega
theorem xorK_u8_range (m n : Int) : 0 ≤ xorK .u8 m n ∧ xorK .u8 m n < 256 := wrap_u8_range _
theorem orK_u8_range (m n : Int) : 0 ≤ orK .u8 m n ∧ orK .u8 m n < 256 := wrap_u8_range _
theorem shlK_u8_range (m n : Int) : 0 ≤ shlK .u8 m n ∧ shlK .u8 m n < 256 := wrap_u8_range _

section rules
variable {P : Program} {T : Tm} {H : Heap} {d : Option Tmp} {ty : TypeId} {pos : String} {af : Array Edge} {g : Option (Nat × Bool)}

theorem h_ixs {t e : TypeId} {x i : Operand} {id base b len cap j : Nat} {k : IntKind} (hx : ev T x = .s (.slice id base b len cap)) (hi : ev T i = .s (.int k (j : Int)))
    (hu : P.underlying t = some (.slice e)) (hs : ∀ w, (sizeOf e).run P w = .ok 1 w) (h1 : j < len) : HOk P ⟨d, .indexAddr t x i, ty, pos, af, g⟩ T H (.s (.ptr id base (b + j))) [] :=
  h_indexAddr_sl hx hi hu hs (by omega) (by omega) (by simp)
theorem h_ixsx {t e : TypeId} {x i : Operand} {id base b len j : Nat} {k : IntKind} (hx : ev T x = .s (.slx id base b len)) (hi : ev T i = .s (.int k (j : Int)))
    (hu : P.underlying t = some (.slice e)) (hs : ∀ w, (sizeOf e).run P w = .ok 1 w) (h1 : j < len) : HOk P ⟨d, .indexAddr t x i, ty, pos, af, g⟩ T H (.s (.ptr id base (b + j))) [] :=
  .pure fun W ρ a w _ ho => by
    obtain ⟨ha, hb⟩ := two (op := .indexAddr t x i) rfl ho hx hi
    simp only [AV.rep, SV.rep] at ha hb
    obtain ⟨bb, o, c, hρ, ha, _⟩ := ha
    refine ⟨.pointer (some ⟨bb, o + base + (b + j), none⟩), ?_, bb, o, hρ, rfl⟩
    have h2 : (j : Int) < (len : Int) := by omega
    simp [execOp, ha, hb, Instr.indexAt, asIntOf, Sem.run_bind, run_underlying hu, h1, hs, addr_add, Nat.add_assoc]

theorem h_min {x y : Operand} {ts : Array TypeId} {rt : TypeId} {k : IntKind} {m n r : Int} (hx : ev T x = .s (.int k m)) (hy : ev T y = .s (.int k n)) (hr : (if n < m then n else m) = r) :
    HOk P ⟨d, .call ⟨.builtin .min, #[x, y], ts⟩, rt, pos, af, g⟩ T H (.s (.int k r)) [] :=
  .pure fun W ρ a w _ ho => by
    have h1 : (ev T x).rep ρ (a.eval x) := ho x (by simp [Op.operands, Call.operands])
    have h2 : (ev T y).rep ρ (a.eval y) := ho y (by simp [Op.operands, Call.operands])
    rw [hx] at h1; rw [hy] at h2
    simp only [AV.rep, SV.rep] at h1 h2
    exact ⟨.int k r, by simp [execOp, resolve, invoke, builtin, Builtin.min_, h1, h2, List.foldlM, Builtin.min2, hr], rfl⟩
theorem h_max {x y : Operand} {ts : Array TypeId} {rt : TypeId} {k : IntKind} {m n r : Int} (hx : ev T x = .s (.int k m)) (hy : ev T y = .s (.int k n)) (hr : (if n > m then n else m) = r) :
    HOk P ⟨d, .call ⟨.builtin .max, #[x, y], ts⟩, rt, pos, af, g⟩ T H (.s (.int k r)) [] :=
  .pure fun W ρ a w _ ho => by
    have h1 : (ev T x).rep ρ (a.eval x) := ho x (by simp [Op.operands, Call.operands])
    have h2 : (ev T y).rep ρ (a.eval y) := ho y (by simp [Op.operands, Call.operands])
    rw [hx] at h1; rw [hy] at h2
    simp only [AV.rep, SV.rep] at h1 h2
    exact ⟨.int k r, by simp [execOp, resolve, invoke, builtin, Builtin.max_, h1, h2, List.foldlM, Builtin.max2, hr], rfl⟩

/-- 'make' of integers, all of them nought. -/
theorem h_make {t e : TypeId} {x y : Operand} {l c n : Nat} {k : IntKind} {inf : TypeInfo} (hx : ev T x = .s (.int .i64 (l : Int))) (hy : ev T y = .s (.int .i64 (c : Int))) (hlc : l ≤ c) (hc : inf.bytes * c ≤ 281474976710656) (hc2 : c ≤ 281474976710656)
    (hu : P.underlying t = some (.slice e)) (hi : P.info? e = some inf) (hs : inf.size = 1) (hz : inf.zero = some (.int k 0)) (hn : H.length = n) :
    HOk P ⟨d, .makeSlice t x y, ty, pos, af, g⟩ T H (.s (.slice n 0 0 l c)) [⟨true, [.ints k c (List.replicate c 0)]⟩] := by
  subst hn
  intro W ρ a w hH hf ho next Q hq
  obtain ⟨h1, h2⟩ := two (op := .makeSlice t x y) rfl ho hx hy
  simp only [AV.rep, SV.rep] at h1 h2
  have hm := run_make (P := P) w t e inf (.int k 0) hu hi hz .i64 .i64 (l : Int) (c : Int) (by omega) (by omega) (by
    have h : ((inf.bytes * c : Nat) : Int) ≤ 281474976710656 := by omega
    rwa [Int.natCast_mul] at h) (by omega)
  simp only [Int.toNat_natCast, hs, Nat.mul_one] at hm
  have hrun : (execOp a.eval ⟨d, .makeSlice t x y, ty, pos, af, g⟩).run P w = .ok (.value (.slice (some ⟨w.heap.size, 0, none⟩) l c)) (w.alloc (.cells (madeCells (Value.int k 0).cells c) e)) := by
    simp [execOp, h1, h2, Sem.run_bind, hm]
  rw [hrun]
  have h0 : ρ H.length = none := by have := hf 0 (by simp); simpa using this
  refine hq _ _ ⟨_, .one h0 (fun ρ' _ i z hz => ?_), w.heap.size, 0, by simp [upd], rfl⟩
  have hz := atS_ints1 hz
  by_cases hi : i < c
  · have hz := hz.2
    subst hz
    refine ⟨.int k 0, ?_, by simp [Seg.at, SV.rep, List.getElem?_replicate, hi], rfl⟩
    simp [madeCells, Value.cells, hi, Nat.mod_one]
  · exact absurd hz.1 hi
theorem h_field {t : TypeId} {x : Operand} {id base f sz : Nat} {fs : Array Field} {fd : Field} (hx : ev T x = .s (.ptr id base 0))
    (hu : P.underlying t = some (.struct fs)) (hf : fs[f]? = some fd) (hs : ∀ w, (sizeOf fd.type).run P w = .ok sz w) (hz : sz ≠ 0) : HOk P ⟨d, .fieldAddr t x f, ty, pos, af, g⟩ T H (.s (.ptr id (base + fd.offset) 0)) [] :=
  h_fieldAddr hx hu hf (fun w a _ => by simp [fieldPlace, Sem.run_bind, hs, hz]) (.inl ⟨rfl, rfl⟩)
theorem h_ixg {t e : TypeId} {x i : Operand} {id base b n j sz : Nat} {k : IntKind} (hx : ev T x = .s (.ptr id base b)) (hi : ev T i = .s (.int k (j : Int)))
    (hu : P.underlying t = some (.array n e)) (hs : ∀ w, (sizeOf e).run P w = .ok sz w) (h1 : j < n) : HOk P ⟨d, .indexAddr t x i, ty, pos, af, g⟩ T H (.s (.ptr id base (b + j * sz))) [] :=
  h_indexAddr hx hi hu hs (by omega) (by omega) (by simp)
theorem h_ixgl {t e : TypeId} {x i : Operand} {id base b n sz : Nat} {k : IntKind} {m : Int} (j : Nat) (hx : ev T x = .s (.ptr id base b)) (hi : ev T i = .s (.int k m)) (hm : m = (j : Int))
    (hu : P.underlying t = some (.array n e)) (hs : ∀ w, (sizeOf e).run P w = .ok sz w) (h1 : j < n) : HOk P ⟨d, .indexAddr t x i, ty, pos, af, g⟩ T H (.s (.ptr id base (b + j * sz))) [] :=
  h_ixg hx (hm ▸ hi) hu hs h1
theorem h_ixw {t e : TypeId} {x i : Operand} {id base n j sz : Nat} {k : IntKind} (hx : ev T x = .s (.ptr id base 0)) (hi : ev T i = .s (.int k (j : Int)))
    (hu : P.underlying t = some (.array n e)) (hs : ∀ w, (sizeOf e).run P w = .ok sz w) (h1 : j < n) : HOk P ⟨d, .indexAddr t x i, ty, pos, af, g⟩ T H (.s (.ptr id base (j * sz))) [] :=
  h_indexAddr hx hi hu hs (by omega) (by omega) (by simp)
theorem h_ixwl {t e : TypeId} {x i : Operand} {id base n sz : Nat} {k : IntKind} {m : Int} (j : Nat) (hx : ev T x = .s (.ptr id base 0)) (hi : ev T i = .s (.int k m)) (hm : m = (j : Int))
    (hu : P.underlying t = some (.array n e)) (hs : ∀ w, (sizeOf e).run P w = .ok sz w) (h1 : j < n) : HOk P ⟨d, .indexAddr t x i, ty, pos, af, g⟩ T H (.s (.ptr id base (j * sz))) [] :=
  h_ixw hx (hm ▸ hi) hu hs h1
/-- Cells of one, from a place on. -/
theorem h_ixa {t e : TypeId} {x i : Operand} {id base b n j : Nat} {k : IntKind} (hx : ev T x = .s (.ptr id base b)) (hi : ev T i = .s (.int k (j : Int)))
    (hu : P.underlying t = some (.array n e)) (hs : ∀ w, (sizeOf e).run P w = .ok 1 w) (h1 : j < n) : HOk P ⟨d, .indexAddr t x i, ty, pos, af, g⟩ T H (.s (.ptr id base (b + j))) [] :=
  h_indexAddr hx hi hu hs (by omega) (by omega) (by simp)
theorem h_ixs0 {t e : TypeId} {x i : Operand} {id base len cap j : Nat} {k : IntKind} (hx : ev T x = .s (.slice id base 0 len cap)) (hi : ev T i = .s (.int k (j : Int)))
    (hu : P.underlying t = some (.slice e)) (hs : ∀ w, (sizeOf e).run P w = .ok 1 w) (h1 : j < len) : HOk P ⟨d, .indexAddr t x i, ty, pos, af, g⟩ T H (.s (.ptr id base j)) [] := by
  have := h_ixs (d := d) (ty := ty) (pos := pos) (af := af) (g := g) (H := H) hx hi hu hs h1
  rwa [Nat.zero_add] at this
theorem h_ixs0l {t e : TypeId} {x i : Operand} {id base len cap : Nat} {k : IntKind} {m : Int} (j : Nat) (hx : ev T x = .s (.slice id base 0 len cap)) (hi : ev T i = .s (.int k m)) (hm : m = (j : Int))
    (hu : P.underlying t = some (.slice e)) (hs : ∀ w, (sizeOf e).run P w = .ok 1 w) (h1 : j < len) : HOk P ⟨d, .indexAddr t x i, ty, pos, af, g⟩ T H (.s (.ptr id base j)) [] := h_ixs0 hx (hm ▸ hi) hu hs h1
theorem h_build0 {t : TypeId} {cs : Array Value} {segs : List Seg} (hb : ∀ w, (Instr.build t #[]).run P w = .ok (.agg cs) w) (hk : rowOk segs cs = true) : HOk P ⟨d, .build t #[], ty, pos, af, g⟩ T H (.agg segs) [] :=
  .pure fun W ρ a w _ _ => ⟨.agg cs, by simp [execOp, hb], cs, rfl, (rowOk_rep hk).1, (rowOk_rep hk).2 ρ⟩
/-- A row of integers, part by part. -/
theorem h_build_ints {t : TypeId} {parts : Array (Nat × Operand)} {l : List (Nat × Int)} {xs : List Int} {k : IntKind} {n : Nat} (hargs : parts.toList.map (fun p => (p.1, ev T p.2)) = l.map (fun p => (p.1, AV.s (.int k p.2))))
    (hb : ∀ w, (Instr.build t (l.map (fun p => (p.1, Value.int k p.2))).toArray).run P w = .ok (.agg (xs.map (Value.int k)).toArray) w) (hn : xs.length = n) : HOk P ⟨d, .build t parts, ty, pos, af, g⟩ T H (.agg [.ints k n xs]) [] :=
  .pure fun W ρ a w _ ho => by
    have he : parts.map (fun p => (p.1, a.eval p.2)) = (l.map (fun p => (p.1, Value.int k p.2))).toArray := by
      apply Array.ext'
      simp only [Array.toList_map, List.toList_toArray]
      apply List.ext_getElem?
      intro i
      have hi := congrArg (fun q => q[i]?) hargs
      simp only [List.getElem?_map] at hi ⊢
      cases hp : parts.toList[i]? with
      | none => rw [hp] at hi; cases hl : l[i]? with
        | none => rfl
        | some y => rw [hl] at hi; simp at hi
      | some p =>
        rw [hp] at hi
        cases hl : l[i]? with
        | none => rw [hl] at hi; simp at hi
        | some y =>
          rw [hl] at hi
          simp only [Option.map_some, Option.some.injEq, Prod.mk.injEq] at hi
          have hm : p.2 ∈ (Op.build t parts).operands := by
            simp only [Op.operands]
            have : p ∈ parts.toList := List.mem_of_getElem? hp
            simpa using ⟨p.1, Array.mem_toList_iff.1 this⟩
          have h1 : (ev T p.2).rep ρ (a.eval p.2) := ho _ hm
          rw [hi.2] at h1
          have h1 : a.eval p.2 = .int k y.2 := h1
          simp [hi.1, h1]
    subst hn
    refine ⟨.agg (xs.map (Value.int k)).toArray, by simp only [execOp]; rw [he]; simp [Sem.run_bind, hb], _, rfl, by simp [sizeS, Seg.size], fun i x hx => ?_⟩
    obtain ⟨h1, h2⟩ := atS_ints1 hx
    subst h2
    exact ⟨.int k (xs.getD i 0), by simp [h1], rfl, rfl⟩
theorem h_build4 {t : TypeId} {x0 x1 x2 x3 : Operand} {a b c e : Int} {k : IntKind} (h0 : ev T x0 = .s (.int k a)) (h1 : ev T x1 = .s (.int k b)) (h2 : ev T x2 = .s (.int k c)) (h3 : ev T x3 = .s (.int k e))
    (hb : ∀ (a b c e : Int) w, (Instr.build t #[(0, .int k a), (1, .int k b), (2, .int k c), (3, .int k e)]).run P w = .ok (.agg #[.int k a, .int k b, .int k c, .int k e]) w) : HOk P ⟨d, .build t #[(0, x0), (1, x1), (2, x2), (3, x3)], ty, pos, af, g⟩ T H (.agg [.ints k 4 [a, b, c, e]]) [] :=
  h_build_ints (l := [(0, a), (1, b), (2, c), (3, e)]) (by simp [h0, h1, h2, h3]) (fun w => hb a b c e w) rfl
/-- A row of one kind of integers, told part by part. -/
def intsL (k : IntKind) : List (Nat × Operand) → Tm → Option (List Int)
  | [], _ => some []
  | (_, x) :: r, T => match ev T x, intsL k r T with
    | .s (.int _ n), some l => some (n :: l)
    | _, _ => none
end rules

theorem args_free {args : List AV} {σ : List (Nat × Nat)} (h : args.all (AV.lowB 0) = true) (i : Nat) (x0 x : AV) (h0 : args[i]? = some x0) (h1 : args[i]? = some x) (ρ : Rho) (u : Value) (hr : x.rep ρ u) : x0.rep (foot ρ σ) u := by
  rw [h0] at h1
  cases h1
  exact arg_free (List.all_eq_true.1 h _ (List.mem_of_getElem? h0)) hr
theorem pick1 {H : Heap} {nE k : Nat} {b : Blk} (hE : nE ≤ k) (h : H[k]? = some (some b)) (i k' : Nat) (b' : Blk) (h1 : [k][i]? = some k') (h2 : [b][i]? = some b') : nE ≤ k' ∧ H[k']? = some (some b') := by
  cases i with
  | zero => simp at h1 h2; subst h1; subst h2; exact ⟨hE, h⟩
  | succ i => simp at h1
theorem done1 {E : Env} {fn : Func} {vf : (Nat → Nat) → AV} {b : Blk} {T : Tm} {H : Heap} {k : Nat} (hE : E.nE ≤ k) (h : H[k]? = some (some b)) (hr : Ret E fn T H (vf fun i => [k].getD i 0)) : DoneP E fn vf [b] .ret T H :=
  ⟨.inl rfl, [k], by simp, rfl, pick1 hE h, hr⟩
theorem done0 {E : Env} {fn : Func} {vf : (Nat → Nat) → AV} {T : Tm} {H : Heap} (hr : Ret E fn T H (vf fun _ => 0)) : DoneP E fn vf [] .ret T H :=
  ⟨.inl rfl, [], by simp, rfl, fun i k b h1 _ => by simp at h1, by simpa using hr⟩
theorem foot1 {H0 H : Heap} {id sh : Nat} {segs : List Seg} {b : Blk} (hl : segs.all (Seg.lowB 0) = true) (hb : H[id]? = some (some b)) (hs : ∀ i x, atS segs i = some x → atS b.segs (sh + i) = some x) (e : H0 = [some ⟨false, segs⟩]) :
    ∀ (k id' sh' : Nat) (b0 : Blk), [(id, sh)][k]? = some (id', sh') → H0[k]? = some (some b0) → b0.rw = false ∧ b0.segs.all (Seg.lowB 0) = true ∧ ∃ b : Blk, H[id']? = some (some b) ∧ ∀ i x, atS b0.segs i = some x → atS b.segs (sh' + i) = some x := by
  subst e
  intro k id' sh' b0 h1 h2
  cases k with
  | zero => simp at h1 h2; obtain ⟨rfl, rfl⟩ := h1; subst h2; exact ⟨rfl, hl, b, hb, hs⟩
  | succ k => simp at h1
/-- A window of a row of integers. -/
theorem win_ints {segs : List Seg} {base idx n m : Nat} {k : IntKind} {l : List Int} (h : segAt segs base = some (.ints k m l)) (hn : idx + n ≤ m) (i : Nat) (x : SV) (hx : atS [.ints k n ((l.drop idx).take n)] i = some x) : atS segs (base + idx + i) = some x := by
  obtain ⟨h1, h2⟩ := atS_ints1 hx
  rw [Nat.add_assoc, segAt_at h (idx + i) (by show idx + i < m; omega), h2]
  simp [Seg.at, List.getElem?_take, h1]
theorem ret_cells2 {E : Env} {fn : Func} {T : Tm} {H : Heap} {p id n p' id' n' : Nat} {ty ty' : TypeId} {k k' : Blk} {segs segs' : List Seg} (hr : fn.results = #[.cell p ty, .cell p' ty']) (hp : look T p = .s (.ptr id 0 0)) (hb : H[id]? = some (some k)) (hs : SubS k.segs 0 n segs)
    (ha : ∀ w, (isAgg ty).run E.P w = .ok true w) (hz : ∀ w, (sizeOf ty).run E.P w = .ok n w) (hp' : look T p' = .s (.ptr id' 0 0)) (hb' : H[id']? = some (some k')) (hs' : SubS k'.segs 0 n' segs')
    (ha' : ∀ w, (isAgg ty').run E.P w = .ok true w) (hz' : ∀ w, (sizeOf ty').run E.P w = .ok n' w) : Ret E fn T H (.tup [.agg segs, .agg segs']) := by
  intro ρ a w hH hT
  have hx := hT p
  rw [hp] at hx
  obtain ⟨b, o, hρ, hx⟩ := hx
  obtain ⟨v1, h3, h4⟩ := run_load_sub (P := E.P) (hH.rep id b o k hρ hb).1 hs ha hz
  have hx' := hT p'
  rw [hp'] at hx'
  obtain ⟨b', o', hρ', hx'⟩ := hx'
  obtain ⟨v2, h3', h4'⟩ := run_load_sub (P := E.P) (hH.rep id' b' o' k' hρ' hb').1 hs' ha' hz'
  have e1 : a.tmps[p]?.getD undef = .pointer (some ⟨b, o, none⟩) := by simpa using hx
  have e2 : a.tmps[p']?.getD undef = .pointer (some ⟨b', o', none⟩) := by simpa using hx'
  simp only [Nat.add_zero] at h3 h3'
  refine ⟨.tuple #[v1, v2], by simp [results, hr, Sem.run_bind, e1, e2, asAddr, h3, h3'], #[v1, v2], rfl, fun i x hx => ?_⟩
  match i, hx with
  | 0, hx => simp at hx; subst hx; exact ⟨v1, rfl, h4⟩
  | 1, hx => simp at hx; subst hx; exact ⟨v2, rfl, h4'⟩
  | i + 2, hx => simp at hx
end Go.Ab
end
