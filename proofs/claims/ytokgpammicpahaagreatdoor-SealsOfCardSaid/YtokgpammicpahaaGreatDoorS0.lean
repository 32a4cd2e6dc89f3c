/- A part of the proofs of this claim: Bx1, Bx2, Bx3, Bx4, Bx5, Bx6. No conditions. -/
import Derived.WalkKit
import Derived.Orders
import Derived.RangeFuncOwn
import Derived.Laws.CopyRow
set_option linter.unusedVariables false
set_option linter.unusedSimpArgs false
section
/- Abstract states: values (frozen memory among them), blocks, what represents what. No program. -/
namespace Go.Bx

inductive SV where
  | int (k : IntKind) (n : Int)
  | bool (b : Bool)
  | ptr (id base idx : Nat)
  | nilp
  | slice (id base idx len cap : Nat)
  | slx (id base idx len need : Nat)
  | gro (id wd len : Nat)
  | nils
  | val (v : Value)
  | clo (f n : Nat) (g : Nat → SV)
  | ifc (t : Nat) (x : SV)
  | fzi (k : IntKind) (l : List Int)
  | fz (n w : Nat) (g : Nat → Nat → SV)
  | fptr (n : Nat) (g : Nat → SV) (base idx : Nat)
  | noid (x : SV)
  | junk

inductive Seg where
  | one (v : SV)
  | ints (k : IntKind) (n : Nat) (l : List Int)
  | rows (n w : Nat) (g : Nat → Nat → SV)

inductive AV where
  | s (v : SV)
  | agg (l : List Seg)
  | tup (l : List AV)

structure Blk where
  rw : Bool
  segs : List Seg

abbrev Heap := List (Option Blk)
abbrev Tm := List (Nat × AV)

structure Rho where
  m : Nat → Option (Nat × Nat)
  fz : Nat → Option (Array Value)
  sz : Nat → Option Nat
def Rho.noM (ρ : Rho) : Rho := ⟨fun _ => none, ρ.fz, ρ.sz⟩
def rho0 : Rho := ⟨fun _ => none, fun _ => none, fun _ => none⟩

def SV.rep : SV → Rho → Value → Prop
  | .int k n, _, v => v = .int k n
  | .bool b, _, v => v = .bool b
  | .ptr id base idx, ρ, v => ∃ b o, ρ.m id = some (b, o) ∧ v = .pointer (some ⟨b, o + base + idx, none⟩)
  | .nilp, _, v => v = .pointer none
  | .slice id base idx len cap, ρ, v => ∃ b o, ρ.m id = some (b, o) ∧ v = .slice (some ⟨b, o + base + idx, none⟩) len cap
  | .slx id base idx len need, ρ, v => ∃ b o cap, ρ.m id = some (b, o) ∧ v = .slice (some ⟨b, o + base + idx, none⟩) len cap ∧ need ≤ cap ∧ len ≤ cap
  | .gro id wd len, ρ, v => (len = 0 ∧ v = .slice none 0 0) ∨ ∃ b o cap n, ρ.m id = some (b, o) ∧ v = .slice (some ⟨b, o, none⟩) len cap ∧ len ≤ cap ∧ ρ.sz b = some n ∧ o + cap * wd ≤ n
  | .nils, _, v => v = .slice none 0 0
  | .val u, _, v => v = u ∧ u.oneCell' = true
  | .clo f n g, ρ, v => ∃ vs : Array Value, v = .func (.func f) #[] vs ∧ vs.size = n ∧ ∀ i, i < n → ∃ u, vs[i]? = some u ∧ (g i).rep ρ u
  | .ifc t x, ρ, v => ∃ u, v = .iface t u ∧ x.rep ρ u ∧ u.oneCell' = true
  | .fzi k l, ρ, v => (l = [] ∧ ∃ a c, v = .slice a 0 c) ∨ ∃ b o c cs, v = .slice (some ⟨b, o, none⟩) l.length c ∧ l.length ≤ c ∧ ρ.fz b = some cs ∧ ∀ i, i < l.length → cs[o + i]? = some (.int k (l.getD i 0))
  | .fz n w g, ρ, v => (n = 0 ∧ ∃ a c, v = .slice a 0 c) ∨ ∃ b o c cs, v = .slice (some ⟨b, o, none⟩) n c ∧ n ≤ c ∧ ρ.fz b = some cs ∧ ∀ i j, i < n → j < w → ∃ u, cs[o + (i * w + j)]? = some u ∧ (g i j).rep ρ.noM u ∧ u.oneCell' = true
  | .fptr n g base idx, ρ, v => ∃ b o cs, v = .pointer (some ⟨b, o + base + idx, none⟩) ∧ ρ.fz b = some cs ∧ ∀ j, j < n → ∃ u, cs[o + j]? = some u ∧ (g j).rep ρ.noM u ∧ u.oneCell' = true
  | .noid x, ρ, v => x.rep ρ.noM v ∧ v.oneCell' = true
  | .junk, _, _ => True

def SV.cell (ρ : Rho) (x : SV) (v : Value) : Prop := x.rep ρ v ∧ v.oneCell' = true

def Seg.size : Seg → Nat
  | .one _ => 1
  | .ints _ n _ => n
  | .rows n w _ => n * w

def Seg.at : Seg → Nat → SV
  | .one v, _ => v
  | .ints k _ l, i => .int k (l.getD i 0)
  | .rows _ w g, i => .noid (g (i / w) (i % w))

def sizeS : List Seg → Nat
  | [] => 0
  | s :: r => s.size + sizeS r

def atS : List Seg → Nat → Option SV
  | [], _ => none
  | s :: r, i => if i < s.size then some (s.at i) else atS r (i - s.size)

def cellsF (l : List Seg) : Nat → SV := fun j => (atS l j).getD .junk
def rowsF (rows : Nat → List Seg) : Nat → Nat → SV := fun i => cellsF (rows i)

def RowRep (ρ : Rho) (segs : List Seg) (get : Nat → Option Value) : Prop :=
  ∀ i x, atS segs i = some x → ∃ v, get i = some v ∧ x.cell ρ v

def AV.rep0 (ρ : Rho) : AV → Value → Prop
  | .s x, v => x.rep ρ v
  | .agg l, v => ∃ cs : Array Value, v = .agg cs ∧ cs.size = sizeS l ∧ RowRep ρ l (fun i => cs[i]?)
  | .tup _, _ => False

def AV.rep (x : AV) (ρ : Rho) (v : Value) : Prop := match x with
  | .tup l => ∃ vs : Array Value, v = .tuple vs ∧ ∀ (i : Nat) (x : AV), l[i]? = some x → ∃ u, vs[i]? = some u ∧ x.rep0 ρ u
  | x => x.rep0 ρ v

def BRep (ρ : Rho) (k : Blk) (w : World) (b o : Nat) : Prop :=
  ∃ cells t fr, w.heap[b]? = some (.cells cells t fr) ∧ (k.rw = true → fr = (0, 0)) ∧ (k.rw = false → ρ.fz b = some cells) ∧ RowRep ρ k.segs (fun i => cells[o + i]?)

def hget (H : Heap) (i : Nat) : Option Blk := (H[i]?).getD none

structure HRep (W : Nat → Prop) (ρ : Rho) (h : Nat → Option Blk) (w : World) : Prop where
  lt : ∀ id b o, ρ.m id = some (b, o) → b < w.heap.size
  rep : ∀ id b o k, ρ.m id = some (b, o) → h id = some k → BRep ρ k w b o ∧ (k.rw = true → W b)
  apart : ∀ id id' b o o' k k', id ≠ id' → ρ.m id = some (b, o) → ρ.m id' = some (b, o') → h id = some k → h id' = some k' → k.rw = false ∧ k'.rw = false
  fz : ∀ b cs, ρ.fz b = some cs → ¬ W b ∧ ∃ t fr, w.heap[b]? = some (.cells cs t fr)
  sz : ∀ b n, ρ.sz b = some n → ∃ cs t fr, w.heap[b]? = some (.cells cs t fr) ∧ cs.size = n

structure Ext (w w' : World) : Prop where
  os : w'.os = w.os
  tape : w'.tape = w.tape
  output : w'.output = w.output
  size : w.heap.size ≤ w'.heap.size
  block : ∀ k, k < w.heap.size → w'.heap[k]? = w.heap[k]?

structure Fr (W : Nat → Prop) (w w' : World) : Prop where
  os : w'.os = w.os
  tape : w'.tape = w.tape
  output : w'.output = w.output
  size : w.heap.size ≤ w'.heap.size
  block : ∀ k, k < w.heap.size → ¬ W k → w'.heap[k]? = w.heap[k]?
  others : ∀ (k : Nat) (o : Obj), w.heap[k]? = some o → o.isCells = false → w'.heap[k]? = some o
  sizes : ∀ (k : Nat) cs t fr, w.heap[k]? = some (.cells cs t fr) → ∃ cs' t' fr', w'.heap[k]? = some (.cells cs' t' fr') ∧ cs'.size = cs.size

theorem Ext.refl (w : World) : Ext w w := ⟨rfl, rfl, rfl, Nat.le_refl _, fun _ _ => rfl⟩
theorem Ext.trans {a b c : World} (h : Ext a b) (k : Ext b c) : Ext a c :=
  ⟨k.os.trans h.os, k.tape.trans h.tape, k.output.trans h.output, Nat.le_trans h.size k.size, fun i hi => (k.block i (Nat.lt_of_lt_of_le hi h.size)).trans (h.block i hi)⟩
theorem Ext.drew (w : World) : Ext w { w with drawn := w.drawn + 1 } := ⟨rfl, rfl, rfl, Nat.le_refl _, fun _ _ => rfl⟩
theorem Ext.alloc (w : World) (o : Obj) : Ext w (w.alloc o) := ⟨rfl, rfl, rfl, by simp, fun k hk => Go.RowKit.Below.heap_alloc w o k hk⟩
theorem Ext.obj {a b : World} (h : Ext a b) {k : Nat} {o : Obj} (hk : a.heap[k]? = some o) : b.heap[k]? = some o := (h.block k (Array.getElem?_eq_some_iff.1 hk).1).trans hk
theorem Fr.refl (W : Nat → Prop) (w : World) : Fr W w w := ⟨rfl, rfl, rfl, Nat.le_refl _, fun _ _ _ => rfl, fun _ _ h _ => h, fun _ cs t fr h => ⟨cs, t, fr, h, rfl⟩⟩
theorem Fr.trans {W : Nat → Prop} {a b c : World} (h : Fr W a b) (k : Fr W b c) : Fr W a c :=
  ⟨k.os.trans h.os, k.tape.trans h.tape, k.output.trans h.output, Nat.le_trans h.size k.size, fun i hi hn => (k.block i (Nat.lt_of_lt_of_le hi h.size) hn).trans (h.block i hi hn), fun i o hi hc => k.others i o (h.others i o hi hc) hc, fun i cs t fr hi => by
    obtain ⟨c1, t1, f1, h1, e1⟩ := h.sizes i cs t fr hi
    obtain ⟨c2, t2, f2, h2, e2⟩ := k.sizes i c1 t1 f1 h1
    exact ⟨c2, t2, f2, h2, e2.trans e1⟩⟩
theorem Fr.mono {W W' : Nat → Prop} {a b : World} (h : Fr W a b) (hs : ∀ k, W k → W' k) : Fr W' a b :=
  ⟨h.os, h.tape, h.output, h.size, fun i hi hn => h.block i hi (fun e => hn (hs _ e)), h.others, h.sizes⟩
theorem Ext.fr {a b : World} (W : Nat → Prop) (h : Ext a b) : Fr W a b := ⟨h.os, h.tape, h.output, h.size, fun k hk _ => h.block k hk, fun _ _ hk _ => h.obj hk, fun _ cs t fr hk => ⟨cs, t, fr, h.obj hk, rfl⟩⟩

structure Rle (ρ ρ' : Rho) : Prop where
  m : ∀ id x, ρ.m id = some x → ρ'.m id = some x
  fz : ∀ b x, ρ.fz b = some x → ρ'.fz b = some x
  sz : ∀ b x, ρ.sz b = some x → ρ'.sz b = some x
theorem Rle.refl (ρ : Rho) : Rle ρ ρ := ⟨fun _ _ h => h, fun _ _ h => h, fun _ _ h => h⟩
theorem Rle.trans {a b c : Rho} (h : Rle a b) (k : Rle b c) : Rle a c := ⟨fun i x e => k.m i x (h.m i x e), fun i x e => k.fz i x (h.fz i x e), fun i x e => k.sz i x (h.sz i x e)⟩
theorem Rle.noM {ρ ρ' : Rho} (h : Rle ρ ρ') : Rle ρ.noM ρ'.noM := ⟨fun _ _ e => (by cases e), h.fz, h.sz⟩

theorem SV.rep_le {x : SV} : ∀ {ρ ρ' : Rho} {v : Value}, Rle ρ ρ' → x.rep ρ v → x.rep ρ' v := by
  induction x with
  | int | bool | nilp | nils | val | junk => exact fun _ h => h
  | ptr => rintro ρ ρ' v h ⟨b, o, h1, h2⟩; exact ⟨b, o, h.m _ _ h1, h2⟩
  | slice => rintro ρ ρ' v h ⟨b, o, h1, h2⟩; exact ⟨b, o, h.m _ _ h1, h2⟩
  | slx => rintro ρ ρ' v h ⟨b, o, c, h1, h2⟩; exact ⟨b, o, c, h.m _ _ h1, h2⟩
  | gro =>
    rintro ρ ρ' v h (h1 | ⟨b, o, c, n, h1, h2, h3, h4, h5⟩)
    · exact .inl h1
    · exact .inr ⟨b, o, c, n, h.m _ _ h1, h2, h3, h.sz _ _ h4, h5⟩
  | clo f n g ih =>
    rintro ρ ρ' v h ⟨vs, h1, h2, h3⟩
    exact ⟨vs, h1, h2, fun i hi => let ⟨u, hu, hr⟩ := h3 i hi; ⟨u, hu, ih i h hr⟩⟩
  | ifc t x ih => rintro ρ ρ' v h ⟨u, h1, h2, h3⟩; exact ⟨u, h1, ih h h2, h3⟩
  | fzi k l =>
    rintro ρ ρ' v h (h1 | ⟨b, o, c, cs, h1, h2, h3, h4⟩)
    · exact .inl h1
    · exact .inr ⟨b, o, c, cs, h1, h2, h.fz _ _ h3, h4⟩
  | fz n w g ih =>
    rintro ρ ρ' v h (h1 | ⟨b, o, c, cs, h1, h2, h3, h4⟩)
    · exact .inl h1
    · exact .inr ⟨b, o, c, cs, h1, h2, h.fz _ _ h3, fun i j hi hj => let ⟨u, hu, hr, hc⟩ := h4 i j hi hj; ⟨u, hu, ih i j h.noM hr, hc⟩⟩
  | fptr n g base idx ih =>
    rintro ρ ρ' v h ⟨b, o, cs, h1, h3, h4⟩
    exact ⟨b, o, cs, h1, h.fz _ _ h3, fun j hj => let ⟨u, hu, hr, hc⟩ := h4 j hj; ⟨u, hu, ih j h.noM hr, hc⟩⟩
  | noid x ih => rintro ρ ρ' v h ⟨h1, h2⟩; exact ⟨ih h.noM h1, h2⟩

theorem noM_le (ρ : Rho) : Rle ρ.noM ρ := ⟨fun _ _ e => (by cases e), fun _ _ e => e, fun _ _ e => e⟩
def Sheds (y x : SV) : Prop := y = x ∨ y = .noid x
theorem Sheds.rep {y x : SV} (h : Sheds y x) {ρ : Rho} {v : Value} (hr : y.rep ρ v) : x.rep ρ v := by
  rcases h with rfl | rfl
  · exact hr
  · exact SV.rep_le (noM_le ρ) hr.1

theorem RowRep.le {ρ ρ' : Rho} (h : Rle ρ ρ') {l : List Seg} {g : Nat → Option Value} (hr : RowRep ρ l g) : RowRep ρ' l g := by
  intro i x hx
  obtain ⟨v, hv, hc⟩ := hr i x hx
  exact ⟨v, hv, SV.rep_le h hc.1, hc.2⟩

theorem AV.rep0_le {ρ ρ' : Rho} (h : Rle ρ ρ') {x : AV} {v : Value} (hr : x.rep0 ρ v) : x.rep0 ρ' v := by
  cases x with
  | s x => exact SV.rep_le h hr
  | agg l => obtain ⟨cs, h1, h2, h3⟩ := hr; exact ⟨cs, h1, h2, h3.le h⟩
  | tup l => exact hr.elim

theorem AV.rep_le {ρ ρ' : Rho} (h : Rle ρ ρ') {x : AV} {v : Value} (hr : x.rep ρ v) : x.rep ρ' v := by
  cases x with
  | s x => exact SV.rep_le h hr
  | agg l => exact AV.rep0_le (x := .agg l) h hr
  | tup l =>
    obtain ⟨vs, h1, h3⟩ := hr
    refine ⟨vs, h1, fun i x hx => ?_⟩
    obtain ⟨u, hu, hc⟩ := h3 i x hx
    exact ⟨u, hu, AV.rep0_le h hc⟩

theorem SV.oneCell {ρ : Rho} {x : SV} {v : Value} (h : x.rep ρ v) (hj : x ≠ .junk) : v.oneCell' = true := by
  cases x <;> simp only [SV.rep] at h
  case junk => exact absurd rfl hj
  case val u => rw [h.1]; exact h.2
  case ptr => obtain ⟨b, o, _, rfl⟩ := h; rfl
  case slice => obtain ⟨b, o, _, rfl⟩ := h; rfl
  case slx => obtain ⟨b, o, c, _, rfl, _⟩ := h; rfl
  case gro => rcases h with ⟨_, rfl⟩ | ⟨b, o, c, n, _, rfl, _⟩ <;> rfl
  case clo => obtain ⟨vs, rfl, _⟩ := h; rfl
  case ifc => obtain ⟨u, rfl, _⟩ := h; rfl
  case fzi => rcases h with ⟨_, a, c, rfl⟩ | ⟨b, o, c, cs, rfl, _⟩ <;> rfl
  case fz => rcases h with ⟨_, a, c, rfl⟩ | ⟨b, o, c, cs, rfl, _⟩ <;> rfl
  case fptr => obtain ⟨b, o, cs, rfl, _⟩ := h; rfl
  case noid => exact h.2
  all_goals (subst h; rfl)

theorem BRep.le {ρ ρ' : Rho} (h : Rle ρ ρ') {k : Blk} {w : World} {b o : Nat} (hr : BRep ρ k w b o) : BRep ρ' k w b o := by
  obtain ⟨cells, t, fr, h1, h2, h2', h3⟩ := hr
  exact ⟨cells, t, fr, h1, h2, fun e => h.fz _ _ (h2' e), h3.le h⟩

theorem BRep.lt {ρ : Rho} {k : Blk} {w : World} {b o : Nat} (hr : BRep ρ k w b o) : b < w.heap.size := by
  obtain ⟨cells, t, fr, h1, h2, h3⟩ := hr
  rcases Nat.lt_or_ge b w.heap.size with h | h
  · exact h
  · simp [Array.getElem?_eq_none h] at h1

theorem BRep.world {ρ : Rho} {k : Blk} {w w' : World} {b o : Nat} (hr : BRep ρ k w b o) (hw : w'.heap[b]? = w.heap[b]?) : BRep ρ k w' b o := by
  obtain ⟨cells, t, fr, h1, h2, h3⟩ := hr
  exact ⟨cells, t, fr, hw.trans h1, h2, h3⟩

theorem BRep.ext {ρ : Rho} {k : Blk} {w w' : World} {b o : Nat} (hr : BRep ρ k w b o) (hw : Ext w w') : BRep ρ k w' b o :=
  hr.world (hw.block b hr.lt)

theorem HRep.ext {W : Nat → Prop} {ρ : Rho} {h : Nat → Option Blk} {w w' : World} (hH : HRep W ρ h w) (hw : Ext w w') : HRep W ρ h w' :=
  ⟨fun id b o hr => Nat.lt_of_lt_of_le (hH.lt id b o hr) hw.size, fun id b o k h1 h2 => ⟨(hH.rep id b o k h1 h2).1.ext hw, (hH.rep id b o k h1 h2).2⟩, hH.apart,
    fun b cs e => ⟨(hH.fz b cs e).1, let ⟨t, fr, h1⟩ := (hH.fz b cs e).2; ⟨t, fr, hw.obj h1⟩⟩, fun b n e => let ⟨cs, t, fr, h1, h2⟩ := hH.sz b n e; ⟨cs, t, fr, hw.obj h1, h2⟩⟩

theorem HRep.sub {W : Nat → Prop} {ρ : Rho} {h h' : Nat → Option Blk} {w : World} (hH : HRep W ρ h w) (hs : ∀ (id : Nat) (k : Blk), h' id = some k → h id = some k) : HRep W ρ h' w :=
  ⟨hH.lt, fun id b o k h1 h2 => hH.rep id b o k h1 (hs _ _ h2), fun id id' b o o' k k' hn h1 h2 h3 h4 => hH.apart id id' b o o' k k' hn h1 h2 (hs _ _ h3) (hs _ _ h4), hH.fz, hH.sz⟩
theorem sz_fr {W V : Nat → Prop} {ρ : Rho} {h : Nat → Option Blk} {w w' : World} (hH : HRep W ρ h w) (k : Fr V w w') (b n : Nat) (e : ρ.sz b = some n) : ∃ cs t fr, w'.heap[b]? = some (.cells cs t fr) ∧ cs.size = n := by
  obtain ⟨cs, t, fr, h1, h2⟩ := hH.sz b n e
  obtain ⟨c2, t2, f2, h3, h4⟩ := k.sizes b cs t fr h1
  exact ⟨c2, t2, f2, h3, h4.trans h2⟩

def look : Tm → Nat → AV
  | [], _ => .s .junk
  | (j, v) :: r, i => bif Nat.beq j i then v else look r i

def put (T : Tm) (d : Option Tmp) (v : AV) : Tm :=
  match d with
  | some d => (d, v) :: T
  | none => T

def TRep (ρ : Rho) (T : Tm) (a : Act) : Prop := ∀ i, (look T i).rep ρ (a.tmps.getD i undef)

theorem look_cons (j : Nat) (v : AV) (T : Tm) (i : Nat) : look ((j, v) :: T) i = if j = i then v else look T i := by
  simp only [look]
  by_cases h : j = i
  · subst h; simp
  · have : Nat.beq j i = false := by
      cases hb : Nat.beq j i with
      | false => rfl
      | true => exact absurd (Nat.eq_of_beq_eq_true hb) h
    simp [this, h]

theorem getD_set (t : Array Value) (d i : Nat) (v : Value) (hd : d < t.size) : (t.setIfInBounds d v).getD i undef = if d = i then v else t.getD i undef := by
  by_cases h : d = i
  · subst h; simp [hd]
  · simp [h, Array.getElem?_setIfInBounds_ne h]

def evc : Value → SV
  | .int k n => .int k n
  | .bool b => .bool b
  | .pointer none => .nilp
  | .slice none 0 0 => .nils
  | v => if v.oneCell' then .val v else .junk

def ev (T : Tm) : Operand → AV
  | .tmp t => look T t
  | .const (.agg cs) => .agg (cs.toList.map fun v => .one (evc v))
  | .const v => .s (evc v)
  | .func f => .s (.val (.func (.func f) #[] #[]))
  | .global _ => .s .junk

theorem evc_rep {v : Value} (ρ : Rho) : (evc v).rep ρ v := by
  unfold evc
  split
  · exact rfl
  · exact rfl
  · exact rfl
  · exact rfl
  · split
    · rename_i h; exact ⟨rfl, h⟩
    · trivial

theorem TRep.put {ρ : Rho} {T : Tm} {a : Act} {d : Option Tmp} {v : AV} {v' : Value} (h : TRep ρ T a) (hd : ∀ i, d = some i → i < a.tmps.size) (hv : v.rep ρ v') : TRep ρ (put T d v) (a.put d v') := by
  intro i
  cases d with
  | none => exact h i
  | some j =>
    simp only [Bx.put, Act.put, look_cons]
    rw [getD_set _ _ _ _ (hd j rfl)]
    by_cases hi : j = i
    · simp only [hi, if_true]; exact hv
    · simp only [hi, if_false]; exact h i
theorem TRep.le {ρ ρ' : Rho} {T : Tm} {a : Act} (h : TRep ρ T a) (hl : Rle ρ ρ') : TRep ρ' T a := fun i => AV.rep_le hl (h i)
theorem put_size (a : Act) (d : Option Tmp) (v : Value) : (a.put d v).tmps.size = a.tmps.size := by cases d <;> simp [Act.put]
theorem put_defers (a : Act) (d : Option Tmp) (v : Value) : (a.put d v).defers = a.defers := by cases d <;> simp [Act.put]

end Go.Bx
end

section
/- What an operation does to an abstract state, and that it leaves all else. No program. -/
namespace Go.Bx

def Gives (P : Program) (o : Oper) (a : Act) (w : World) (R : Value → World → Prop) : Prop :=
  ∀ (next : Act → World → Prop) (Q : Exit → Act → World → Prop), (∀ v w', R v w' → next (a.put o.dst v) w') → o.upon P a next Q ((execOp a.eval o).run P w)

theorem Gives.mono {P : Program} {o : Oper} {a : Act} {w : World} {R R' : Value → World → Prop} (h : Gives P o a w R) (hr : ∀ v w', R v w' → R' v w') : Gives P o a w R' :=
  fun next Q hq => h next Q fun v w' hR => hq v w' (hr v w' hR)

structure Nx (n n' : Nat) (ρ ρ' : Rho) (W W' : Nat → Prop) (h' : Nat → Option Blk) (w w' : World) : Prop where
  le : Rle ρ ρ'
  old : ∀ id x, ρ'.m id = some x → ρ.m id = some x ∨ (n ≤ id ∧ id < n' ∧ W x.1)
  rep : HRep W' ρ' h' w'
  fr : Fr W w w'
  sub : ∀ b, W' b → W b
  fresh : ∀ b, w'.heap.size ≤ b → W' b
  fzn : ∀ b c, ρ'.fz b = some c → ρ.fz b = some c ∨ W b

def Ops (o : Oper) (T : Tm) (ρ : Rho) (a : Act) : Prop := ∀ x ∈ o.op.operands, (ev T x).rep ρ (a.eval x)

def Step (P : Program) (o : Oper) (T : Tm) (H H' : Heap) (v : AV) : Prop :=
  ∀ (W : Nat → Prop) (ρ : Rho) (a : Act) (w : World), HRep W ρ (hget H) w → (∀ i, H.length ≤ i → i < H'.length → ρ.m i = none) → (∀ b, w.heap.size ≤ b → W b) → Ops o T ρ a →
    Gives P o a w fun v' w' => ∃ ρ' W', Nx H.length H'.length ρ ρ' W W' (hget H') w w' ∧ v.rep ρ' v'

theorem hget_lt {H : Heap} {id : Nat} {k : Blk} (h : hget H id = some k) : id < H.length := by
  unfold hget at h
  rcases Nat.lt_or_ge id H.length with h1 | h1
  · exact h1
  · rw [List.getElem?_eq_none h1] at h; cases h
theorem hget_ge {H : Heap} {id : Nat} (h : H.length ≤ id) : hget H id = none := by unfold hget; rw [List.getElem?_eq_none h]; rfl
theorem hget_set {H : Heap} {id : Nat} {k : Option Blk} (h : id < H.length) (j : Nat) : hget (H.set id k) j = if j = id then k else hget H j := by
  unfold hget
  by_cases hj : j = id
  · subst hj; simp [h]
  · rw [List.getElem?_set_ne (fun e => hj e.symm), if_neg hj]
theorem hget_app {H H2 : Heap} (j : Nat) : hget (H ++ H2) j = if j < H.length then hget H j else hget H2 (j - H.length) := by
  unfold hget
  by_cases hj : j < H.length
  · rw [List.getElem?_append_left hj, if_pos hj]
  · rw [List.getElem?_append_right (by omega), if_neg hj]

def msk (F : List Nat) (n : Nat) (H : Heap) : Heap := H.mapIdx fun i k => if i ∈ F ∨ n ≤ i then k else none
theorem msk_len (F : List Nat) (n : Nat) (H : Heap) : (msk F n H).length = H.length := by simp [msk]
theorem hget_msk (F : List Nat) (n : Nat) (H : Heap) (i : Nat) : hget (msk F n H) i = if i ∈ F ∨ n ≤ i then hget H i else none := by
  unfold hget msk
  rw [List.getElem?_mapIdx]
  cases H[i]? with
  | none => simp
  | some k => simp

structure LOk (P : Program) (o : Oper) (T : Tm) (H H' : Heap) (v : AV) (F M : List Nat) : Prop where
  len : H.length ≤ H'.length
  keep : ∀ id, id < H.length → id ∉ M → hget H' id = hget H id
  sub : ∀ id ∈ M, id ∈ F
  lt : ∀ id ∈ F, id < H.length
  run : Step P o T (msk F H.length H) (msk F H.length H') v

theorem LOk.frame {P : Program} {o : Oper} {T : Tm} {H H' : Heap} {v : AV} {F M : List Nat} (h : LOk P o T H H' v F M) {W : Nat → Prop} {ρ : Rho} {a : Act} {w : World} {c : Nat → Option Blk} (hc : HRep W ρ c w)
    (hag : ∀ id, id ∈ F → id < H.length → c id = hget H id) (hfr : ∀ i, H.length ≤ i → i < H'.length → ρ.m i = none) (hW : ∀ b, w.heap.size ≤ b → W b) (ho : Ops o T ρ a) :
    Gives P o a w fun v' w' => ∃ ρ' W', Nx H.length H'.length ρ ρ' W W' (fun id => if id ∈ M ∨ (H.length ≤ id ∧ id < H'.length) then hget H' id else c id) w w' ∧ v.rep ρ' v' := by
  let n := H.length
  let WF : Nat → Prop := fun b => W b ∧ ((∃ id o k, id ∈ F ∧ id < n ∧ ρ.m id = some (b, o) ∧ c id = some k ∧ k.rw = true) ∨ w.heap.size ≤ b)
  have hm : ∀ id k, hget (msk F n H) id = some k → id ∈ F ∧ id < n ∧ c id = some k := by
    intro id k hk
    have hlt := hget_lt hk
    rw [msk_len] at hlt
    rw [hget_msk] at hk
    split at hk
    · rename_i h1
      have h2 : id ∈ F := h1.resolve_right (by omega)
      exact ⟨h2, hlt, (hag id h2 hlt).trans hk⟩
    · cases hk
  have hin : ∀ id b o k, ρ.m id = some (b, o) → c id = some k → id ∉ F → ¬ WF b := by
    rintro id b o k e1 e2 hni ⟨w1, w2⟩
    rcases w2 with ⟨id2, o2, k2, f1, f2, f3, f4, f5⟩ | w2
    · have := (hc.apart id id2 b o o2 k k2 (fun e => hni (e ▸ f1)) e1 f3 e2 f4).2
      rw [this] at f5; cases f5
    · have := hc.lt _ _ _ e1; omega
  have h0 : HRep WF ρ (hget (msk F n H)) w := by
    refine ⟨hc.lt, fun id b o k e1 e2 => ?_, fun id id' b o o' k k' hne e1 e2 e3 e4 => ?_, fun b cs e => ?_, ?_⟩
    · obtain ⟨f1, f2, f3⟩ := hm id k e2
      have := hc.rep id b o k e1 f3
      exact ⟨this.1, fun e => ⟨this.2 e, .inl ⟨id, o, k, f1, f2, e1, f3, e⟩⟩⟩
    · exact hc.apart id id' b o o' k k' hne e1 e2 (hm _ _ e3).2.2 (hm _ _ e4).2.2
    · exact ⟨fun hw => (hc.fz b cs e).1 hw.1, (hc.fz b cs e).2⟩
    · exact hc.sz
  have hrun := h.run WF ρ a w h0 (fun i h1 h2 => by rw [msk_len] at h1 h2; exact hfr i h1 h2) (fun b hb => ⟨hW b hb, .inr hb⟩) ho
  refine hrun.mono ?_
  rintro v' w' ⟨ρ', W1, hn, hv⟩
  rw [msk_len, msk_len] at hn
  have hnew : ∀ id, H.length ≤ id → id < H'.length → hget (msk F n H') id = hget H' id := fun id h1 h2 => by rw [hget_msk, if_pos (.inr h1)]
  have hgM : ∀ id, id ∈ M → hget (msk F n H') id = hget H' id := fun id hi => by rw [hget_msk, if_pos (.inl (h.sub id hi))]
  have hgF : ∀ id, id ∈ F → id < H.length → id ∉ M → hget (msk F n H') id = c id := fun id hi hl hnm => by
    rw [hget_msk, if_pos (.inl hi), h.keep id hl hnm]; exact (hag id hi hl).symm
  let W' : Nat → Prop := fun b => W b ∧ (WF b → W1 b)
  -- what lies at a number: told by the step, or as it was
  have hcase : ∀ id b o k, ρ'.m id = some (b, o) → (if id ∈ M ∨ (H.length ≤ id ∧ id < H'.length) then hget H' id else c id) = some k →
      hget (msk F n H') id = some k ∨ (id ∉ F ∧ ρ.m id = some (b, o) ∧ c id = some k ∧ b < w.heap.size) := by
    intro id b o k e1 e2
    by_cases h1 : id ∈ M
    · rw [if_pos (.inl h1)] at e2; exact .inl ((hgM id h1).trans e2)
    by_cases h2 : H.length ≤ id ∧ id < H'.length
    · rw [if_pos (.inr h2)] at e2; exact .inl ((hnew id h2.1 h2.2).trans e2)
    rw [if_neg (by simp only [not_or]; exact ⟨h1, h2⟩)] at e2
    rcases hn.old id _ e1 with e3 | e3
    · by_cases h4 : id ∈ F
      · exact .inl ((hgF id h4 (h.lt id h4) h1).trans e2)
      · exact .inr ⟨h4, e3, e2, hc.lt _ _ _ e3⟩
    · exact absurd ⟨e3.1, e3.2.1⟩ h2
  have hsame : ∀ b, b < w.heap.size → ¬ WF b → w'.heap[b]? = w.heap[b]? := hn.fr.block
  refine ⟨ρ', W', ⟨hn.le, fun id x e => (hn.old id x e).imp (fun h => h) fun h => ⟨h.1, h.2.1, h.2.2.1⟩, ⟨hn.rep.lt, fun id b o k e1 e2 => ?_, fun id id' b o o' k k' hne e1 e2 e3 e4 => ?_, fun b cs e => ?_, hn.rep.sz⟩, hn.fr.mono fun b hb => hb.1, fun b hb => hb.1, fun b hb => ⟨hW b (Nat.le_trans hn.fr.size hb), fun _ => hn.fresh b hb⟩, fun b cs e => ?_⟩, hv⟩
  · rcases hcase id b o k e1 e2 with h1 | ⟨h1, h2, h3, h4⟩
    · have := hn.rep.rep id b o k e1 h1
      exact ⟨this.1, fun e => ⟨(hn.sub b (this.2 e)).1, fun _ => this.2 e⟩⟩
    · have hno := hin id b o k h2 h3 h1
      have := hc.rep id b o k h2 h3
      exact ⟨(this.1.world (hsame b h4 hno)).le hn.le, fun e => ⟨this.2 e, fun e' => absurd e' hno⟩⟩
  · -- one told by the step, the other one as it was
    have mixed : ∀ (i j o1 o2 : Nat) (k1 k2 : Blk), i ≠ j → ρ'.m i = some (b, o1) → ρ'.m j = some (b, o2) → hget (msk F n H') i = some k1 → (j ∉ F ∧ ρ.m j = some (b, o2) ∧ c j = some k2 ∧ b < w.heap.size) → k1.rw = false ∧ k2.rw = false := by
      intro i j o1 o2 k1 k2 hij g1 g2 g3 ⟨g4, g5, g6, g7⟩
      have hno := hin j b o2 k2 g5 g6 g4
      have a1 : k1.rw = false := by
        cases hk : k1.rw with
        | false => rfl
        | true => exact absurd (hn.sub b ((hn.rep.rep i b o1 k1 g1 g3).2 hk)) hno
      refine ⟨a1, ?_⟩
      cases hk : k2.rw with
      | false => rfl
      | true =>
        have hWb := (hc.rep j b o2 k2 g5 g6).2 hk
        obtain ⟨cells, t, fr, q1, q2, q3, q4⟩ := (hn.rep.rep i b o1 k1 g1 g3).1
        have q5 := q3 a1
        rcases hn.fzn b _ q5 with q6 | q6
        · exact absurd hWb (hc.fz b _ q6).1
        · exact absurd q6 hno
    rcases hcase id b o k e1 e3 with h1 | h1 <;> rcases hcase id' b o' k' e2 e4 with h2 | h2
    · exact hn.rep.apart id id' b o o' k k' hne e1 e2 h1 h2
    · exact mixed id id' o o' k k' hne e1 e2 h1 h2
    · exact (mixed id' id o' o k' k (Ne.symm hne) e2 e1 h2 h1).symm
    · exact hc.apart id id' b o o' k k' hne h1.2.1 h2.2.1 h1.2.2.1 h2.2.2.1
  · refine ⟨fun hw => ?_, (hn.rep.fz b cs e).2⟩
    rcases hn.fzn b cs e with h1 | h1
    · exact (hc.fz b cs h1).1 hw.1
    · exact (hn.rep.fz b cs e).1 (hw.2 h1)
  · rcases hn.fzn b cs e with h1 | h1
    · exact .inl h1
    · exact .inr h1.1

theorem lok_read {P : Program} {o : Oper} {T : Tm} {H : Heap} {v : AV} (F : List Nat) (hF : ∀ id ∈ F, id < H.length) (h : ∀ H0 : Heap, H0.length = H.length → (∀ id ∈ F, hget H0 id = hget H id) → Step P o T H0 H0 v) : LOk P o T H H v F [] :=
  ⟨Nat.le_refl _, fun _ _ _ => rfl, fun _ h => (by cases h), hF, h _ (msk_len _ _ _) fun id hi => by rw [hget_msk, if_pos (.inl hi)]⟩
theorem msk_app (F : List Nat) (H : Heap) (nb : Heap) : msk F H.length (H ++ nb) = msk F H.length H ++ nb := by
  apply List.ext_getElem?
  intro i
  unfold msk
  rw [List.getElem?_mapIdx]
  by_cases hi : i < H.length
  · rw [List.getElem?_append_left hi, List.getElem?_append_left (by simpa using hi), List.getElem?_mapIdx]
  · rw [List.getElem?_append_right (by omega), List.getElem?_append_right (by simp; omega)]
    simp only [List.length_mapIdx]
    cases nb[i - H.length]? with
    | none => rfl
    | some k => simp; omega
theorem lok_new {P : Program} {o : Oper} {T : Tm} {H nb : Heap} {v : AV} (F : List Nat) (hF : ∀ id ∈ F, id < H.length) (h : ∀ H0 : Heap, H0.length = H.length → (∀ id ∈ F, hget H0 id = hget H id) → Step P o T H0 (H0 ++ nb) v) : LOk P o T H (H ++ nb) v F [] :=
  ⟨by simp, fun id hi _ => by rw [hget_app, if_pos hi], fun _ h => (by cases h), hF, by rw [msk_app]; exact h _ (msk_len _ _ _) fun id hi => by rw [hget_msk, if_pos (.inl hi)]⟩
theorem msk_set (F : List Nat) (n : Nat) (H : Heap) {id : Nat} (hi : id ∈ F) (k : Option Blk) : msk F n (H.set id k) = (msk F n H).set id k := by
  apply List.ext_getElem?
  intro i
  unfold msk
  rw [List.getElem?_mapIdx]
  by_cases hj : i = id
  · subst hj
    by_cases hl : i < H.length
    · simp [hl, hi]
    · rw [List.getElem?_eq_none (by simp; omega), List.getElem?_eq_none (by simp; omega)]; rfl
  · rw [List.getElem?_set_ne (fun e => hj e.symm), List.getElem?_set_ne (fun e => hj e.symm), List.getElem?_mapIdx]
theorem lok_set {P : Program} {o : Oper} {T : Tm} {H : Heap} {v : AV} {id : Nat} {k : Option Blk} (F : List Nat) (hF : ∀ id ∈ F, id < H.length) (hi : id ∈ F) (h : ∀ H0 : Heap, H0.length = H.length → (∀ id ∈ F, hget H0 id = hget H id) → Step P o T H0 (H0.set id k) v) : LOk P o T H (H.set id k) v F [id] :=
  ⟨by simp, fun j hj hn => by rw [hget_set (hF id hi), if_neg (by simpa using hn)], fun j hj => by simp at hj; subst hj; exact hi, hF, by rw [msk_set _ _ _ hi]; exact h _ (msk_len _ _ _) fun id hi => by rw [hget_msk, if_pos (.inl hi)]⟩

theorem Step.pure {P : Program} {o : Oper} {T : Tm} {H : Heap} {v : AV}
    (h : ∀ (W : Nat → Prop) (ρ : Rho) (a : Act) (w : World), HRep W ρ (hget H) w → Ops o T ρ a → ∃ v', (execOp a.eval o).run P w = .ok (.value v') w ∧ v.rep ρ v') : Step P o T H H v := by
  intro W ρ a w hH _ hW ho next Q hq
  obtain ⟨v', hr, hv⟩ := h W ρ a w hH ho
  rw [hr]
  exact hq v' w ⟨ρ, W, ⟨.refl _, fun _ _ h => .inl h, hH, .refl _ _, fun _ h => h, hW, fun _ _ h => .inl h⟩, hv⟩
theorem lok_pure {P : Program} {o : Oper} {T : Tm} {H : Heap} {v : AV}
    (h : ∀ (ρ : Rho) (a : Act) (w : World), Ops o T ρ a → ∃ v', (execOp a.eval o).run P w = .ok (.value v') w ∧ v.rep ρ v') : LOk P o T H H v [] [] :=
  lok_read [] (fun _ h => by cases h) fun _ _ _ => .pure fun _ ρ a w _ ho => h ρ a w ho

theorem nx_alloc {W : Nat → Prop} {ρ : Rho} {H0 : Heap} {w : World} {cells : Array Value} {t : TypeId} {segs : List Seg} (hH : HRep W ρ (hget H0) w) (hn : ρ.m H0.length = none) (hW : ∀ b, w.heap.size ≤ b → W b)
    (hr : ∀ ρ', Rle ρ ρ' → RowRep ρ' segs (fun i => cells[i]?)) :
    ∃ ρ', Nx H0.length (H0 ++ [some (Blk.mk true segs)]).length ρ ρ' W W (hget (H0 ++ [some (Blk.mk true segs)])) w (w.alloc (.cells cells t)) ∧ ρ'.m H0.length = some (w.heap.size, 0) ∧ ρ'.sz w.heap.size = some cells.size := by
  have hsn : ρ.sz w.heap.size = none := by
    cases h : ρ.sz w.heap.size with
    | none => rfl
    | some x => obtain ⟨cs, t, fr, h1, _⟩ := hH.sz _ _ h; have := (Array.getElem?_eq_some_iff.1 h1).1; omega
  let ρ' : Rho := ⟨fun i => if i = H0.length then some (w.heap.size, 0) else ρ.m i, ρ.fz, fun b => if b = w.heap.size then some cells.size else ρ.sz b⟩
  have hle : Rle ρ ρ' := by
    refine ⟨fun i x hx => ?_, fun _ _ h => h, fun b x hx => ?_⟩
    · show (if i = H0.length then some (w.heap.size, 0) else ρ.m i) = some x
      by_cases hi : i = H0.length
      · subst hi; rw [hn] at hx; cases hx
      · rw [if_neg hi]; exact hx
    · show (if b = w.heap.size then some cells.size else ρ.sz b) = some x
      by_cases hb : b = w.heap.size
      · subst hb; rw [hsn] at hx; cases hx
      · rw [if_neg hb]; exact hx
  have hcase : ∀ id x, ρ'.m id = some x → (id = H0.length ∧ x = (w.heap.size, 0)) ∨ (id ≠ H0.length ∧ ρ.m id = some x) := by
    intro id x hx
    have hx : (if id = H0.length then some (w.heap.size, 0) else ρ.m id) = some x := hx
    by_cases hi : id = H0.length
    · rw [if_pos hi] at hx; exact .inl ⟨hi, (Option.some.inj hx).symm⟩
    · rw [if_neg hi] at hx; exact .inr ⟨hi, hx⟩
  have hg : ∀ id k, id ≠ H0.length → hget (H0 ++ [some (Blk.mk true segs)]) id = some k → hget H0 id = some k := by
    intro id k hi hk
    rw [hget_app] at hk
    split at hk
    · exact hk
    · have := hget_lt hk; simp at this; omega
  have hgn : hget (H0 ++ [some (Blk.mk true segs)]) H0.length = some ⟨true, segs⟩ := by rw [hget_app, if_neg (by omega), Nat.sub_self]; rfl
  have hnew : (w.alloc (.cells cells t)).heap[w.heap.size]? = some (.cells cells t (0, 0)) := heap_alloc_new _ _
  refine ⟨ρ', ⟨hle, fun id x hx => ?_, ⟨fun id b o e => ?_, fun id b o k e1 e2 => ?_, fun id id' b o o' k k' hne e1 e2 e3 e4 => ?_, fun b cs e => ?_, fun b n e => ?_⟩, (Ext.alloc _ _).fr _, fun _ h => h, fun b hb => hW b (by simp at hb; omega), fun _ _ h => .inl h⟩, by show (if _ then _ else _) = _; rw [if_pos rfl], by show (if _ then _ else _) = _; rw [if_pos rfl]⟩
  · rcases hcase id x hx with ⟨rfl, rfl⟩ | ⟨_, h⟩
    · exact .inr ⟨Nat.le_refl _, by simp, hW _ (Nat.le_refl _)⟩
    · exact .inl h
  · rcases hcase id _ e with ⟨rfl, h⟩ | ⟨_, h⟩
    · cases h; simp
    · have := hH.lt _ _ _ h; simp; omega
  · rcases hcase id _ e1 with ⟨rfl, h⟩ | ⟨h1, h⟩
    · cases h
      rw [hgn] at e2
      cases e2
      exact ⟨⟨cells, t, (0, 0), hnew, fun _ => rfl, fun h => (by cases h), by simpa using hr _ hle⟩, fun _ => hW _ (Nat.le_refl _)⟩
    · have := hH.rep id b o k h (hg id k h1 e2)
      exact ⟨(this.1.ext (.alloc _ _)).le hle, this.2⟩
  · rcases hcase id _ e1 with ⟨rfl, h⟩ | ⟨h1, h⟩ <;> rcases hcase id' _ e2 with ⟨rfl, h'⟩ | ⟨h1', h'⟩
    · exact absurd rfl hne
    · cases h; have := hH.lt _ _ _ h'; omega
    · cases h'; have := hH.lt _ _ _ h; omega
    · exact hH.apart id id' b o o' k k' hne h h' (hg _ _ h1 e3) (hg _ _ h1' e4)
  · obtain ⟨h1, t', fr, h2⟩ := hH.fz b cs e
    exact ⟨h1, t', fr, (Ext.alloc _ _).obj h2⟩
  · have e2 : (if b = w.heap.size then some cells.size else ρ.sz b) = some n := e
    by_cases hb : b = w.heap.size
    · rw [if_pos hb] at e2; subst hb; exact ⟨cells, t, _, hnew, Option.some.inj e2⟩
    · rw [if_neg hb] at e2
      obtain ⟨cs, t', fr, h1, h2⟩ := hH.sz b n e2
      exact ⟨cs, t', fr, (Ext.alloc _ _).obj h1, h2⟩

end Go.Bx
end

section
/- Rules for single operations: numbers, addresses, loads, stores. No program. -/
namespace Go.Bx

theorem two {op : Op} {x y : Operand} {d : Option Tmp} {ty : TypeId} {pos : String} {af : Array Edge} {g : Option (Nat × Bool)} {T : Tm} {ρ : Rho} {a : Act} (hop : op.operands = #[x, y]) (ho : Ops ⟨d, op, ty, pos, af, g⟩ T ρ a) {u v : AV} (hx : ev T x = u) (hy : ev T y = v) :
    u.rep ρ (a.eval x) ∧ v.rep ρ (a.eval y) :=
  ⟨by have := ho x (by simp [hop]); rwa [hx] at this, by have := ho y (by simp [hop]); rwa [hy] at this⟩
theorem one {op : Op} {x : Operand} {d : Option Tmp} {ty : TypeId} {pos : String} {af : Array Edge} {g : Option (Nat × Bool)} {T : Tm} {ρ : Rho} {a : Act} (hop : op.operands = #[x]) (ho : Ops ⟨d, op, ty, pos, af, g⟩ T ρ a) {u : AV} (hx : ev T x = u) : u.rep ρ (a.eval x) := by
  have := ho x (by simp [hop]); rwa [hx] at this

def segAt : List Seg → Nat → Option Seg
  | [], _ => none
  | s :: r, b => bif Nat.beq b 0 then some s else bif Nat.ble s.size b then segAt r (b - s.size) else none

theorem segAt_at : ∀ {l : List Seg} {b : Nat} {s : Seg}, segAt l b = some s → ∀ i, i < s.size → atS l (b + i) = some (s.at i)
  | [], _, _, h, _, _ => by simp [segAt] at h
  | s :: r, b, x, h, i, hi => by
    simp only [segAt] at h
    by_cases hb : Nat.beq b 0 = true
    · have : b = 0 := Nat.eq_of_beq_eq_true hb
      subst this
      simp at h
      subst h
      simp [atS, hi]
    · simp only [Bool.not_eq_true] at hb
      rw [hb] at h
      simp only [cond_false] at h
      by_cases hs : Nat.ble s.size b = true
      · rw [hs] at h
        simp only [cond_true] at h
        have hle : s.size ≤ b := Nat.le_of_ble_eq_true hs
        have ih := segAt_at h i hi
        simp only [atS]
        rw [if_neg (by omega), show b + i - s.size = b - s.size + i by omega]
        exact ih
      · simp only [Bool.not_eq_true] at hs
        rw [hs] at h
        simp at h

theorem atS_lt : ∀ {l : List Seg} {i : Nat} {x : SV}, atS l i = some x → i < sizeS l
  | [], _, _, h => by simp [atS] at h
  | s :: r, i, x, h => by
    simp only [atS] at h
    by_cases hi : i < s.size
    · simp [sizeS]; omega
    · rw [if_neg hi] at h
      have := atS_lt h
      simp [sizeS]; omega

theorem atS_some : ∀ {l : List Seg} {i : Nat}, i < sizeS l → ∃ x, atS l i = some x
  | [], _, h => by simp [sizeS] at h
  | s :: r, i, h => by
    simp only [atS]
    by_cases hi : i < s.size
    · exact ⟨_, by rw [if_pos hi]⟩
    · rw [if_neg hi]
      exact atS_some (by simp [sizeS] at h; omega)

def SubS (l : List Seg) (o n : Nat) (sub : List Seg) : Prop := sizeS sub = n ∧ ∀ j, j < n → ∃ y x, atS l (o + j) = some y ∧ atS sub j = some x ∧ Sheds y x

theorem SubS.of_eq {l : List Seg} {o n : Nat} {sub : List Seg} (hn : sizeS sub = n) (h : ∀ j, j < n → atS sub j = atS l (o + j)) : SubS l o n sub :=
  ⟨hn, fun j hj => by obtain ⟨x, hx⟩ := atS_some (l := sub) (i := j) (by omega); exact ⟨x, x, (h j hj).symm.trans hx, hx, .inl rfl⟩⟩
theorem SubS.whole {l : List Seg} {n : Nat} (h : sizeS l = n) : SubS l 0 n l := .of_eq h fun j _ => by simp
theorem SubS.seg {l : List Seg} {o n : Nat} {s : Seg} (h : segAt l o = some s) (hn : s.size = n) : SubS l o n [s] :=
  .of_eq (by simp [sizeS, hn]) fun j hj => by have := segAt_at h j (by omega); rw [this]; simp [atS, hn, hj]
theorem SubS.ints {l : List Seg} {o i n m : Nat} {k : IntKind} {xs : List Int} (h : segAt l o = some (.ints k m xs)) (hn : i + n ≤ m) : SubS l (o + i) n [.ints k n ((xs.drop i).take n)] :=
  .of_eq (by simp [sizeS, Seg.size]) fun j hj => by
    have := segAt_at h (i + j) (by simp [Seg.size]; omega)
    rw [show o + i + j = o + (i + j) by omega, this]
    simp [atS, Seg.size, hj, Seg.at, List.getElem?_take]
theorem SubS.two {l : List Seg} {o n m : Nat} {s : Seg} {r : List Seg} (h : segAt l o = some s) (hm : s.size = m) (hr : SubS l (o + m) n r) : SubS l o (m + n) (s :: r) := by
  refine ⟨by simp [sizeS, hr.1, hm], fun j hj => ?_⟩
  by_cases hjm : j < m
  · have := segAt_at h j (by omega)
    rw [this]; exact ⟨_, _, rfl, by simp only [atS]; rw [if_pos (by omega)], .inl rfl⟩
  · obtain ⟨y, x, h1, h2, h3⟩ := hr.2 (j - m) (by omega)
    rw [show o + m + (j - m) = o + j by omega] at h1
    exact ⟨y, x, h1, by simp only [atS]; rw [if_neg (by omega), hm]; exact h2, h3⟩
theorem row_div {i j w : Nat} (hj : j < w) : (i * w + j) / w = i ∧ (i * w + j) % w = j :=
  ⟨by rw [Nat.mul_comm, Nat.mul_add_div (by omega), Nat.div_eq_of_lt hj]; rfl, by rw [Nat.mul_comm, Nat.mul_add_mod, Nat.mod_eq_of_lt hj]⟩
theorem row_lt {i j n w : Nat} (hi : i < n) (hj : j < w) : i * w + j < n * w := by
  have : (i + 1) * w ≤ n * w := Nat.mul_le_mul_right w hi
  rw [Nat.add_mul, Nat.one_mul] at this; omega
theorem SubS.row {l : List Seg} {o i n w : Nat} {rows : Nat → List Seg} (h : segAt l o = some (.rows n w (rowsF rows))) (hi : i < n) (hw : sizeS (rows i) = w) : SubS l (o + i * w) w (rows i) := by
  refine ⟨hw, fun j hj => ?_⟩
  have h2 := segAt_at h (i * w + j) (row_lt hi hj)
  rw [show o + i * w + j = o + (i * w + j) by omega, h2]
  obtain ⟨y, hy⟩ := atS_some (l := rows i) (i := j) (by omega)
  refine ⟨_, y, rfl, hy, .inr ?_⟩
  simp only [Seg.at, (row_div hj).1, (row_div hj).2, rowsF, cellsF, hy, Option.getD_some]

def takeS : List Seg → Nat → Option (List Seg)
  | _, 0 => some []
  | [], _ + 1 => none
  | s :: r, n + 1 => bif Nat.ble s.size (n + 1) then (bif Nat.beq s.size 0 then none else (takeS r (n + 1 - s.size)).map (s :: ·)) else none
def dropS : List Seg → Nat → Option (List Seg)
  | l, 0 => some l
  | [], _ + 1 => none
  | s :: r, n + 1 => bif Nat.ble s.size (n + 1) then (bif Nat.beq s.size 0 then none else dropS r (n + 1 - s.size)) else none
theorem takeS_at : ∀ {l : List Seg} {n : Nat} {sub : List Seg}, takeS l n = some sub → sizeS sub = n ∧ ∀ j, j < n → atS sub j = atS l j
  | l, 0, sub, h => by
    have h : some ([] : List Seg) = some sub := by cases l <;> exact h
    cases h; exact ⟨rfl, fun j hj => absurd hj (Nat.not_lt_zero j)⟩
  | [], n + 1, sub, h => by simp [takeS] at h
  | s :: r, n + 1, sub, h => by
    simp only [takeS] at h
    cases h1 : Nat.ble s.size (n + 1) with
    | false => rw [h1] at h; simp at h
    | true =>
      rw [h1] at h
      simp only [cond_true] at h
      cases h2 : Nat.beq s.size 0 with
      | true => rw [h2] at h; simp at h
      | false =>
        rw [h2] at h
        simp only [cond_false, Option.map_eq_some_iff] at h
        obtain ⟨q, hq, rfl⟩ := h
        have hle : s.size ≤ n + 1 := Nat.le_of_ble_eq_true h1
        obtain ⟨i1, i2⟩ := takeS_at hq
        refine ⟨by simp [sizeS, i1]; omega, fun j hj => ?_⟩
        simp only [atS]
        by_cases hjs : j < s.size
        · rw [if_pos hjs, if_pos hjs]
        · rw [if_neg hjs, if_neg hjs]; exact i2 (j - s.size) (by omega)
theorem dropS_at : ∀ {l : List Seg} {n : Nat} {r : List Seg}, dropS l n = some r → ∀ j, atS r j = atS l (n + j)
  | l, 0, r, h => by
    have h : some l = some r := by cases l <;> exact h
    cases h; intro j; rw [Nat.zero_add]
  | [], n + 1, r, h => by simp [dropS] at h
  | s :: q, n + 1, r, h => by
    simp only [dropS] at h
    cases h1 : Nat.ble s.size (n + 1) with
    | false => rw [h1] at h; simp at h
    | true =>
      rw [h1] at h
      simp only [cond_true] at h
      cases h2 : Nat.beq s.size 0 with
      | true => rw [h2] at h; simp at h
      | false =>
        rw [h2] at h
        simp only [cond_false] at h
        have hle : s.size ≤ n + 1 := Nat.le_of_ble_eq_true h1
        intro j
        rw [dropS_at h j]
        simp only [atS]
        rw [if_neg (by omega)]
        congr 1; omega
theorem SubS.part {l r : List Seg} {o n : Nat} {sub : List Seg} (hd : dropS l o = some r) (h : takeS r n = some sub) : SubS l o n sub := by
  obtain ⟨i1, i2⟩ := takeS_at h
  exact .of_eq i1 fun j hj => by rw [i2 j hj, dropS_at hd]

def segSet : List Seg → Nat → Seg → List Seg
  | [], _, _ => []
  | s :: r, b, x => bif Nat.beq b 0 then x :: r else s :: segSet r (b - s.size) x

theorem segSet_at : ∀ {l : List Seg} {b : Nat} {s x : Seg}, segAt l b = some s → x.size = s.size → ∀ j, atS (segSet l b x) j = if b ≤ j ∧ j < b + s.size then some (x.at (j - b)) else atS l j
  | [], _, _, _, h, _, _ => by simp [segAt] at h
  | s :: r, b, y, x, h, hx, j => by
    simp only [segAt] at h
    simp only [segSet]
    by_cases hb : Nat.beq b 0 = true
    · have : b = 0 := Nat.eq_of_beq_eq_true hb
      subst this
      simp at h
      subst h
      simp only [hb, cond_true, atS, hx]
      by_cases hj : j < s.size <;> simp [hj]
    · simp only [Bool.not_eq_true] at hb
      rw [hb] at h
      simp only [cond_false] at h
      simp only [hb, cond_false, atS]
      by_cases hs : Nat.ble s.size b = true
      · rw [hs] at h
        simp only [cond_true] at h
        have hle : s.size ≤ b := Nat.le_of_ble_eq_true hs
        have ih := segSet_at h hx (j - s.size)
        by_cases hj : j < s.size
        · rw [if_pos hj, if_neg (by omega), if_pos hj]
        · rw [if_neg hj, ih, if_neg hj]
          by_cases h2 : b ≤ j ∧ j < b + y.size
          · rw [if_pos (by omega), if_pos h2]; congr 2; omega
          · rw [if_neg (by omega), if_neg h2]
      · simp only [Bool.not_eq_true] at hs
        rw [hs] at h
        simp at h

def PutS (l : List Seg) (o n : Nat) (sub l' : List Seg) : Prop := (0 < n ∧ o + n ≤ sizeS l) ∧ ∀ j x, atS l' j = some x → if o ≤ j ∧ j < o + n then atS sub (j - o) = some x else atS l j = some x

theorem segAt_size {l : List Seg} {b : Nat} {s : Seg} (h : segAt l b = some s) : b + s.size ≤ sizeS l := by
  induction l generalizing b with
  | nil => simp [segAt] at h
  | cons y r ih =>
    simp only [segAt] at h
    by_cases hb : Nat.beq b 0 = true
    · have : b = 0 := Nat.eq_of_beq_eq_true hb
      subst this
      simp at h
      subst h
      simp [sizeS]
    · simp only [Bool.not_eq_true] at hb
      rw [hb] at h
      simp only [cond_false] at h
      by_cases hs : Nat.ble y.size b = true
      · rw [hs] at h
        have hle : y.size ≤ b := Nat.le_of_ble_eq_true hs
        have := ih h
        simp [sizeS]; omega
      · simp only [Bool.not_eq_true] at hs
        rw [hs] at h
        simp at h

theorem PutS.whole {l sub : List Seg} {n : Nat} (h0 : 0 < n) (h : sizeS l = n) (hs : sizeS sub = n) : PutS l 0 n sub sub := by
  refine ⟨⟨h0, by omega⟩, fun j x hx => ?_⟩
  have := atS_lt hx
  rw [if_pos ⟨Nat.zero_le _, by omega⟩]; simpa using hx
theorem PutS.seg {l : List Seg} {o n : Nat} {s x : Seg} (h0 : 0 < n) (h : segAt l o = some s) (hn : s.size = n) (hx : x.size = n) : PutS l o n [x] (segSet l o x) := by
  refine ⟨⟨h0, by have := segAt_size h; omega⟩, fun j y hy => ?_⟩
  rw [segSet_at h (by omega) j] at hy
  by_cases hj : o ≤ j ∧ j < o + n
  · rw [if_pos (by omega)] at hy
    rw [if_pos hj]
    simp only [atS]
    rw [if_pos (by omega)]; exact hy
  · rw [if_neg (by omega)] at hy
    rw [if_neg hj]; exact hy

def spl (xs ys : List Int) (i n m : Nat) : List Int := (List.range m).map fun j => if i ≤ j ∧ j < i + n then ys.getD (j - i) 0 else xs.getD j 0

theorem PutS.ints {l : List Seg} {o i n m : Nat} {k : IntKind} {xs ys : List Int} (h0 : 0 < n) (h : segAt l o = some (.ints k m xs)) (hn : i + n ≤ m) : PutS l (o + i) n [.ints k n ys] (segSet l o (.ints k m (spl xs ys i n m))) := by
  refine ⟨⟨h0, by have := segAt_size h; simp [Seg.size] at this; omega⟩, fun j y hy => ?_⟩
  have e := segSet_at (x := .ints k m (spl xs ys i n m)) h rfl j
  have hsz : (Seg.ints k m xs).size = m := rfl
  rw [hsz] at e
  rw [e] at hy
  by_cases hj : o + i ≤ j ∧ j < o + i + n
  · rw [if_pos (by omega)] at hy
    rw [if_pos hj]
    have hs2 : (Seg.ints k n ys).size = n := rfl
    simp only [atS]
    rw [if_pos (by rw [hs2]; omega), ← hy]
    simp only [Seg.at, spl]
    have : j - o < m := by omega
    simp [this]
    rw [if_pos (by omega)]
    rw [show j - o - i = j - (o + i) by omega]
  · rw [if_neg hj]
    by_cases h2 : o ≤ j ∧ j < o + m
    · rw [if_pos h2] at hy
      rw [← hy]
      have h3 := segAt_at h (j - o) (by simp [Seg.size]; omega)
      rw [show o + (j - o) = j by omega] at h3
      rw [h3]
      simp only [Seg.at, spl]
      have : j - o < m := by omega
      simp [this]
      intro a b; omega
    · rw [if_neg h2] at hy; exact hy
theorem PutS.int1 {l : List Seg} {o i m : Nat} {k : IntKind} {xs : List Int} {y : Int} (h : segAt l o = some (.ints k m xs)) (hn : i < m) (hl : xs.length = m) : PutS l (o + i) 1 [.one (.int k y)] (segSet l o (.ints k m (xs.set i y))) := by
  refine ⟨⟨by omega, by have := segAt_size h; simp [Seg.size] at this; omega⟩, fun j z hz => ?_⟩
  have e := segSet_at (x := .ints k m (xs.set i y)) h rfl j
  have hsz : (Seg.ints k m xs).size = m := rfl
  rw [hsz] at e
  rw [e] at hz
  by_cases hj : o + i ≤ j ∧ j < o + i + 1
  · have : j = o + i := by omega
    subst this
    rw [if_pos (by omega)] at hz
    rw [if_pos hj, ← hz]
    simp [atS, Seg.size, Seg.at, show i < xs.length by omega]
  · rw [if_neg hj]
    by_cases h2 : o ≤ j ∧ j < o + m
    · rw [if_pos h2] at hz
      rw [← hz]
      have h3 := segAt_at h (j - o) (by simp [Seg.size]; omega)
      rw [show o + (j - o) = j by omega] at h3
      rw [h3]
      simp only [Seg.at]
      have : i ≠ j - o := by omega
      simp [List.getElem?_set_ne this]
    · rw [if_neg h2] at hz; exact hz
def putSegs : List Seg → Nat → Nat → List Seg → Option (List Seg)
  | l, 0, n, sub => (dropS l n).map (sub ++ ·)
  | [], _ + 1, _, _ => none
  | s :: r, o + 1, n, sub => bif Nat.ble s.size (o + 1) then (bif Nat.beq s.size 0 then none else (putSegs r (o + 1 - s.size) n sub).map (s :: ·)) else none
theorem atS_append : ∀ (P Q : List Seg) (i : Nat), atS (P ++ Q) i = if i < sizeS P then atS P i else atS Q (i - sizeS P)
  | [], Q, i => by simp [sizeS]
  | s :: r, Q, i => by
    have e : sizeS (s :: r) = s.size + sizeS r := rfl
    rw [List.cons_append, atS, atS, atS_append r Q (i - s.size)]
    by_cases h : i < s.size
    · rw [if_pos h, if_pos h, if_pos (show i < sizeS (s :: r) by omega)]
    · rw [if_neg h, if_neg h]
      by_cases h2 : i - s.size < sizeS r
      · rw [if_pos h2, if_pos (show i < sizeS (s :: r) by omega)]
      · rw [if_neg h2, if_neg (show ¬ i < sizeS (s :: r) by omega), e, Nat.sub_sub]
theorem sizeS_append : ∀ (P Q : List Seg), sizeS (P ++ Q) = sizeS P + sizeS Q
  | [], Q => by simp [sizeS]
  | s :: r, Q => by rw [List.cons_append]; simp only [sizeS, sizeS_append r Q]; omega
theorem putSegs_put : ∀ {l : List Seg} {o n : Nat} {sub l' : List Seg}, putSegs l o n sub = some l' → sizeS sub = n → ∀ j x, atS l' j = some x → if o ≤ j ∧ j < o + n then atS sub (j - o) = some x else atS l j = some x
  | l, 0, n, sub, l', h, hs, j, x, hx => by
    have h : (dropS l n).map (sub ++ ·) = some l' := by cases l <;> exact h
    simp only [Option.map_eq_some_iff] at h
    obtain ⟨q, hq, rfl⟩ := h
    rw [atS_append, hs] at hx
    by_cases hj : j < n
    · rw [if_pos hj] at hx; rw [if_pos ⟨Nat.zero_le _, by omega⟩]; exact hx
    · rw [if_neg hj] at hx; rw [if_neg (by omega)]
      rw [dropS_at hq, show n + (j - n) = j by omega] at hx; exact hx
  | [], o + 1, n, sub, l', h, hs, j, x, hx => by simp [putSegs] at h
  | s :: r, o + 1, n, sub, l', h, hs, j, x, hx => by
    simp only [putSegs] at h
    cases h1 : Nat.ble s.size (o + 1) with
    | false => rw [h1] at h; simp at h
    | true =>
      rw [h1] at h
      simp only [cond_true] at h
      cases h2 : Nat.beq s.size 0 with
      | true => rw [h2] at h; simp at h
      | false =>
        rw [h2] at h
        simp only [cond_false, Option.map_eq_some_iff] at h
        obtain ⟨q, hq, rfl⟩ := h
        have hle : s.size ≤ o + 1 := Nat.le_of_ble_eq_true h1
        simp only [atS] at hx ⊢
        by_cases hj : j < s.size
        · rw [if_pos hj] at hx
          rw [if_neg (by omega), if_pos hj]; exact hx
        · rw [if_neg hj] at hx
          have ih := putSegs_put hq hs (j - s.size) x hx
          rw [if_neg hj]
          by_cases h3 : o + 1 ≤ j ∧ j < o + 1 + n
          · rw [if_pos (by omega)] at ih; rw [if_pos h3, ← ih]; congr 1; omega
          · rw [if_neg (by omega)] at ih; rw [if_neg h3]; exact ih
theorem putSegs_size : ∀ {l : List Seg} {o n : Nat} {sub l' : List Seg}, putSegs l o n sub = some l' → o + n ≤ sizeS l
  | l, 0, n, sub, l', h => by
    have h : (dropS l n).map (sub ++ ·) = some l' := by cases l <;> exact h
    simp only [Option.map_eq_some_iff] at h
    obtain ⟨q, hq, rfl⟩ := h
    rcases Nat.lt_or_ge (sizeS l) n with hlt | hge
    · have : ∀ {l : List Seg} {n : Nat} {q : List Seg}, dropS l n = some q → n ≤ sizeS l := by
        intro l
        induction l with
        | nil => intro n q hq; cases n with
          | zero => exact Nat.zero_le _
          | succ n => simp [dropS] at hq
        | cons s r ih => intro n q hq; cases n with
          | zero => exact Nat.zero_le _
          | succ n =>
            simp only [dropS] at hq
            cases h1 : Nat.ble s.size (n + 1) with
            | false => rw [h1] at hq; simp at hq
            | true =>
              rw [h1] at hq
              simp only [cond_true] at hq
              cases h2 : Nat.beq s.size 0 with
              | true => rw [h2] at hq; simp at hq
              | false =>
                rw [h2] at hq
                have := ih hq
                have hle : s.size ≤ n + 1 := Nat.le_of_ble_eq_true h1
                simp [sizeS]; omega
      have := this hq; omega
    · omega
  | [], o + 1, n, sub, l', h => by simp [putSegs] at h
  | s :: r, o + 1, n, sub, l', h => by
    simp only [putSegs] at h
    cases h1 : Nat.ble s.size (o + 1) with
    | false => rw [h1] at h; simp at h
    | true =>
      rw [h1] at h
      simp only [cond_true] at h
      cases h2 : Nat.beq s.size 0 with
      | true => rw [h2] at h; simp at h
      | false =>
        rw [h2] at h
        simp only [cond_false, Option.map_eq_some_iff] at h
        obtain ⟨q, hq, rfl⟩ := h
        have := putSegs_size hq
        have hle : s.size ≤ o + 1 := Nat.le_of_ble_eq_true h1
        simp [sizeS]; omega
theorem PutS.segs {l sub l' : List Seg} {o n : Nat} (h0 : 0 < n) (h : putSegs l o n sub = some l') (hs : sizeS sub = n) : PutS l o n sub l' := ⟨⟨h0, putSegs_size h⟩, putSegs_put h hs⟩

theorem atS_ints1 {k : IntKind} {n i : Nat} {l : List Int} {x : SV} (h : atS [.ints k n l] i = some x) : i < n ∧ x = .int k (l.getD i 0) := by
  have hs : (Seg.ints k n l).size = n := rfl
  simp only [atS] at h
  rw [hs] at h
  by_cases hi : i < n
  · rw [if_pos hi] at h; exact ⟨hi, (Option.some.inj h).symm⟩
  · rw [if_neg hi] at h; cases h
theorem atS_one1 {i : Nat} {v x : SV} (h : atS [.one v] i = some x) : i = 0 ∧ x = v := by
  have hs : (Seg.one v).size = 1 := rfl
  simp only [atS] at h
  rw [hs] at h
  by_cases hi : i < 1
  · rw [if_pos hi] at h; exact ⟨by omega, (Option.some.inj h).symm⟩
  · rw [if_neg hi] at h; cases h

def SV.lit : SV → Option Value
  | .int k n => some (.int k n)
  | .bool b => some (.bool b)
  | .nilp => some (.pointer none)
  | .nils => some (.slice none 0 0)
  | .val u => some u
  | _ => none
def segsOf : List Value → List Seg
  | [] => []
  | v :: r => .one (evc v) :: segsOf r
def cellOk : SV → Value → Bool
  | .int k n, .int k' n' => k == k' && n == n'
  | .bool b, .bool c => b == c
  | .nilp, .pointer none => true
  | .nils, .slice none 0 0 => true
  | .fzi _ [], .slice none 0 0 => true
  | .fz 0 _ _, .slice none 0 0 => true
  | .val (.string a), .string b => decide (a.data = b.data)
  | .val .nilFunc, .nilFunc => true
  | .val .nilIface, .nilIface => true
  | .val (.map none), .map none => true
  | _, _ => false

theorem cellOk_rep {x : SV} {v : Value} (h : cellOk x v = true) (ρ : Rho) : x.rep ρ v ∧ v.oneCell' = true := by
  unfold cellOk at h
  split at h <;> first
    | (simp_all [SV.rep, Value.oneCell']; done)
    | (have h := of_decide_eq_true h; exact ⟨⟨by rw [ByteArray.ext h], rfl⟩, rfl⟩)
    | exact ⟨.inl ⟨rfl, _, _, rfl⟩, rfl⟩

def flatS : List Seg → List SV
  | [] => []
  | .one v :: r => v :: flatS r
  | .ints k _ l :: r => l.map (.int k) ++ flatS r
  | .rows n w g :: r => (List.range (n * w)).map (fun i => .noid (g (i / w) (i % w))) ++ flatS r
def lensOk : List Seg → Bool
  | [] => true
  | .ints _ n l :: r => Nat.beq l.length n && lensOk r
  | _ :: r => lensOk r
def all2 : List SV → List Value → Bool
  | [], [] => true
  | x :: r, v :: s => cellOk x v && all2 r s
  | _, _ => false
def rowOk (segs : List Seg) (cs : Array Value) : Bool := lensOk segs && all2 (flatS segs) cs.toList

theorem atS_flat : ∀ {segs : List Seg}, lensOk segs = true → (flatS segs).length = sizeS segs ∧ ∀ i, atS segs i = (flatS segs)[i]?
  | [], _ => ⟨rfl, fun i => by simp [atS, flatS]⟩
  | .one v :: r, h => by
    obtain ⟨h1, h2⟩ := atS_flat (segs := r) (by simpa [lensOk] using h)
    refine ⟨by simp [flatS, sizeS, Seg.size, h1]; omega, fun i => ?_⟩
    cases i with
    | zero => simp [atS, Seg.size, flatS, Seg.at]
    | succ i => simp [atS, Seg.size, flatS, h2]
  | .ints k n l :: r, h => by
    simp only [lensOk, Bool.and_eq_true] at h
    have hl : l.length = n := Nat.eq_of_beq_eq_true h.1
    obtain ⟨h1, h2⟩ := atS_flat (segs := r) h.2
    have hs : (Seg.ints k n l).size = n := rfl
    refine ⟨by simp [flatS, sizeS, hs, h1, hl], fun i => ?_⟩
    simp only [atS, flatS, hs, h2]
    by_cases hi : i < n
    · rw [if_pos hi, List.getElem?_append_left (by simp [hl, hi])]
      simp [Seg.at, show i < l.length by omega]
    · rw [if_neg hi, List.getElem?_append_right (by simp [hl]; omega)]
      simp [hl]
  | .rows n w g :: r, h => by
    obtain ⟨h1, h2⟩ := atS_flat (segs := r) (by simpa [lensOk] using h)
    have hs : (Seg.rows n w g).size = n * w := rfl
    refine ⟨by simp [flatS, sizeS, hs, h1], fun i => ?_⟩
    simp only [atS, flatS, hs, h2]
    by_cases hi : i < n * w
    · rw [if_pos hi, List.getElem?_append_left (by simp [hi])]
      simp [Seg.at, hi]
    · rw [if_neg hi, List.getElem?_append_right (by simp; omega)]
      simp

theorem all2_get : ∀ {l : List SV} {vs : List Value}, all2 l vs = true → l.length = vs.length ∧ ∀ (i : Nat) (x : SV), l[i]? = some x → ∃ v, vs[i]? = some v ∧ cellOk x v = true
  | [], [], _ => ⟨rfl, fun i x h => by simp at h⟩
  | [], _ :: _, h => by simp [all2] at h
  | _ :: _, [], h => by simp [all2] at h
  | y :: r, v :: s, h => by
    simp only [all2, Bool.and_eq_true] at h
    obtain ⟨h1, h2⟩ := all2_get h.2
    refine ⟨by simp [h1], fun i x hx => ?_⟩
    cases i with
    | zero => simp at hx; subst hx; exact ⟨v, rfl, h.1⟩
    | succ i => simp at hx; obtain ⟨u, hu, hc⟩ := h2 i x hx; exact ⟨u, by simpa using hu, hc⟩

theorem rowOk_rep {segs : List Seg} {cs : Array Value} (h : rowOk segs cs = true) : cs.size = sizeS segs ∧ ∀ ρ, RowRep ρ segs (fun i => cs[i]?) := by
  simp only [rowOk, Bool.and_eq_true] at h
  obtain ⟨h1, h2⟩ := atS_flat h.1
  obtain ⟨h3, h4⟩ := all2_get h.2
  refine ⟨by rw [← h1, h3]; simp, fun ρ i x hx => ?_⟩
  rw [h2] at hx
  obtain ⟨v, hv, hc⟩ := h4 i x hx
  exact ⟨v, by simpa using hv, cellOk_rep hc ρ⟩

theorem cells_one {v : Value} (h : v.oneCell' = true) : v.cells = #[v] := by cases v <;> simp_all [Value.cells, Value.oneCell']
theorem addr_add (b o n : Nat) : (⟨b, o, none⟩ : Addr).add n = ⟨b, o + n, none⟩ := by unfold Addr.add; split <;> simp_all
end Go.Bx
end

section
/- Rules for single operations, told with what they look at and what they turn. No program. -/
namespace Go.Bx

def xorK (k : IntKind) (m n : Int) : Int := k.wrap (BitVec.ofInt k.bits m ^^^ BitVec.ofInt k.bits n).toNat
def andK (k : IntKind) (m n : Int) : Int := k.wrap (BitVec.ofInt k.bits m &&& BitVec.ofInt k.bits n).toNat
def orK (k : IntKind) (m n : Int) : Int := k.wrap (BitVec.ofInt k.bits m ||| BitVec.ofInt k.bits n).toNat
def andNotK (k : IntKind) (m n : Int) : Int := k.wrap (BitVec.ofInt k.bits m &&& ~~~ BitVec.ofInt k.bits n).toNat
def shlK (k : IntKind) (m n : Int) : Int := k.wrap (m * 2 ^ min n.toNat k.bits)
def shrK (k : IntKind) (m n : Int) : Int := m.fdiv (2 ^ min n.toNat k.bits)

theorem eqGuard_int {P : Program} (op : BinOp) (t : TypeId) (x y : Operand) (k k' : IntKind) (a b : Int) (w : World) : (eqGuard op t x y (.int k a) (.int k' b)).run P w = .ok () w := by
  unfold eqGuard
  cases op <;> simp <;> rfl

section nums
variable {P : Program}
theorem b_add {k : IntKind} {tx : TypeId} {m n r : Int} (hr : k.wrap (m + n) = r) (w : World) : ∃ v, (binOp .add tx (.int k m) (.int k n)).run P w = .ok v w ∧ ∀ ρ, (SV.int k r).rep ρ v :=
  ⟨.int k r, by simp [binOp, Op.intArith, hr], fun _ => rfl⟩
theorem b_sub {k : IntKind} {tx : TypeId} {m n r : Int} (hr : k.wrap (m - n) = r) (w : World) : ∃ v, (binOp .sub tx (.int k m) (.int k n)).run P w = .ok v w ∧ ∀ ρ, (SV.int k r).rep ρ v :=
  ⟨.int k r, by simp [binOp, Op.intArith, hr], fun _ => rfl⟩
theorem b_mul {k : IntKind} {tx : TypeId} {m n r : Int} (hr : k.wrap (m * n) = r) (w : World) : ∃ v, (binOp .mul tx (.int k m) (.int k n)).run P w = .ok v w ∧ ∀ ρ, (SV.int k r).rep ρ v :=
  ⟨.int k r, by simp [binOp, Op.intArith, hr], fun _ => rfl⟩
theorem b_quo {k : IntKind} {tx : TypeId} {m n r : Int} (h0 : n ≠ 0) (hr : k.wrap (m.tdiv n) = r) (w : World) : ∃ v, (binOp .quo tx (.int k m) (.int k n)).run P w = .ok v w ∧ ∀ ρ, (SV.int k r).rep ρ v :=
  ⟨.int k r, by simp [binOp, Op.intDiv, hr, h0], fun _ => rfl⟩
theorem b_rem {k : IntKind} {tx : TypeId} {m n r : Int} (h0 : n ≠ 0) (hr : m.tmod n = r) (w : World) : ∃ v, (binOp .rem tx (.int k m) (.int k n)).run P w = .ok v w ∧ ∀ ρ, (SV.int k r).rep ρ v :=
  ⟨.int k r, by simp [binOp, Op.intDiv, hr, h0], fun _ => rfl⟩
theorem b_xor {k : IntKind} {tx : TypeId} {m n r : Int} (hr : xorK k m n = r) (w : World) : ∃ v, (binOp .xor tx (.int k m) (.int k n)).run P w = .ok v w ∧ ∀ ρ, (SV.int k r).rep ρ v :=
  ⟨.int k r, by simp [binOp, Op.intBits, ← hr, xorK], fun _ => rfl⟩
theorem b_and {k : IntKind} {tx : TypeId} {m n r : Int} (hr : andK k m n = r) (w : World) : ∃ v, (binOp .and tx (.int k m) (.int k n)).run P w = .ok v w ∧ ∀ ρ, (SV.int k r).rep ρ v :=
  ⟨.int k r, by simp [binOp, Op.intBits, ← hr, andK], fun _ => rfl⟩
theorem b_or {k : IntKind} {tx : TypeId} {m n r : Int} (hr : orK k m n = r) (w : World) : ∃ v, (binOp .or tx (.int k m) (.int k n)).run P w = .ok v w ∧ ∀ ρ, (SV.int k r).rep ρ v :=
  ⟨.int k r, by simp [binOp, Op.intBits, ← hr, orK], fun _ => rfl⟩
theorem b_shl {k k' : IntKind} {tx : TypeId} {m n r : Int} (h0 : 0 ≤ n) (hr : shlK k m n = r) (w : World) : ∃ v, (binOp .shl tx (.int k m) (.int k' n)).run P w = .ok v w ∧ ∀ ρ, (SV.int k r).rep ρ v :=
  ⟨.int k r, by simp [binOp, Op.shift, ← hr, shlK, Int.not_lt.2 h0], fun _ => rfl⟩
theorem b_shr {k k' : IntKind} {tx : TypeId} {m n r : Int} (h0 : 0 ≤ n) (hr : shrK k m n = r) (w : World) : ∃ v, (binOp .shr tx (.int k m) (.int k' n)).run P w = .ok v w ∧ ∀ ρ, (SV.int k r).rep ρ v :=
  ⟨.int k r, by simp [binOp, Op.shift, ← hr, shrK, Int.not_lt.2 h0], fun _ => rfl⟩
theorem b_lss {k : IntKind} {tx : TypeId} {m n : Int} {r : Bool} (hr : decide (m < n) = r) (w : World) : ∃ v, (binOp .lss tx (.int k m) (.int k n)).run P w = .ok v w ∧ ∀ ρ, (SV.bool r).rep ρ v :=
  ⟨.bool r, by simp [binOp, Op.intCmp, ← hr], fun _ => rfl⟩
theorem b_leq {k : IntKind} {tx : TypeId} {m n : Int} {r : Bool} (hr : decide (m ≤ n) = r) (w : World) : ∃ v, (binOp .leq tx (.int k m) (.int k n)).run P w = .ok v w ∧ ∀ ρ, (SV.bool r).rep ρ v :=
  ⟨.bool r, by simp [binOp, Op.intCmp, ← hr], fun _ => rfl⟩
theorem b_gtr {k : IntKind} {tx : TypeId} {m n : Int} {r : Bool} (hr : decide (n < m) = r) (w : World) : ∃ v, (binOp .gtr tx (.int k m) (.int k n)).run P w = .ok v w ∧ ∀ ρ, (SV.bool r).rep ρ v :=
  ⟨.bool r, by simp [binOp, Op.intCmp, ← hr], fun _ => rfl⟩
theorem b_geq {k : IntKind} {tx : TypeId} {m n : Int} {r : Bool} (hr : decide (n ≤ m) = r) (w : World) : ∃ v, (binOp .geq tx (.int k m) (.int k n)).run P w = .ok v w ∧ ∀ ρ, (SV.bool r).rep ρ v :=
  ⟨.bool r, by simp [binOp, Op.intCmp, ← hr], fun _ => rfl⟩
theorem b_eql {k : IntKind} {tx : TypeId} {m n : Int} {r : Bool} (hr : decide (m = n) = r) (w : World) : ∃ v, (binOp .eql tx (.int k m) (.int k n)).run P w = .ok v w ∧ ∀ ρ, (SV.bool r).rep ρ v :=
  ⟨.bool r, by simp [binOp, Op.intCmp, ← hr]; rfl, fun _ => rfl⟩
theorem b_neq {k : IntKind} {tx : TypeId} {m n : Int} {r : Bool} (hr : decide (m ≠ n) = r) (w : World) : ∃ v, (binOp .neq tx (.int k m) (.int k n)).run P w = .ok v w ∧ ∀ ρ, (SV.bool r).rep ρ v :=
  ⟨.bool r, by simp [binOp, Op.intCmp, ← hr, bne]; rfl, fun _ => rfl⟩
end nums

theorem run_equalIn_bool {P : Program} (w : World) (n : Nat) {t : TypeId} (p q : Bool) (hu : P.underlying t = some .bool) : (Op.equalIn (n + 1) t (.bool p) (.bool q)).run P w = .ok (p == q) w := by
  simp [Op.equalIn, run_underlying hu]
theorem run_equalIn_ptr_nil {P : Program} (w : World) (n : Nat) {t e : TypeId} (p : Option Addr) (hu : P.underlying t = some (.pointer e)) : (Op.equalIn (n + 1) t (.pointer p) (.pointer none)).run P w = .ok p.isNone w := by
  cases p <;> simp [Op.equalIn, run_underlying hu]

section rules
variable {P : Program} {T : Tm} {H : Heap} {d : Option Tmp} {ty : TypeId} {pos : String} {af : Array Edge} {g : Option (Nat × Bool)}

theorem l_move {x : Operand} {v : AV} (hx : ev T x = v) : LOk P ⟨d, .move x, ty, pos, af, g⟩ T H H v [] [] :=
  lok_pure fun ρ a w ho => ⟨a.eval x, rfl, by have := ho x (by simp [Op.operands]); rwa [hx] at this⟩
theorem l_assign {x : Operand} {v : AV} (hx : ev T x = v) : LOk P ⟨d, .assign x, ty, pos, af, g⟩ T H H v [] [] :=
  lok_pure fun ρ a w ho => ⟨a.eval x, rfl, by have := ho x (by simp [Op.operands]); rwa [hx] at this⟩
theorem l_bin {op : BinOp} {tx tyy : TypeId} {x y : Operand} {k k' : IntKind} {m n : Int} {r : SV} (hx : ev T x = .s (.int k m)) (hy : ev T y = .s (.int k' n))
    (hr : ∀ w, ∃ v, (binOp op tx (.int k m) (.int k' n)).run P w = .ok v w ∧ ∀ ρ, r.rep ρ v) :
    LOk P ⟨d, .binOp op tx x y tyy, ty, pos, af, g⟩ T H H (.s r) [] [] :=
  lok_pure fun ρ a w ho => by
    obtain ⟨h1, h2⟩ := two (op := .binOp op tx x y tyy) rfl ho hx hy
    simp only [AV.rep, AV.rep0, SV.rep] at h1 h2
    obtain ⟨v, hv, hrep⟩ := hr w
    refine ⟨v, ?_, hrep ρ⟩
    simp [execOp, h1, h2, Sem.run_bind, eqGuard_int, hv]
theorem l_eqlb {t tyy : TypeId} {x y : Operand} {p q : Bool} (hx : ev T x = .s (.bool p)) (hy : ev T y = .s (.bool q)) (hu : P.underlying t = some .bool) : LOk P ⟨d, .binOp .eql t x y tyy, ty, pos, af, g⟩ T H H (.s (.bool (p == q))) [] [] :=
  lok_pure fun ρ a w ho => by
    obtain ⟨h1, h2⟩ := two (op := .binOp .eql t x y tyy) rfl ho hx hy
    simp only [AV.rep, AV.rep0, SV.rep] at h1 h2
    exact ⟨.bool (p == q), by simp [execOp, h1, h2, Sem.run_bind, eqGuard, binOp, Op.equal, Op.maxDepth, run_equalIn_bool w 9999 _ _ hu], rfl⟩
theorem l_neqb {t tyy : TypeId} {x y : Operand} {p q : Bool} (hx : ev T x = .s (.bool p)) (hy : ev T y = .s (.bool q)) (hu : P.underlying t = some .bool) : LOk P ⟨d, .binOp .neq t x y tyy, ty, pos, af, g⟩ T H H (.s (.bool (p != q))) [] [] :=
  lok_pure fun ρ a w ho => by
    obtain ⟨h1, h2⟩ := two (op := .binOp .neq t x y tyy) rfl ho hx hy
    simp only [AV.rep, AV.rep0, SV.rep] at h1 h2
    exact ⟨.bool (p != q), by simp [execOp, h1, h2, Sem.run_bind, eqGuard, binOp, Op.equal, Op.maxDepth, run_equalIn_bool w 9999 _ _ hu, bne], rfl⟩
def SV.isPtr : SV → Option Bool
  | .ptr .. => some true
  | .fptr .. => some true
  | .nilp => some false
  | _ => none
theorem isPtr_val {ρ : Rho} {x : SV} {b : Bool} {v : Value} (h : x.isPtr = some b) (hr : x.rep ρ v) : ∃ p : Option Addr, v = .pointer p ∧ p.isNone = !b := by
  cases x <;> simp only [SV.isPtr, Option.some.injEq, reduceCtorEq] at h <;> subst h
  · obtain ⟨b, o, _, rfl⟩ := hr; exact ⟨_, rfl, rfl⟩
  · exact ⟨none, hr, rfl⟩
  · obtain ⟨b, o, cs, rfl, _⟩ := hr; exact ⟨_, rfl, rfl⟩
theorem l_eqn {t e tyy : TypeId} {x y : Operand} {u : SV} {b : Bool} (hx : ev T x = .s u) (hu1 : u.isPtr = some b) (hy : ev T y = .s .nilp) (hu : P.underlying t = some (.pointer e)) : LOk P ⟨d, .binOp .eql t x y tyy, ty, pos, af, g⟩ T H H (.s (.bool (!b))) [] [] :=
  lok_pure fun ρ a w ho => by
    obtain ⟨h1, h2⟩ := two (op := .binOp .eql t x y tyy) rfl ho hx hy
    obtain ⟨p, h1, hp⟩ := isPtr_val hu1 h1
    simp only [AV.rep, AV.rep0, SV.rep] at h2
    exact ⟨.bool (!b), by simp [execOp, h1, h2, Sem.run_bind, eqGuard, binOp, Op.equal, Op.maxDepth, run_equalIn_ptr_nil w 9999 _ hu, hp], rfl⟩
theorem l_nen {t e tyy : TypeId} {x y : Operand} {u : SV} {b : Bool} (hx : ev T x = .s u) (hu1 : u.isPtr = some b) (hy : ev T y = .s .nilp) (hu : P.underlying t = some (.pointer e)) : LOk P ⟨d, .binOp .neq t x y tyy, ty, pos, af, g⟩ T H H (.s (.bool b)) [] [] :=
  lok_pure fun ρ a w ho => by
    obtain ⟨h1, h2⟩ := two (op := .binOp .neq t x y tyy) rfl ho hx hy
    obtain ⟨p, h1, hp⟩ := isPtr_val hu1 h1
    simp only [AV.rep, AV.rep0, SV.rep] at h2
    exact ⟨.bool b, by simp [execOp, h1, h2, Sem.run_bind, eqGuard, binOp, Op.equal, Op.maxDepth, run_equalIn_ptr_nil w 9999 _ hu, hp], rfl⟩
theorem l_not {tx : TypeId} {x : Operand} {b : Bool} (hx : ev T x = .s (.bool b)) : LOk P ⟨d, .unOp .not tx x, ty, pos, af, g⟩ T H H (.s (.bool (!b))) [] [] :=
  lok_pure fun ρ a w ho => by
    have h1 := one (op := .unOp .not tx x) rfl ho hx
    simp only [AV.rep, AV.rep0, SV.rep] at h1
    exact ⟨.bool (!b), by simp [execOp, h1, Op.unary], rfl⟩
theorem l_neg {tx : TypeId} {x : Operand} {k : IntKind} {m r : Int} (hx : ev T x = .s (.int k m)) (hr : k.wrap (0 - m) = r) : LOk P ⟨d, .unOp .neg tx x, ty, pos, af, g⟩ T H H (.s (.int k r)) [] [] :=
  lok_pure fun ρ a w ho => by
    have h1 := one (op := .unOp .neg tx x) rfl ho hx
    simp only [AV.rep, AV.rep0, SV.rep] at h1
    exact ⟨.int k r, by simp [execOp, h1, Op.unary, Op.intArith, ← hr], rfl⟩
theorem l_com {tx : TypeId} {x : Operand} {k : IntKind} {m r : Int} (hx : ev T x = .s (.int k m)) (hr : xorK k (if k.signed then -1 else k.max) m = r) : LOk P ⟨d, .unOp .xor tx x, ty, pos, af, g⟩ T H H (.s (.int k r)) [] [] :=
  lok_pure fun ρ a w ho => by
    have h1 := one (op := .unOp .xor tx x) rfl ho hx
    simp only [AV.rep, AV.rep0, SV.rep] at h1
    exact ⟨.int k r, by simp [execOp, h1, Op.unary, Op.intBits, ← hr, xorK], rfl⟩
theorem l_conv {src dst : TypeId} {x : Operand} {k k' : IntKind} {m r : Int} {ds : TypeDesc} (hx : ev T x = .s (.int k m)) (hs : P.underlying src = some ds) (hd : P.underlying dst = some (.int k')) (hr : k'.wrap m = r) :
    LOk P ⟨d, .convert src dst x, ty, pos, af, g⟩ T H H (.s (.int k' r)) [] [] :=
  lok_pure fun ρ a w ho => by
    have h1 := one (op := .convert src dst x) rfl ho hx
    simp only [AV.rep, AV.rep0, SV.rep] at h1
    exact ⟨.int k' r, by simp [execOp, h1, convert, Sem.run_bind, run_underlying hs, run_underlying hd, Conv.intToInt, hr], rfl⟩
theorem l_pick_t {c x y : Operand} {B : Bool} {v : AV} (hc : ev T c = .s (.bool B)) (hB : B = true) (hx : ev T x = v) : LOk P ⟨d, .pick c x y, ty, pos, af, g⟩ T H H v [] [] :=
  lok_pure fun ρ a w ho => by
    have h1 : (ev T c).rep ρ (a.eval c) := ho c (by simp [Op.operands])
    have h2 : (ev T x).rep ρ (a.eval x) := ho x (by simp [Op.operands])
    rw [hc] at h1
    simp only [AV.rep, AV.rep0, SV.rep] at h1
    subst hB
    exact ⟨a.eval x, by simp [execOp, h1, asBool], hx ▸ h2⟩
theorem l_pick_f {c x y : Operand} {B : Bool} {v : AV} (hc : ev T c = .s (.bool B)) (hB : B = false) (hy : ev T y = v) : LOk P ⟨d, .pick c x y, ty, pos, af, g⟩ T H H v [] [] :=
  lok_pure fun ρ a w ho => by
    have h1 : (ev T c).rep ρ (a.eval c) := ho c (by simp [Op.operands])
    have h2 : (ev T y).rep ρ (a.eval y) := ho y (by simp [Op.operands])
    rw [hc] at h1
    simp only [AV.rep, AV.rep0, SV.rep] at h1
    subst hB
    exact ⟨a.eval y, by simp [execOp, h1, asBool], hy ▸ h2⟩
theorem l_pick_and {c x y : Operand} {B C : Bool} (hc : ev T c = .s (.bool B)) (hx : ev T x = bif B then .s (.bool C) else .s .junk) (hy : ev T y = .s (.bool false)) : LOk P ⟨d, .pick c x y, ty, pos, af, g⟩ T H H (.s (.bool (B && C))) [] [] := by
  cases B
  · exact l_pick_f hc rfl (by simpa using hy)
  · exact l_pick_t hc rfl (by simpa using hx)
theorem l_pick_or {c x y : Operand} {B C : Bool} (hc : ev T c = .s (.bool B)) (hx : ev T x = .s (.bool true)) (hy : ev T y = bif B then .s .junk else .s (.bool C)) : LOk P ⟨d, .pick c x y, ty, pos, af, g⟩ T H H (.s (.bool (B || C))) [] [] := by
  cases B
  · exact l_pick_f hc rfl (by simpa using hy)
  · exact l_pick_t hc rfl (by simpa using hx)
theorem l_extract {x : Operand} {l : List AV} {i : Nat} {v : AV} (hx : ev T x = .tup l) (hv : l[i]? = some v) (hnt : ∀ q, v ≠ .tup q) : LOk P ⟨d, .extract x i, ty, pos, af, g⟩ T H H v [] [] :=
  lok_pure fun ρ a w ho => by
    have h1 := one (op := .extract x i) rfl ho hx
    obtain ⟨vs, e1, e2⟩ := h1
    obtain ⟨u, hu, hr⟩ := e2 i v hv
    refine ⟨u, by simp [execOp, e1, Instr.extract, hu], ?_⟩
    cases v with
    | s v => exact hr
    | agg l => exact hr
    | tup q => exact absurd rfl (hnt q)
theorem l_nilCheck {x : Operand} {u : SV} (hx : ev T x = .s u) (hu : u.isPtr = some true) : LOk P ⟨d, .nilCheck x, ty, pos, af, g⟩ T H H (.s u) [] [] :=
  lok_pure fun ρ a w ho => by
    have ha := one (op := .nilCheck x) rfl ho hx
    obtain ⟨p, h1, hp⟩ := isPtr_val hu ha
    refine ⟨_, ?_, ha⟩
    cases p with
    | none => cases hp
    | some q => simp [execOp, h1]
theorem l_min {x y : Operand} {ts : Array TypeId} {rt : TypeId} {k : IntKind} {m n r : Int} (hx : ev T x = .s (.int k m)) (hy : ev T y = .s (.int k n)) (hr : (if n < m then n else m) = r) :
    LOk P ⟨d, .call ⟨.builtin .min, #[x, y], ts⟩, rt, pos, af, g⟩ T H H (.s (.int k r)) [] [] :=
  lok_pure fun ρ a w ho => by
    have h1 : (ev T x).rep ρ (a.eval x) := ho x (by simp [Op.operands, Call.operands])
    have h2 : (ev T y).rep ρ (a.eval y) := ho y (by simp [Op.operands, Call.operands])
    rw [hx] at h1; rw [hy] at h2
    simp only [AV.rep, AV.rep0, SV.rep] at h1 h2
    exact ⟨.int k r, by simp [execOp, resolve, invoke, builtin, Builtin.min_, h1, h2, List.foldlM, Builtin.min2, hr], rfl⟩
theorem l_max {x y : Operand} {ts : Array TypeId} {rt : TypeId} {k : IntKind} {m n r : Int} (hx : ev T x = .s (.int k m)) (hy : ev T y = .s (.int k n)) (hr : (if n > m then n else m) = r) :
    LOk P ⟨d, .call ⟨.builtin .max, #[x, y], ts⟩, rt, pos, af, g⟩ T H H (.s (.int k r)) [] [] :=
  lok_pure fun ρ a w ho => by
    have h1 : (ev T x).rep ρ (a.eval x) := ho x (by simp [Op.operands, Call.operands])
    have h2 : (ev T y).rep ρ (a.eval y) := ho y (by simp [Op.operands, Call.operands])
    rw [hx] at h1; rw [hy] at h2
    simp only [AV.rep, AV.rep0, SV.rep] at h1 h2
    exact ⟨.int k r, by simp [execOp, resolve, invoke, builtin, Builtin.max_, h1, h2, List.foldlM, Builtin.max2, hr], rfl⟩

def SV.len : SV → Option Nat
  | .slice _ _ _ n _ => some n
  | .slx _ _ _ n _ => some n
  | .gro _ _ n => some n
  | .nils => some 0
  | .fzi _ l => some l.length
  | .fz n _ _ => some n
  | _ => none
theorem len_val {ρ : Rho} {x : SV} {n : Nat} {v : Value} (h : x.len = some n) (hr : x.rep ρ v) : ∃ a c, v = .slice a n c := by
  cases x <;> simp only [SV.len, Option.some.injEq, reduceCtorEq] at h <;> subst h
  · obtain ⟨b, o, _, rfl⟩ := hr; exact ⟨_, _, rfl⟩
  · obtain ⟨b, o, c, _, rfl, _⟩ := hr; exact ⟨_, _, rfl⟩
  · rcases hr with ⟨rfl, rfl⟩ | ⟨b, o, c, n, _, rfl, _⟩ <;> exact ⟨_, _, rfl⟩
  · exact ⟨none, 0, hr⟩
  · rcases hr with ⟨e, a, c, rfl⟩ | ⟨b, o, c, cs, rfl, _⟩
    · subst e; exact ⟨_, _, rfl⟩
    · exact ⟨_, _, rfl⟩
  · rcases hr with ⟨e, a, c, rfl⟩ | ⟨b, o, c, cs, rfl, _⟩
    · subst e; exact ⟨_, _, rfl⟩
    · exact ⟨_, _, rfl⟩
theorem l_len {x : Operand} {u : SV} {n : Nat} {t e rt : TypeId} (hx : ev T x = .s u) (hn : u.len = some n) (hu : P.underlying t = some (.slice e)) : LOk P ⟨d, .call ⟨.builtin .len, #[x], #[t]⟩, rt, pos, af, g⟩ T H H (.s (.int .i64 (n : Int))) [] [] :=
  lok_pure fun ρ a w ho => by
    have h1 : (ev T x).rep ρ (a.eval x) := ho x (by simp [Op.operands, Call.operands])
    rw [hx] at h1
    obtain ⟨ad, c, h1⟩ := len_val hn h1
    exact ⟨.int .i64 n, by simp [execOp, resolve, invoke, builtin, Builtin.len_, run_underlying hu, h1, goInt], rfl⟩
theorem l_cap {x : Operand} {id base idx len cap : Nat} {t e rt : TypeId} (hx : ev T x = .s (.slice id base idx len cap)) (hu : P.underlying t = some (.slice e)) : LOk P ⟨d, .call ⟨.builtin .cap, #[x], #[t]⟩, rt, pos, af, g⟩ T H H (.s (.int .i64 (cap : Int))) [] [] :=
  lok_pure fun ρ a w ho => by
    have h1 : (ev T x).rep ρ (a.eval x) := ho x (by simp [Op.operands, Call.operands])
    rw [hx] at h1
    obtain ⟨b, o, _, h1⟩ := h1
    exact ⟨.int .i64 cap, by simp [execOp, resolve, invoke, builtin, Builtin.cap_, run_underlying hu, h1, goInt], rfl⟩

theorem l_ixp {t e : TypeId} {x i : Operand} {id base idx n sz r : Nat} {k : IntKind} {j : Int} (hx : ev T x = .s (.ptr id base idx)) (hi : ev T i = .s (.int k j))
    (hu : P.underlying t = some (.array n e)) (hs : ∀ w, (sizeOf e).run P w = .ok sz w) (h0 : 0 ≤ j) (h1 : j < n) (hr : idx + j.toNat * sz = r) :
    LOk P ⟨d, .indexAddr t x i, ty, pos, af, g⟩ T H H (.s (.ptr id base r)) [] [] :=
  lok_pure fun ρ a w ho => by
    obtain ⟨ha, hb⟩ := two (op := .indexAddr t x i) rfl ho hx hi
    simp only [AV.rep, AV.rep0, SV.rep] at ha hb
    obtain ⟨b, o, hρ, ha⟩ := ha
    refine ⟨.pointer (some ⟨b, o + base + r, none⟩), ?_, b, o, hρ, rfl⟩
    simp [execOp, ha, hb, Instr.indexAt, asIntOf, Sem.run_bind, run_underlying hu, Instr.sureAddr, h0, h1, hs, addr_add, ← hr, Nat.add_assoc]
theorem l_ixf {t e : TypeId} {x i : Operand} {m base idx n sz r : Nat} {f : Nat → SV} {k : IntKind} {j : Int} (hx : ev T x = .s (.fptr m f base idx)) (hi : ev T i = .s (.int k j))
    (hu : P.underlying t = some (.array n e)) (hs : ∀ w, (sizeOf e).run P w = .ok sz w) (h0 : 0 ≤ j) (h1 : j < n) (hr : idx + j.toNat * sz = r) :
    LOk P ⟨d, .indexAddr t x i, ty, pos, af, g⟩ T H H (.s (.fptr m f base r)) [] [] :=
  lok_pure fun ρ a w ho => by
    obtain ⟨ha, hb⟩ := two (op := .indexAddr t x i) rfl ho hx hi
    simp only [AV.rep, AV.rep0] at ha hb
    obtain ⟨b, o, cs, ha, h3, h4⟩ := ha
    have hb : a.eval i = .int k j := hb
    refine ⟨.pointer (some ⟨b, o + base + r, none⟩), ?_, b, o, cs, rfl, h3, h4⟩
    simp [execOp, ha, hb, Instr.indexAt, asIntOf, Sem.run_bind, run_underlying hu, Instr.sureAddr, h0, h1, hs, addr_add, ← hr, Nat.add_assoc]
theorem l_ixs {t e : TypeId} {x i : Operand} {id base idx len cap sz r : Nat} {k : IntKind} {j : Int} (hx : ev T x = .s (.slice id base idx len cap)) (hi : ev T i = .s (.int k j))
    (hu : P.underlying t = some (.slice e)) (hs : ∀ w, (sizeOf e).run P w = .ok sz w) (h0 : 0 ≤ j) (h1 : j < len) (hr : idx + j.toNat * sz = r) :
    LOk P ⟨d, .indexAddr t x i, ty, pos, af, g⟩ T H H (.s (.ptr id base r)) [] [] :=
  lok_pure fun ρ a w ho => by
    obtain ⟨ha, hb⟩ := two (op := .indexAddr t x i) rfl ho hx hi
    simp only [AV.rep, AV.rep0, SV.rep] at ha hb
    obtain ⟨b, o, hρ, ha⟩ := ha
    refine ⟨.pointer (some ⟨b, o + base + r, none⟩), ?_, b, o, hρ, rfl⟩
    simp [execOp, ha, hb, Instr.indexAt, asIntOf, Sem.run_bind, run_underlying hu, h0, h1, hs, addr_add, ← hr, Nat.add_assoc]
theorem l_ixx {t e : TypeId} {x i : Operand} {id base idx len cap sz r : Nat} {k : IntKind} {j : Int} (hx : ev T x = .s (.slx id base idx len cap)) (hi : ev T i = .s (.int k j))
    (hu : P.underlying t = some (.slice e)) (hs : ∀ w, (sizeOf e).run P w = .ok sz w) (h0 : 0 ≤ j) (h1 : j < len) (hr : idx + j.toNat * sz = r) :
    LOk P ⟨d, .indexAddr t x i, ty, pos, af, g⟩ T H H (.s (.ptr id base r)) [] [] :=
  lok_pure fun ρ a w ho => by
    obtain ⟨ha, hb⟩ := two (op := .indexAddr t x i) rfl ho hx hi
    simp only [AV.rep, AV.rep0, SV.rep] at ha hb
    obtain ⟨b, o, c, hρ, ha, _⟩ := ha
    refine ⟨.pointer (some ⟨b, o + base + r, none⟩), ?_, b, o, hρ, rfl⟩
    simp [execOp, ha, hb, Instr.indexAt, asIntOf, Sem.run_bind, run_underlying hu, h0, h1, hs, addr_add, ← hr, Nat.add_assoc]
theorem l_ixi {t e : TypeId} {x i : Operand} {l : List Int} {k k' : IntKind} {j : Int} (hx : ev T x = .s (.fzi k l)) (hi : ev T i = .s (.int k' j))
    (hu : P.underlying t = some (.slice e)) (hs : ∀ w, (sizeOf e).run P w = .ok 1 w) (h0 : 0 ≤ j) (h1 : j < l.length) :
    LOk P ⟨d, .indexAddr t x i, ty, pos, af, g⟩ T H H (.s (.fptr 1 (fun _ => .int k (l.getD j.toNat 0)) 0 0)) [] [] :=
  lok_pure fun ρ a w ho => by
    obtain ⟨ha, hb⟩ := two (op := .indexAddr t x i) rfl ho hx hi
    have hb : a.eval i = .int k' j := hb
    rcases ha with ⟨e, _⟩ | ⟨b, o, c, cs, ha, h2, h3, h4⟩
    · subst e; simp at h1; omega
    refine ⟨.pointer (some ⟨b, o + j.toNat + 0 + 0, none⟩), ?_, b, o + j.toNat, cs, rfl, h3, fun q hq => ⟨_, ?_, rfl, rfl⟩⟩
    · simp [execOp, ha, hb, Instr.indexAt, asIntOf, Sem.run_bind, run_underlying hu, h0, h1, hs, addr_add]
    · have : q = 0 := by omega
      subst this
      exact h4 j.toNat (by omega)
theorem l_ixz {t e : TypeId} {x i : Operand} {n wd : Nat} {f : Nat → Nat → SV} {k : IntKind} {j : Int} (hx : ev T x = .s (.fz n wd f)) (hi : ev T i = .s (.int k j))
    (hu : P.underlying t = some (.slice e)) (hs : ∀ w, (sizeOf e).run P w = .ok wd w) (h0 : 0 ≤ j) (h1 : j < n) :
    LOk P ⟨d, .indexAddr t x i, ty, pos, af, g⟩ T H H (.s (.fptr wd (f j.toNat) 0 0)) [] [] :=
  lok_pure fun ρ a w ho => by
    obtain ⟨ha, hb⟩ := two (op := .indexAddr t x i) rfl ho hx hi
    have hb : a.eval i = .int k j := hb
    rcases ha with ⟨e, _⟩ | ⟨b, o, c, cs, ha, h2, h3, h4⟩
    · subst e; omega
    refine ⟨.pointer (some ⟨b, o + j.toNat * wd + 0 + 0, none⟩), ?_, b, o + j.toNat * wd, cs, rfl, h3, fun q hq => ?_⟩
    · simp [execOp, ha, hb, Instr.indexAt, asIntOf, Sem.run_bind, run_underlying hu, h0, h1, hs, addr_add]
    · have := h4 j.toNat q (by omega) hq
      rwa [← Nat.add_assoc] at this
theorem l_fld {t : TypeId} {x : Operand} {id base idx f sz : Nat} {fs : Array Field} {fd : Field} (hx : ev T x = .s (.ptr id base idx))
    (hu : P.underlying t = some (.struct fs)) (hf : fs[f]? = some fd) (hs : ∀ w, (sizeOf fd.type).run P w = .ok sz w) (hz : sz ≠ 0) {r r2 : Nat} (hr : (idx = 0 ∧ base + fd.offset = r ∧ 0 = r2) ∨ (base = r ∧ idx + fd.offset = r2)) :
    LOk P ⟨d, .fieldAddr t x f, ty, pos, af, g⟩ T H H (.s (.ptr id r r2)) [] [] :=
  lok_pure fun ρ a w ho => by
    have ha := one (op := .fieldAddr t x f) rfl ho hx
    simp only [AV.rep, AV.rep0, SV.rep] at ha
    obtain ⟨b, o, hρ, ha⟩ := ha
    refine ⟨.pointer (some ⟨b, o + r + r2, none⟩), ?_, b, o, hρ, rfl⟩
    have : o + base + idx + fd.offset = o + r + r2 := by rcases hr with ⟨rfl, rfl, rfl⟩ | ⟨rfl, rfl⟩ <;> omega
    simp [execOp, ha, Instr.fieldAt, Sem.run_bind, run_underlying hu, hf, Instr.sureAddr, fieldPlace, hs, hz, addr_add, this]
theorem l_fldf {t : TypeId} {x : Operand} {m base idx f sz : Nat} {q : Nat → SV} {fs : Array Field} {fd : Field} (hx : ev T x = .s (.fptr m q base idx))
    (hu : P.underlying t = some (.struct fs)) (hf : fs[f]? = some fd) (hs : ∀ w, (sizeOf fd.type).run P w = .ok sz w) (hz : sz ≠ 0) {r r2 : Nat} (hr : (idx = 0 ∧ base + fd.offset = r ∧ 0 = r2) ∨ (base = r ∧ idx + fd.offset = r2)) :
    LOk P ⟨d, .fieldAddr t x f, ty, pos, af, g⟩ T H H (.s (.fptr m q r r2)) [] [] :=
  lok_pure fun ρ a w ho => by
    have ha := one (op := .fieldAddr t x f) rfl ho hx
    obtain ⟨b, o, cs, ha, h3, h4⟩ := ha
    refine ⟨.pointer (some ⟨b, o + r + r2, none⟩), ?_, b, o, cs, rfl, h3, h4⟩
    have : o + base + idx + fd.offset = o + r + r2 := by rcases hr with ⟨rfl, rfl, rfl⟩ | ⟨rfl, rfl⟩ <;> omega
    simp [execOp, ha, Instr.fieldAt, Sem.run_bind, run_underlying hu, hf, Instr.sureAddr, fieldPlace, hs, hz, addr_add, this]

theorem l_alloc {t : TypeId} {z : Value} {segs : List Seg} {n : Nat} (hz : ∀ w, (zeroValue t).run P w = .ok z w) (hk : rowOk segs z.cells = true) (hn : H.length = n) :
    LOk P ⟨d, .alloc t, ty, pos, af, g⟩ T H (H ++ [some (Blk.mk true segs)]) (.s (.ptr n 0 0)) [] [] :=
  lok_new [] (fun _ h => by cases h) fun H0 hl _ => by
    subst hn
    intro W ρ a w hH hf hW ho next Q hq
    have hrun : (execOp a.eval ⟨d, .alloc t, ty, pos, af, g⟩).run P w = .ok (.value (.pointer (some ⟨w.heap.size, 0, none⟩))) (w.alloc (.cells z.cells t)) := by
      simp [execOp, Instr.alloc, Sem.run_bind, hz, newVar, newRow]
    rw [hrun]
    obtain ⟨ρ', h1, h2, _⟩ := nx_alloc (t := t) hH (hf _ (Nat.le_refl _) (by simp)) hW (fun ρ' _ => (rowOk_rep hk).2 ρ')
    exact hq _ _ ⟨ρ', W, h1, w.heap.size, 0, by rw [← hl]; exact h2, rfl⟩
theorem l_box_agg {t : TypeId} {x : Operand} {segs : List Seg} {n : Nat} (hx : ev T x = .agg segs) (hn : H.length = n) :
    LOk P ⟨d, .box t x, ty, pos, af, g⟩ T H (H ++ [some (Blk.mk true segs)]) (.s (.ptr n 0 0)) [] [] :=
  lok_new [] (fun _ h => by cases h) fun H0 hl _ => by
    subst hn
    intro W ρ a w hH hf hW ho next Q hq
    obtain ⟨cs, h1, h2, h3⟩ := one (op := .box t x) rfl ho hx
    have hrun : (execOp a.eval ⟨d, .box t x, ty, pos, af, g⟩).run P w = .ok (.value (.pointer (some ⟨w.heap.size, 0, none⟩))) (w.alloc (.cells cs t)) := by
      simp [execOp, Instr.box, Sem.run_bind, newVar, newRow, h1, Value.cells]
    rw [hrun]
    obtain ⟨ρ', k1, k2, _⟩ := nx_alloc (t := t) hH (hf _ (Nat.le_refl _) (by simp)) hW (fun ρ' hl => h3.le hl)
    exact hq _ _ ⟨ρ', W, k1, w.heap.size, 0, by rw [← hl]; exact k2, rfl⟩
theorem l_box {t : TypeId} {x : Operand} {v : SV} {n : Nat} (hx : ev T x = .s v) (hj : v ≠ .junk) (hn : H.length = n) :
    LOk P ⟨d, .box t x, ty, pos, af, g⟩ T H (H ++ [some (Blk.mk true [.one v])]) (.s (.ptr n 0 0)) [] [] :=
  lok_new [] (fun _ h => by cases h) fun H0 hl _ => by
    subst hn
    intro W ρ a w hH hf hW ho next Q hq
    have h1 : v.rep ρ (a.eval x) := one (op := .box t x) rfl ho hx
    have h2 := SV.oneCell h1 hj
    have hrun : (execOp a.eval ⟨d, .box t x, ty, pos, af, g⟩).run P w = .ok (.value (.pointer (some ⟨w.heap.size, 0, none⟩))) (w.alloc (.cells #[a.eval x] t)) := by
      simp [execOp, Instr.box, Sem.run_bind, newVar, newRow, cells_one h2]
    rw [hrun]
    obtain ⟨ρ', k1, k2, _⟩ := nx_alloc (t := t) (segs := [.one v]) (cells := #[a.eval x]) hH (hf _ (Nat.le_refl _) (by simp)) hW (fun ρ' hl i y hy => by
      obtain ⟨rfl, rfl⟩ := atS_one1 hy
      exact ⟨_, rfl, SV.rep_le hl h1, h2⟩)
    exact hq _ _ ⟨ρ', W, k1, w.heap.size, 0, by rw [← hl]; exact k2, rfl⟩

theorem cell_at {ρ : Rho} {k : Blk} {w : World} {b o i : Nat} {x : SV} (h : BRep ρ k w b o) (hx : atS k.segs i = some x) : ∃ v, w.cell? ⟨b, o + i, none⟩ = some v ∧ x.rep ρ v ∧ v.oneCell' = true := by
  obtain ⟨cells, t, fr, h1, h2, _, h3⟩ := h
  obtain ⟨v, hv, hc⟩ := h3 i x hx
  exact ⟨v, by simp [World.cell?, h1]; exact hv, hc⟩

theorem l_load {t : TypeId} {x : Operand} {id base idx : Nat} {k : Blk} {v : SV} (hx : ev T x = .s (.ptr id base idx)) (hb : hget H id = some k) (hv : atS k.segs (base + idx) = some v)
    (ha : ∀ w, (isAgg t).run P w = .ok false w) : LOk P ⟨d, .load t x, ty, pos, af, g⟩ T H H (.s v) [id] [] :=
  lok_read [id] (fun i hi => by simp at hi; subst hi; exact hget_lt hb) fun H0 hl hag => .pure fun W ρ a w hH ho => by
    have h1 := one (op := .load t x) rfl ho hx
    simp only [AV.rep, AV.rep0, SV.rep] at h1
    obtain ⟨b, o, hρ, h1⟩ := h1
    obtain ⟨u, hu, hr⟩ := cell_at (hH.rep id b o k hρ ((hag id (by simp)).trans hb)).1 hv
    rw [← Nat.add_assoc] at hu
    refine ⟨u, ?_, hr.1⟩
    simp [execOp, h1, Instr.loadAt, Instr.sureAddr, loadVar, Sem.run_bind, ha, hu]
theorem l_load_ints {t : TypeId} {x : Operand} {id base idx n : Nat} {kk : IntKind} {l : List Int} {k : Blk} (hx : ev T x = .s (.ptr id base idx)) (hb : hget H id = some k) (hs : segAt k.segs base = some (.ints kk n l))
    (hi : idx < n) (ha : ∀ w, (isAgg t).run P w = .ok false w) : LOk P ⟨d, .load t x, ty, pos, af, g⟩ T H H (.s (.int kk (l.getD idx 0))) [id] [] :=
  l_load hx hb (by rw [segAt_at hs idx hi]; rfl) ha
theorem l_load_one {t : TypeId} {x : Operand} {id base : Nat} {v : SV} {k : Blk} (hx : ev T x = .s (.ptr id base 0)) (hb : hget H id = some k) (hs : segAt k.segs base = some (.one v))
    (ha : ∀ w, (isAgg t).run P w = .ok false w) : LOk P ⟨d, .load t x, ty, pos, af, g⟩ T H H (.s v) [id] [] :=
  l_load hx hb (by rw [segAt_at hs 0 (by simp [Seg.size])]; rfl) ha
theorem l_shed {o : Oper} {y x : SV} {F : List Nat} (h : LOk P o T H H (.s y) F []) (hs : Sheds y x) : LOk P o T H H (.s x) F [] :=
  ⟨h.len, h.keep, h.sub, h.lt, fun W ρ a w h1 h2 h3 h4 => (h.run W ρ a w h1 h2 h3 h4).mono fun _ _ ⟨ρ', W', k, hv⟩ => ⟨ρ', W', k, hs.rep hv⟩⟩
theorem l_load_row {t : TypeId} {x : Operand} {id base i j n wd : Nat} {f : Nat → Nat → SV} {k : Blk} {idx : Nat} (hx : ev T x = .s (.ptr id base idx)) (hidx : idx = i * wd + j) (hb : hget H id = some k) (hs : segAt k.segs base = some (.rows n wd f))
    (hi : i < n) (hj : j < wd) (ha : ∀ w, (isAgg t).run P w = .ok false w) : LOk P ⟨d, .load t x, ty, pos, af, g⟩ T H H (.s (f i j)) [id] [] := by
  subst hidx
  exact l_shed (l_load hx hb (by rw [segAt_at hs _ (row_lt hi hj)]; simp only [Seg.at, (row_div hj).1, (row_div hj).2]) ha) (.inr rfl)

theorem run_load_sub {P : Program} {ρ : Rho} {cells : Array Value} {w : World} {b o n : Nat} {sub : List Seg} {ty : TypeId} {tt : TypeId} {fr : Nat × Nat} (g1 : w.heap[b]? = some (.cells cells tt fr)) (hn : sizeS sub = n) (hs : RowRep ρ sub (fun i => cells[o + i]?))
    (ha : ∀ w, (isAgg ty).run P w = .ok true w) (hz : ∀ w, (sizeOf ty).run P w = .ok n w) : ∃ v', (loadVar ty ⟨b, o, none⟩).run P w = .ok v' w ∧ (AV.agg sub).rep ρ v' := by
  have hcs : ∃ cs : List Value, cs.length = n ∧ ∀ j, j < n → cs[j]? = cells[o + j]? := by
    refine ⟨(cells.toList.drop o).take n, ?_, fun j hj => ?_⟩
    · rcases Nat.eq_zero_or_pos n with h0 | h0
      · simp [h0]
      · obtain ⟨y, hy⟩ := atS_some (l := sub) (i := n - 1) (by omega)
        obtain ⟨v, hv, _⟩ := hs _ y hy
        have hv : cells[o + (n - 1)]? = some v := hv
        have : o + (n - 1) < cells.size := (Array.getElem?_eq_some_iff.1 hv).1
        simp; omega
    · simp [List.getElem?_take, hj]
  obtain ⟨cs, hl, hc⟩ := hcs
  have hload := run_loadCells_list (P := P) w ⟨b, o, none⟩ cs (fun j v hv => by
    have hj : j < n := by
      rcases Nat.lt_or_ge j n with h | h
      · exact h
      · rw [List.getElem?_eq_none (by omega)] at hv; cases hv
    rw [addr_add]
    have := hc j hj
    simp [World.cell?, g1]
    rw [← this, hv])
  rw [hl] at hload
  refine ⟨.agg cs.toArray, by simp [loadVar, Sem.run_bind, ha, hz, hload], cs.toArray, rfl, by simp [hl, hn], fun i y hy => ?_⟩
  have hi : i < n := by rw [← hn]; exact atS_lt hy
  obtain ⟨v, hv, hr⟩ := hs i y hy
  exact ⟨v, by simp only [List.getElem?_toArray]; rw [hc i hi]; exact hv, hr⟩
theorem sub_row {ρ : Rho} {segs sub : List Seg} {p n : Nat} {get : Nat → Option Value} (hr : RowRep ρ segs get) (h : SubS segs p n sub) : RowRep ρ sub (fun i => get (p + i)) := fun i x hx => by
  have hi : i < n := by rw [← h.1]; exact atS_lt hx
  obtain ⟨y, x', h1, h2, h3⟩ := h.2 i hi
  rw [hx] at h2
  cases h2
  obtain ⟨v, hv, hc⟩ := hr _ y h1
  exact ⟨v, hv, h3.rep hc.1, hc.2⟩

theorem l_load_agg {t : TypeId} {x : Operand} {id base idx n : Nat} {sub : List Seg} {k : Blk} (hx : ev T x = .s (.ptr id base idx)) (hb : hget H id = some k) (hsub : SubS k.segs (base + idx) n sub)
    (ha : ∀ w, (isAgg t).run P w = .ok true w) (hs : ∀ w, (sizeOf t).run P w = .ok n w) : LOk P ⟨d, .load t x, ty, pos, af, g⟩ T H H (.agg sub) [id] [] :=
  lok_read [id] (fun i hi => by simp at hi; subst hi; exact hget_lt hb) fun H0 hl hag => .pure fun W ρ a w hH ho => by
    have h1 := one (op := .load t x) rfl ho hx
    simp only [AV.rep, AV.rep0, SV.rep] at h1
    obtain ⟨b, o, hρ, h1⟩ := h1
    obtain ⟨cells, tt, fr, g1, g2, _, g3⟩ := (hH.rep id b o k hρ ((hag id (by simp)).trans hb)).1
    obtain ⟨v', h2, h3⟩ := run_load_sub (P := P) (o := o + (base + idx)) g1 hsub.1 (by have := sub_row g3 hsub; simpa [Nat.add_assoc] using this) ha hs
    refine ⟨v', ?_, h3⟩
    rw [← Nat.add_assoc] at h2
    simp [execOp, h1, Instr.loadAt, Instr.sureAddr, Sem.run_bind, h2]
theorem l_loadf {t : TypeId} {x : Operand} {m base idx : Nat} {f : Nat → SV} {v : SV} (hx : ev T x = .s (.fptr m f base idx)) (hi : base + idx < m) (hv : f (base + idx) = v)
    (ha : ∀ w, (isAgg t).run P w = .ok false w) : LOk P ⟨d, .load t x, ty, pos, af, g⟩ T H H (.s v) [] [] :=
  lok_read [] (fun _ h => by cases h) fun H0 hl hag => .pure fun W ρ a w hH ho => by
    obtain ⟨b, o, cs, h1, h3, h4⟩ := one (op := .load t x) rfl ho hx
    obtain ⟨u, hu, hr, hc⟩ := h4 _ hi
    obtain ⟨_, tt, fr, g1⟩ := hH.fz b cs h3
    refine ⟨u, ?_, by rw [← hv]; exact SV.rep_le (noM_le ρ) hr⟩
    have : w.cell? ⟨b, o + base + idx, none⟩ = some u := by rw [Nat.add_assoc]; simp [World.cell?, g1]; exact hu
    simp [execOp, h1, Instr.loadAt, Instr.sureAddr, loadVar, Sem.run_bind, ha, this]
theorem l_loadf_agg {t : TypeId} {x : Operand} {m base idx n : Nat} {segs sub : List Seg} (hx : ev T x = .s (.fptr m (cellsF segs) base idx)) (hi : base + idx + n ≤ m) (hsub : SubS segs (base + idx) n sub)
    (ha : ∀ w, (isAgg t).run P w = .ok true w) (hs : ∀ w, (sizeOf t).run P w = .ok n w) : LOk P ⟨d, .load t x, ty, pos, af, g⟩ T H H (.agg sub) [] [] :=
  lok_read [] (fun _ h => by cases h) fun H0 hl hag => .pure fun W ρ a w hH ho => by
    obtain ⟨b, o, cs, h1, h3, h4⟩ := one (op := .load t x) rfl ho hx
    obtain ⟨_, tt, fr, g1⟩ := hH.fz b cs h3
    obtain ⟨v', k2, k3⟩ := run_load_sub (P := P) (ρ := ρ) (o := o + (base + idx)) g1 hsub.1 (fun i y hy => by
      have hin : i < n := by rw [← hsub.1]; exact atS_lt hy
      obtain ⟨z, y', q1, q2, q3⟩ := hsub.2 i hin
      rw [hy] at q2
      cases q2
      obtain ⟨u, hu, hr, hc⟩ := h4 (base + idx + i) (by omega)
      refine ⟨u, by show cs[o + (base + idx) + i]? = some u; rw [Nat.add_assoc o]; exact hu, ?_, hc⟩
      have : cellsF segs (base + idx + i) = z := by simp [cellsF, q1]
      rw [this] at hr
      exact q3.rep (SV.rep_le (noM_le ρ) hr)) ha hs
    refine ⟨v', ?_, k3⟩
    rw [← Nat.add_assoc] at k2
    simp [execOp, h1, Instr.loadAt, Instr.sureAddr, Sem.run_bind, k2]
end rules
end Go.Bx
end

section
/- Stores. No program. -/
namespace Go.Bx

theorem HRep.write {W : Nat → Prop} {ρ : Rho} {H : Heap} {w : World} {id b o n p : Nat} {segs sub segs' : List Seg} {cells : Array Value} {t : TypeId} {cs : List Value} (hH : HRep W ρ (hget H) w) (hρ : ρ.m id = some (b, o)) (hb : hget H id = some ⟨true, segs⟩)
    (hc : w.heap[b]? = some (.cells cells t (0, 0))) (hr : RowRep ρ segs (fun i => cells[o + i]?)) (hp : PutS segs p n sub segs') (hcs : cs.length = n) (hsub : RowRep ρ sub (fun i => cs[i]?)) (hfit : o + p + n ≤ cells.size) :
    HRep W ρ (hget (H.set id (some ⟨true, segs'⟩))) (w.setRow b (cells.toList.take (o + p) ++ cs ++ cells.toList.drop (o + p + cs.length)).toArray) := by
  have hsize : ((cells.toList.take (o + p) ++ cs ++ cells.toList.drop (o + p + cs.length)).toArray).size = cells.size := by simp; omega
  have hlen : id < H.length := hget_lt hb
  have hWb : W b := (hH.rep id b o _ hρ hb).2 rfl
  have hget' : ∀ (j : Nat) (q : Blk), hget (H.set id (some ⟨true, segs'⟩)) j = some q → (j = id ∧ q = ⟨true, segs'⟩) ∨ (j ≠ id ∧ hget H j = some q) := by
    intro j q h
    rw [hget_set hlen] at h
    by_cases hj : j = id
    · rw [if_pos hj] at h; exact .inl ⟨hj, (Option.some.inj h).symm⟩
    · rw [if_neg hj] at h; exact .inr ⟨hj, h⟩
  have hrw : ∀ (j : Nat) (q : Blk), hget (H.set id (some ⟨true, segs'⟩)) j = some q → ∃ q', hget H j = some q' ∧ q'.rw = q.rw := by
    intro j q h
    rcases hget' j q h with ⟨rfl, rfl⟩ | ⟨_, h2⟩
    · exact ⟨_, hb, rfl⟩
    · exact ⟨q, h2, rfl⟩
  refine ⟨fun j b' o' h => by simp; exact hH.lt j b' o' h, fun j b' o' q h1 h2 => ?_, fun j j' b' o1 o2 q q' hne h1 h2 h3 h4 => ?_, fun b' cs' e => ?_, fun b' n' e => ?_⟩
  · rcases hget' j q h2 with ⟨rfl, rfl⟩ | ⟨hne, h3⟩
    · rw [hρ] at h1
      simp at h1
      obtain ⟨rfl, rfl⟩ := h1
      refine ⟨⟨_, t, (0, 0), setRow_heap _ _ _ _ _ _ hc, fun _ => rfl, fun e => (by cases e), fun i x hx => ?_⟩, fun _ => hWb⟩
      have hput := hp.2 i x hx
      simp only [List.getElem?_toArray]
      by_cases hi : p ≤ i ∧ i < p + n
      · rw [if_pos hi] at hput
        obtain ⟨v, hv, hvr⟩ := hsub _ _ hput
        refine ⟨v, ?_, hvr⟩
        rw [List.getElem?_append_left (by simp; omega), List.getElem?_append_right (by simp; omega)]
        simp only [List.length_take, Array.length_toList]
        rw [show o + i - min (o + p) cells.size = i - p by omega]; exact hv
      · rw [if_neg hi] at hput
        obtain ⟨v, hv, hvr⟩ := hr _ _ hput
        refine ⟨v, ?_, hvr⟩
        by_cases hlt : i < p
        · rw [List.getElem?_append_left (by simp; omega), List.getElem?_append_left (by simp; omega)]
          simp only [List.getElem?_take]
          rw [if_pos (by omega)]
          simpa using hv
        · rw [List.getElem?_append_right (by simp; omega)]
          simp only [List.getElem?_drop, List.length_append, List.length_take, Array.length_toList]
          rw [show o + p + cs.length + (o + i - (min (o + p) cells.size + cs.length)) = o + i by omega]
          simpa using hv
    · have := hH.rep j b' o' q h1 h3
      refine ⟨?_, this.2⟩
      have hbb : b' ≠ b := by
        intro e
        subst e
        have := (hH.apart j id b' o' o q ⟨true, segs⟩ hne h1 hρ h3 hb).2
        simp at this
      exact this.1.world (setRow_other _ _ _ _ hbb)
  · obtain ⟨a1, a2, a3⟩ := hrw j q h3
    obtain ⟨c1, c2, c3⟩ := hrw j' q' h4
    have := hH.apart j j' b' o1 o2 a1 c1 hne h1 h2 a2 c2
    rw [← a3, ← c3]; exact this
  · obtain ⟨k1, t', fr, k2⟩ := hH.fz b' cs' e
    refine ⟨k1, t', fr, ?_⟩
    have hne : b' ≠ b := by intro e'; rw [e'] at k1; exact k1 hWb
    rw [setRow_other _ _ _ _ hne]; exact k2
  · obtain ⟨c1, t1, f1, k1, k2⟩ := hH.sz b' n' e
    by_cases hne : b' = b
    · subst hne
      rw [hc] at k1
      cases k1
      exact ⟨_, t, (0, 0), setRow_heap _ _ _ _ _ _ hc, hsize.trans k2⟩
    · exact ⟨c1, t1, f1, by rw [setRow_other _ _ _ _ hne]; exact k1, k2⟩

theorem Fr.setRow {W : Nat → Prop} {w : World} {b : Nat} (cs : Array Value) (h : W b) {c0 : Array Value} {t0 : TypeId} {f0 : Nat × Nat} (hb : w.heap[b]? = some (.cells c0 t0 f0)) (hs : cs.size = c0.size) : Fr W w (w.setRow b cs) :=
  ⟨rfl, rfl, rfl, by simp, fun k _ hn => setRow_other _ _ _ _ (fun e => hn (e ▸ h)), fun k o hk hc => by
    by_cases e : k = b
    · subst e
      obtain ⟨hl, hk'⟩ := Array.getElem?_eq_some_iff.1 hk
      unfold World.setRow
      show (w.heap.modify k _)[k]? = some o
      rw [Array.getElem?_eq_getElem (by simpa using hl), Array.getElem_modify_self, hk']
      cases o <;> first | rfl | (simp [Obj.isCells] at hc)
    · rw [setRow_other _ _ _ _ e]; exact hk, fun k c t fr hk => by
    by_cases e : k = b
    · subst e
      rw [hb] at hk
      cases hk
      exact ⟨_, _, _, setRow_heap _ _ _ _ _ _ hb, hs⟩
    · exact ⟨c, t, fr, by rw [setRow_other _ _ _ _ e]; exact hk, rfl⟩⟩

theorem nx_write {W : Nat → Prop} {ρ : Rho} {H0 : Heap} {w : World} {id b o n p : Nat} {segs sub segs' : List Seg} {cells : Array Value} {t : TypeId} {cs : List Value} (hH : HRep W ρ (hget H0) w) (hW : ∀ b, w.heap.size ≤ b → W b) (hρ : ρ.m id = some (b, o)) (hb : hget H0 id = some ⟨true, segs⟩)
    (hc : w.heap[b]? = some (.cells cells t (0, 0))) (hr : RowRep ρ segs (fun i => cells[o + i]?)) (hp : PutS segs p n sub segs') (hcs : cs.length = n) (hsub : RowRep ρ sub (fun i => cs[i]?)) (hfit : o + p + n ≤ cells.size) :
    Nx H0.length (H0.set id (some ⟨true, segs'⟩)).length ρ ρ W W (hget (H0.set id (some ⟨true, segs'⟩))) w (w.setRow b (cells.toList.take (o + p) ++ cs ++ cells.toList.drop (o + p + cs.length)).toArray) :=
  ⟨.refl _, fun _ _ h => .inl h, hH.write hρ hb hc hr hp hcs hsub hfit, Fr.setRow _ ((hH.rep id b o _ hρ hb).2 rfl) hc (by simp; omega), fun _ h => h, fun k hk => hW k (by simpa using hk), fun _ _ h => .inl h⟩

theorem fits {ρ : Rho} {segs sub segs' : List Seg} {o p n : Nat} {cells : Array Value} (hr : RowRep ρ segs (fun i => cells[o + i]?)) (hp : PutS segs p n sub segs') : o + p + n ≤ cells.size := by
  have hle := hp.1
  obtain ⟨y, hy⟩ := atS_some (l := segs) (i := p + n - 1) (by omega)
  obtain ⟨v, hv, _⟩ := hr _ y hy
  have hv : cells[o + (p + n - 1)]? = some v := hv
  have : o + (p + n - 1) < cells.size := (Array.getElem?_eq_some_iff.1 hv).1
  omega

section rules
variable {P : Program} {T : Tm} {H : Heap} {d : Option Tmp} {ty : TypeId} {pos : String} {af : Array Edge} {g : Option (Nat × Bool)}
theorem l_store {t : TypeId} {x y : Operand} {id base idx n : Nat} {segs sub segs' : List Seg} (hx : ev T x = .s (.ptr id base idx)) (hb : hget H id = some ⟨true, segs⟩)
    (hy : ∀ (ρ : Rho) (v : Value), (ev T y).rep ρ v → v.cells.size = n ∧ RowRep ρ sub (fun i => v.cells[i]?) ∧ ∀ u ∈ v.cells.toList, u.oneCell' = true) (hp : PutS segs (base + idx) n sub segs') (hs : ∀ w, (sizeOf t).run P w = .ok n w) :
    LOk P ⟨d, .store t x y, ty, pos, af, g⟩ T H (H.set id (some ⟨true, segs'⟩)) (.s .junk) [id] [id] :=
  lok_set [id] (fun i hi => by simp at hi; subst hi; exact hget_lt hb) (by simp) fun H0 hl hag => by
    intro W ρ a w hH hn hW ho next Q hq
    have h1 : (ev T x).rep ρ (a.eval x) := ho x (by simp [Op.operands])
    have h2 : (ev T y).rep ρ (a.eval y) := ho y (by simp [Op.operands])
    rw [hx] at h1
    simp only [AV.rep, AV.rep0, SV.rep] at h1
    obtain ⟨b, o, hρ, h1⟩ := h1
    obtain ⟨hsz, hsub, hone⟩ := hy ρ _ h2
    have hb0 : hget H0 id = some ⟨true, segs⟩ := (hag id (by simp)).trans hb
    obtain ⟨⟨cells, tt, fr, g1, g2, _, g3⟩, hWb⟩ := hH.rep id b o _ hρ hb0
    have hfr := g2 rfl
    subst hfr
    have hfit := fits g3 hp
    have hst := run_storeCells_at P b (o + (base + idx)) tt (a.eval y).cells.toList 0 cells w g1 (by simp [hsz]; omega) hone
    have hrun : (execOp a.eval ⟨d, .store t x y, ty, pos, af, g⟩).run P w = .ok .skip (w.setRow b (cells.toList.take (o + (base + idx)) ++ (a.eval y).cells.toList ++ cells.toList.drop (o + (base + idx) + (a.eval y).cells.toList.length)).toArray) := by
      rw [Nat.add_zero] at hst
      simp only [Nat.add_assoc] at hst ⊢
      simp [execOp, h1, Instr.storeAt, Instr.sureAddr, storeVar, Sem.run_bind, hs, hsz, Nat.add_assoc] at hst ⊢
      rw [hst]; rfl
    rw [hrun]
    exact hq undef _ ⟨ρ, W, nx_write hH hW hρ hb0 g1 g3 hp (by simp [hsz]) (by simpa using hsub) hfit, trivial⟩

theorem rep_cells_agg {ρ : Rho} {sub : List Seg} {v : Value} {n : Nat} (h : (AV.agg sub).rep ρ v) (hn : sizeS sub = n) : v.cells.size = n ∧ RowRep ρ sub (fun i => v.cells[i]?) ∧ ∀ u ∈ v.cells.toList, u.oneCell' = true := by
  obtain ⟨cs, h1, h2, h3⟩ := h
  subst h1
  refine ⟨by simp [Value.cells, h2, hn], h3, fun u hu => ?_⟩
  simp only [Value.cells] at hu
  obtain ⟨i, hi, e⟩ := List.getElem_of_mem hu
  have h5 : i < cs.size := by simpa using hi
  obtain ⟨y, hy2⟩ := atS_some (l := sub) (i := i) (by rw [← h2]; exact h5)
  obtain ⟨v, hv, hc⟩ := h3 i y hy2
  have h6 : cs[i]? = some cs[i] := by simp [h5]
  simp only at hv
  rw [h6] at hv
  simp at hv e
  rw [← e, hv]; exact hc.2
theorem rep_cells_s {ρ : Rho} {x : SV} {v : Value} (h : x.rep ρ v) (hj : x ≠ .junk) : v.cells.size = 1 ∧ RowRep ρ [.one x] (fun i => v.cells[i]?) ∧ ∀ u ∈ v.cells.toList, u.oneCell' = true := by
  have h2 := SV.oneCell h hj
  rw [cells_one h2]
  refine ⟨rfl, fun i z hz => ?_, by simp [h2]⟩
  obtain ⟨rfl, rfl⟩ := atS_one1 hz
  exact ⟨_, rfl, h, h2⟩

theorem l_store_agg {t : TypeId} {x y : Operand} {id base idx n : Nat} {segs sub segs' : List Seg} {H1 : Heap} (hx : ev T x = .s (.ptr id base idx)) (hy : ev T y = .agg sub) (hb : hget H id = some ⟨true, segs⟩)
    (hp : PutS segs (base + idx) n sub segs') (hs : ∀ w, (sizeOf t).run P w = .ok n w) (hn : sizeS sub = n) (hr : H.set id (some ⟨true, segs'⟩) = H1) :
    LOk P ⟨d, .store t x y, ty, pos, af, g⟩ T H H1 (.s .junk) [id] [id] := by
  subst hr
  refine l_store hx hb (fun ρ v h => ?_) hp hs
  rw [hy] at h
  exact rep_cells_agg h hn
theorem l_store_s {t : TypeId} {x y : Operand} {id base idx : Nat} {segs segs' : List Seg} {v : SV} {H1 : Heap} (hx : ev T x = .s (.ptr id base idx)) (hy : ev T y = .s v) (hj : v ≠ .junk) (hb : hget H id = some ⟨true, segs⟩)
    (hp : PutS segs (base + idx) 1 [.one v] segs') (hs : ∀ w, (sizeOf t).run P w = .ok 1 w) (hr : H.set id (some ⟨true, segs'⟩) = H1) :
    LOk P ⟨d, .store t x y, ty, pos, af, g⟩ T H H1 (.s .junk) [id] [id] := by
  subst hr
  refine l_store hx hb (fun ρ u h => ?_) hp hs
  rw [hy] at h
  exact rep_cells_s h hj
theorem l_store_int {t : TypeId} {x y : Operand} {id base idx m : Nat} {segs : List Seg} {k : IntKind} {n : Int} {xs : List Int} {r : Heap} (hx : ev T x = .s (.ptr id base idx)) (hy : ev T y = .s (.int k n)) (hb : hget H id = some ⟨true, segs⟩)
    (hs : segAt segs base = some (.ints k m xs)) (hi : idx < m) (hl : xs.length = m) (hz : ∀ w, (sizeOf t).run P w = .ok 1 w) (hr : H.set id (some ⟨true, segSet segs base (.ints k m (xs.set idx n))⟩) = r) :
    LOk P ⟨d, .store t x y, ty, pos, af, g⟩ T H r (.s .junk) [id] [id] :=
  l_store_s hx hy (by simp) hb (PutS.int1 hs hi hl) hz hr
theorem l_store_one {t : TypeId} {x y : Operand} {id base : Nat} {segs : List Seg} {v u : SV} {r : Heap} (hx : ev T x = .s (.ptr id base 0)) (hy : ev T y = .s v) (hj : v ≠ .junk) (hb : hget H id = some ⟨true, segs⟩)
    (hs : segAt segs base = some (.one u)) (hz : ∀ w, (sizeOf t).run P w = .ok 1 w) (hr : H.set id (some ⟨true, segSet segs base (.one v)⟩) = r) :
    LOk P ⟨d, .store t x y, ty, pos, af, g⟩ T H r (.s .junk) [id] [id] :=
  l_store_s hx hy hj hb (PutS.seg (by decide) hs rfl rfl) hz hr
end rules
end Go.Bx
end

section
/- Runs of operations in the text's order. No program. -/
namespace Go.Bx

structure Env where
  P : Program
  W : Nat → Prop
  w0 : World
  ρ0 : Rho
  n : Nat
  nE : Nat
  hW : ∀ b, w0.heap.size ≤ b → W b
  hdom : ∀ id, nE ≤ id → ρ0.m id = none
  tail : List Deferred
  flat : Bool

structure DefOk (w0 : World) (ds : List Deferred) (w : World) : Prop where
  nodup : ds.Nodup
  mark : ∀ d ∈ ds, ∃ D, d = { target := .collected D, args := #[] } ∧ w0.heap.size ≤ D ∧ w.heap[D]? = some (.deferred (some []))
theorem DefOk.nil (w0 w : World) : DefOk w0 [] w := ⟨List.nodup_nil, fun d h => by cases h⟩
theorem DefOk.ext {w0 w w' : World} {ds : List Deferred} (h : DefOk w0 ds w) (k : Ext w w') : DefOk w0 ds w' := ⟨h.nodup, fun d hd => by
  obtain ⟨D, e1, e2, e3⟩ := h.mark d hd
  exact ⟨D, e1, e2, k.obj e3⟩⟩
theorem DefOk.fr {W : Nat → Prop} {w0 w w' : World} {ds : List Deferred} (h : DefOk w0 ds w) (k : Fr W w w') : DefOk w0 ds w' := ⟨h.nodup, fun d hd => by
  obtain ⟨D, e1, e2, e3⟩ := h.mark d hd
  exact ⟨D, e1, e2, k.others D _ e3 rfl⟩⟩

structure DefT (w0 : World) (tail : List Deferred) (flat : Bool) (ds : List Deferred) (w : World) : Prop where
  ex : ∃ ms, ds = ms ++ tail ∧ DefOk w0 ms w ∧ (flat = true → ms = [])
theorem DefT.nil (w0 : World) (flat : Bool) (w : World) (tail : List Deferred) : DefT w0 tail flat tail w := ⟨[], rfl, .nil _ _, fun _ => rfl⟩
theorem DefT.ext {w0 w w' : World} {ds tail : List Deferred} {flat : Bool} (h : DefT w0 tail flat ds w) (k : Ext w w') : DefT w0 tail flat ds w' :=
  let ⟨ms, e, h1, h2⟩ := h.ex
  ⟨ms, e, h1.ext k, h2⟩
theorem DefT.fr {W : Nat → Prop} {w0 w w' : World} {ds tail : List Deferred} {flat : Bool} (h : DefT w0 tail flat ds w) (k : Fr W w w') : DefT w0 tail flat ds w' :=
  let ⟨ms, e, h1, h2⟩ := h.ex
  ⟨ms, e, h1.fr k, h2⟩
theorem DefT.flat0 {w0 w : World} {ds : List Deferred} (h : DefT w0 [] false ds w) : DefOk w0 ds w := by
  obtain ⟨ms, e, h1, _⟩ := h.ex
  rw [List.append_nil] at e
  exact e ▸ h1

structure Pt (E : Env) (ρ : Rho) (W : Nat → Prop) (h : Nat → Option Blk) (a : Act) (w : World) : Prop where
  le : Rle E.ρ0 ρ
  rep : HRep W ρ h w
  size : a.tmps.size = E.n
  defs : DefT E.w0 E.tail E.flat a.defers w
  fr : Fr E.W E.w0 w
  sub : ∀ b, W b → E.W b
  fresh : ∀ b, w.heap.size ≤ b → W b
  fzn : ∀ b c, ρ.fz b = some c → E.ρ0.fz b = some c ∨ E.W b
  old : ∀ id x, ρ.m id = some x → E.ρ0.m id = some x ∨ (E.nE ≤ id ∧ E.W x.1)

theorem Pt.drew {E : Env} {ρ : Rho} {W : Nat → Prop} {h : Nat → Option Blk} {a : Act} {w : World} (p : Pt E ρ W h a w) : Pt E ρ W h a { w with drawn := w.drawn + 1 } :=
  ⟨p.le, p.rep.ext (.drew w), p.size, p.defs.ext (.drew w), p.fr.trans ((Ext.drew w).fr _), p.sub, p.fresh, p.fzn, p.old⟩
theorem Pt.nx {E : Env} {ρ ρ' : Rho} {W W' : Nat → Prop} {h h' : Nat → Option Blk} {a : Act} {w w' : World} {n n' : Nat} {d : Option Tmp} {v : Value} (p : Pt E ρ W h a w) (hE : E.nE ≤ n) (k : Nx n n' ρ ρ' W W' h' w w') : Pt E ρ' W' h' (a.put d v) w' :=
  ⟨p.le.trans k.le, k.rep, (put_size _ _ _).trans p.size, by rw [put_defers]; exact p.defs.fr k.fr, p.fr.trans (k.fr.mono p.sub), fun b hb => p.sub b (k.sub b hb), k.fresh, fun b c e => by
    rcases k.fzn b c e with h1 | h1
    · exact p.fzn b c h1
    · exact .inr (p.sub b h1), fun id x e => by
    rcases k.old id x e with h1 | h1
    · exact p.old id x h1
    · exact .inr ⟨Nat.le_trans hE h1.1, p.sub _ h1.2.2⟩⟩

def Rep (E : Env) (T : Tm) (H : Heap) (a : Act) (w : World) : Prop :=
  ∃ ρ W, Pt E ρ W (hget H) a w ∧ (∀ id, H.length ≤ id → ρ.m id = none) ∧ TRep ρ T a ∧ E.nE ≤ H.length

theorem Rep.drew {E : Env} {T : Tm} {H : Heap} {a : Act} {w : World} (h : Rep E T H a w) : Rep E T H a { w with drawn := w.drawn + 1 } := by
  obtain ⟨ρ, W, h1, h2, h3⟩ := h
  exact ⟨ρ, W, h1.drew, h2, h3⟩

def constOk : Value → Bool
  | .agg _ | .tuple _ => false
  | _ => true
def operandOk : Operand → Bool
  | .const c => constOk c
  | _ => true

def opOk (n : Nat) (o : Oper) : Bool := o.op.operands.all operandOk && (match o.dst with | some d => Nat.blt d n | none => true) && (match o.op with | .select .. => false | _ => true)

theorem opOk_dst {n : Nat} {o : Oper} (h : opOk n o = true) (i : Nat) (hi : o.dst = some i) : i < n := by
  simp only [opOk, Bool.and_eq_true, hi] at h
  exact Nat.blt_eq.mp h.1.2
theorem opOk_ops' {n : Nat} {o : Oper} (h : opOk n o = true) {T : Tm} {ρ : Rho} {a : Act} (hT : ∀ t, Operand.tmp t ∈ o.op.operands → (look T t).rep ρ (a.tmps.getD t undef)) : Ops o T ρ a := by
  simp only [opOk, Bool.and_eq_true, Array.all_eq_true_iff_forall_mem] at h
  intro x hx
  cases x with
  | tmp t => exact hT t hx
  | global g => trivial
  | func f => exact ⟨rfl, rfl⟩
  | const c =>
    have := h.1.1 _ hx
    simp only [operandOk] at this
    have e : ev T (.const c) = .s (evc c) := by
      unfold ev
      cases c <;> first | rfl | (cases this)
    rw [e]
    exact evc_rep ρ
theorem opOk_ops {n : Nat} {o : Oper} (h : opOk n o = true) {T : Tm} {ρ : Rho} {a : Act} (hT : TRep ρ T a) : Ops o T ρ a := opOk_ops' h fun t _ => hT t

inductive Guard (ops : Array Oper) (T : Tm) (o : Oper) : Bool → Prop
  | free (h : o.guard = none) : Guard ops T o true
  | on {j t : Nat} {b B : Bool} (h : o.guard = some (j, b)) (ht : (ops[j]?).bind (·.dst) = some t) (hv : look T t = .s (.bool B)) (hB : B = b) : Guard ops T o true
  | off {j t : Nat} {b B : Bool} (h : o.guard = some (j, b)) (ht : (ops[j]?).bind (·.dst) = some t) (hv : look T t = .s (.bool B)) (hB : B = !b) : Guard ops T o false

theorem Guard.wanted {ops : Array Oper} {T : Tm} {o : Oper} {c : Bool} (h : Guard ops T o c) {ρ : Rho} {a : Act}
    (hT : ∀ j b t, o.guard = some (j, b) → (ops[j]?).bind (·.dst) = some t → (look T t).rep ρ (a.tmps.getD t undef) ∧ t < a.tmps.size) : Region.wanted o (yielded ops a.tmps) = c := by
  cases h with
  | free h => simp [Region.wanted, h]
  | @on j t b B h ht hv hB =>
    obtain ⟨h1, h2⟩ := hT j b t h ht
    rw [hv] at h1
    have h1 : a.tmps.getD t undef = .bool B := h1
    have : a.tmps[t]? = some (.bool B) := by rw [← h1]; simp [h2]
    simp [Region.wanted, h, yielded, ht, this, hB]
  | @off j t b B h ht hv hB =>
    obtain ⟨h1, h2⟩ := hT j b t h ht
    rw [hv] at h1
    have h1 : a.tmps.getD t undef = .bool B := h1
    have : a.tmps[t]? = some (.bool B) := by rw [← h1]; simp [h2]
    simp [Region.wanted, h, yielded, ht, this, hB]

abbrev Trail := List (List Nat × List Nat × Nat)
inductive Steps (P : Program) (ops : Array Oper) : List Oper → Tm → Heap → Trail → Tm → Heap → Prop
  | nil {T H} : Steps P ops [] T H [] T H
  | cons {o r T H H1 v F M fs T' H'} (hg : Guard ops T o true) (h : LOk P o T H H1 v F M) (k : Steps P ops r (put T o.dst v) H1 fs T' H') : Steps P ops (o :: r) T H ((F, M, H1.length - H.length) :: fs) T' H'
  | skip {o r T H F fs T' H'} (hg : Guard ops T o false) (k : Steps P ops r (put T o.dst (.s .junk)) H fs T' H') : Steps P ops (o :: r) T H ((F, [], 0) :: fs) T' H'

theorem rep_lok {E : Env} {o : Oper} {T : Tm} {H H1 : Heap} {v : AV} {F M : List Nat} (h : LOk E.P o T H H1 v F M) (hok : opOk E.n o = true) {a : Act} {w : World} (hr : Rep E T H a w) : Gives E.P o a w fun v' w' => Rep E (put T o.dst v) H1 (a.put o.dst v') w' := by
  obtain ⟨ρ, W, p, hn, hT, hE⟩ := hr
  refine (h.frame p.rep (fun _ _ _ => rfl) (fun i h1 _ => hn i h1) p.fresh (opOk_ops hok hT)).mono ?_
  rintro v' w' ⟨ρ', W', k, hv⟩
  have hg : (fun id => if id ∈ M ∨ (H.length ≤ id ∧ id < H1.length) then hget H1 id else hget H id) = hget H1 := by
    funext id
    by_cases h1 : id ∈ M ∨ (H.length ≤ id ∧ id < H1.length)
    · rw [if_pos h1]
    · rw [if_neg h1]
      simp only [not_or, not_and, Nat.not_lt] at h1
      rcases Nat.lt_or_ge id H.length with h2 | h2
      · exact (h.keep id h2 h1.1).symm
      · rw [hget_ge h2, hget_ge (h1.2 h2)]
  rw [hg] at k
  refine ⟨ρ', W', p.nx hE k, fun id hid => ?_, (hT.le k.le).put (fun i hi => by rw [p.size]; exact opOk_dst hok i hi) hv, Nat.le_trans hE h.len⟩
  cases hm : ρ'.m id with
  | none => rfl
  | some x =>
    rcases k.old id x hm with h1 | h1
    · rw [hn id (Nat.le_trans h.len hid)] at h1; cases h1
    · omega

theorem rep_skip {E : Env} {o : Oper} {T : Tm} {H : Heap} (hok : opOk E.n o = true) {a : Act} {w : World} (hr : Rep E T H a w) : Rep E (put T o.dst (.s .junk)) H (a.put o.dst undef) w := by
  obtain ⟨ρ, W, p, hn, hT, hE⟩ := hr
  exact ⟨ρ, W, ⟨p.le, p.rep, (put_size _ _ _).trans p.size, by rw [put_defers]; exact p.defs, p.fr, p.sub, p.fresh, p.fzn, p.old⟩, hn, hT.put (fun i hi => by rw [p.size]; exact opOk_dst hok i hi) trivial, hE⟩

def regionOk (n : Nat) (ops : Array Oper) : Bool := ops.all (opOk n)
theorem regionOk_op {n : Nat} {ops : Array Oper} (h : regionOk n ops = true) {i : Nat} {o : Oper} (ho : ops[i]? = some o) : opOk n o = true := by
  simp only [regionOk, Array.all_eq_true_iff_forall_mem] at h
  exact h o (Array.mem_of_getElem? ho)
theorem regionOk_guard {n : Nat} {ops : Array Oper} (h : regionOk n ops = true) (j : Nat) (t : Nat) (e : (ops[j]?).bind (·.dst) = some t) : t < n := by
  cases hj : ops[j]? with
  | none => simp [hj] at e
  | some o => simp [hj] at e; exact opOk_dst (regionOk_op h hj) t e

theorem step_lok {E : Env} {ops : Array Oper} {Q : Exit → Act → World → Prop} {o : Oper} {i : Nat} (ho : ops[i]? = some o) (hok : regionOk E.n ops = true) {T : Tm} {H H1 : Heap} {v : AV} {F M : List Nat}
    (hg : Guard ops T o true) (h : LOk E.P o T H H1 v F M) {a : Act} {w : World} (hr : Rep E T H a w) {K : Act → World → Prop} (hK : ∀ a' w', Rep E (put T o.dst v) H1 a' w' → K a' w') : wpOp E.P ops Q i K a w := by
  have hw : Region.wanted o (yielded ops a.tmps) = true := by
    obtain ⟨ρ, W, p, hn, hT, _⟩ := hr
    exact hg.wanted (ρ := ρ) (a := a) (fun j b t _ e2 => ⟨hT t, by rw [p.size]; exact regionOk_guard hok j t e2⟩)
  unfold wpOp
  simp only [ho, hw, if_true]
  exact .inl (rep_lok h (regionOk_op hok ho) hr K Q fun v' w' k => hK _ _ k)
theorem step_skip {E : Env} {ops : Array Oper} {Q : Exit → Act → World → Prop} {o : Oper} {i : Nat} (ho : ops[i]? = some o) (hok : regionOk E.n ops = true) {T : Tm} {H : Heap}
    (hg : Guard ops T o false) {a : Act} {w : World} (hr : Rep E T H a w) {K : Act → World → Prop} (hK : ∀ a' w', Rep E (put T o.dst (.s .junk)) H a' w' → K a' w') : wpOp E.P ops Q i K a w := by
  have hw : Region.wanted o (yielded ops a.tmps) = false := by
    obtain ⟨ρ, W, p, hn, hT, _⟩ := hr
    exact hg.wanted (ρ := ρ) (a := a) (fun j b t _ e2 => ⟨hT t, by rw [p.size]; exact regionOk_guard hok j t e2⟩)
  unfold wpOp
  simp only [ho, hw, Bool.false_eq_true, if_false]
  exact hK _ _ (rep_skip (regionOk_op hok ho) hr)

theorem steps_wpOps {E : Env} {ops : Array Oper} {Q : Exit → Act → World → Prop} (hok : regionOk E.n ops = true) {l : List Oper} {fs : Trail} {T T' : Tm} {H H' : Heap} (hs : Steps E.P ops l T H fs T' H') :
    ∀ (k : Nat), (∀ j, l[j]? = ops[k + j]?) → ∀ (a : Act) (w : World), Rep E T H a w → (∀ a' w', Rep E T' H' a' w' → Q .normal a' w') → wpOps E.P ops Q (List.range' k l.length) a w := by
  induction hs with
  | nil => exact fun k _ a w hr hq => hq a w hr
  | @cons o r T H H1 v F M fs T' H' hg h _ ih =>
    intro k hl a w hr hq
    have h0 : ops[k]? = some o := by have := hl 0; simpa using this.symm
    rw [List.length_cons, List.range'_succ, wpOps_cons]
    exact step_lok h0 hok hg h hr (fun a' w' hr' => ih (k + 1) (fun j => by have := hl (j + 1); simpa [Nat.add_assoc, Nat.add_comm 1 j] using this) a' w' hr' hq)
  | @skip o r T H F fs T' H' hg _ ih =>
    intro k hl a w hr hq
    have h0 : ops[k]? = some o := by have := hl 0; simpa using this.symm
    rw [List.length_cons, List.range'_succ, wpOps_cons]
    exact step_skip h0 hok hg hr (fun a' w' hr' => ih (k + 1) (fun j => by have := hl (j + 1); simpa [Nat.add_assoc, Nat.add_comm 1 j] using this) a' w' hr' hq)
end Go.Bx
end
