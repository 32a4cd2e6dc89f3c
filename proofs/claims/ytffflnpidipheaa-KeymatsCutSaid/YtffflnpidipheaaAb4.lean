/- Regions: in the text's order, and in whatever order the tape draws. -/
import Derived.Test.YtffflnpidipheaaAb3
namespace Go.Ab

structure Env where
  P : Program
  W : Nat → Prop
  w0 : World
  ρ0 : Rho
  n : Nat
  nE : Nat
  hW : ∀ b, w0.heap.size ≤ b → W b
  hdom : ∀ id, nE ≤ id → ρ0 id = none

/-- The calls that are put off: marks of loops over functions, at which nothing was put off. -/
structure DefOk (w0 : World) (ds : List Deferred) (w : World) : Prop where
  nodup : ds.Nodup
  mark : ∀ d ∈ ds, ∃ D, d = { target := .collected D, args := #[] } ∧ w0.heap.size ≤ D ∧ w.heap[D]? = some (.deferred (some []))
theorem DefOk.nil (w0 w : World) : DefOk w0 [] w := ⟨List.nodup_nil, fun d h => by cases h⟩
theorem DefOk.ext {w0 w w' : World} {ds : List Deferred} (h : DefOk w0 ds w) (k : Ext w w') : DefOk w0 ds w' := ⟨h.nodup, fun d hd => by
  obtain ⟨D, e1, e2, e3⟩ := h.mark d hd
  exact ⟨D, e1, e2, k.obj e3⟩⟩
theorem DefOk.fr {W : Nat → Prop} {w0 w w' : World} {ds : List Deferred} (h : DefOk w0 ds w) (k : Fr W w w') : DefOk w0 ds w' := ⟨h.nodup, fun d hd => by
  obtain ⟨D, e1, e2, e3⟩ := h.mark d hd
  exact ⟨D, e1, e2, k.others D _ e3 rfl⟩⟩

def Rep (E : Env) (T : Tm) (H : Heap) (a : Act) (w : World) : Prop :=
  ∃ ρ, Rle E.ρ0 ρ ∧ (∀ id, H.length ≤ id → ρ id = none) ∧ HRep E.W ρ H w ∧ TRep ρ T a ∧ a.tmps.size = E.n ∧ DefOk E.w0 a.defers w ∧ Fr E.W E.w0 w

theorem Rep.drew {E : Env} {T : Tm} {H : Heap} {a : Act} {w : World} (h : Rep E T H a w) : Rep E T H a { w with drawn := w.drawn + 1 } := by
  obtain ⟨ρ, h1, h2, h3, h4, h5, h6, h7⟩ := h
  exact ⟨ρ, h1, h2, h3.ext (.drew w), h4, h5, h6.ext (.drew w), h7.ext (.drew w)⟩

theorem TRep.put {ρ : Rho} {T : Tm} {a : Act} {d : Option Tmp} {v : AV} {v' : Value} (h : TRep ρ T a) (hd : ∀ i, d = some i → i < a.tmps.size) (hv : v.rep ρ v') : TRep ρ (put T d v) (a.put d v') := by
  intro i
  cases d with
  | none => exact h i
  | some j =>
    simp only [Ab.put, Act.put, look_cons]
    rw [getD_set _ _ _ _ (hd j rfl)]
    by_cases hi : j = i
    · simp only [hi, if_true]; exact hv
    · simp only [hi, if_false]; exact h i

theorem TRep.le {ρ ρ' : Rho} {T : Tm} {a : Act} (h : TRep ρ T a) (hl : Rle ρ ρ') : TRep ρ' T a := fun i => AV.rep_le hl (h i)

theorem put_size (a : Act) (d : Option Tmp) (v : Value) : (a.put d v).tmps.size = a.tmps.size := by cases d <;> simp [Act.put]
theorem put_defers (a : Act) (d : Option Tmp) (v : Value) : (a.put d v).defers = a.defers := by cases d <;> simp [Act.put]

theorem ops_of {o : Oper} {T : Tm} {ρ : Rho} {a : Act} (h : TRep ρ T a) (hx : ∀ x ∈ o.op.operands, ∀ c, x = .const c → (ev T x).rep ρ c) (hg : ∀ x ∈ o.op.operands, ∀ c, x ≠ .global c) : Ops o T ρ a := by
  intro x hm
  cases x with
  | tmp t => exact h t
  | const c => exact hx _ hm c rfl
  | global c => exact absurd rfl (hg _ hm c)
  | func f => exact ⟨rfl, rfl⟩

/-- A constant that is what it says. -/
def constOk : Value → Bool
  | .int .. | .bool _ | .string _ | .nilFunc | .nilIface | .map none | .pointer none | .slice none 0 0 => true
  | _ => false
def operandOk : Operand → Bool
  | .const c => constOk c
  | _ => true

theorem operandOk_rep {x : Operand} (h : operandOk x = true) {T : Tm} {ρ : Rho} {a : Act} (hT : TRep ρ T a) : (ev T x).rep ρ (a.eval x) := by
  cases x with
  | tmp t => exact hT t
  | global g => trivial
  | func f => exact ⟨rfl, rfl⟩
  | const c =>
    simp only [operandOk] at h
    unfold constOk at h
    split at h <;> first
      | (cases h; done)
      | exact rfl
      | exact ⟨rfl, rfl⟩

def opOk (n : Nat) (o : Oper) : Bool := o.op.operands.all operandOk && (match o.dst with | some d => Nat.blt d n | none => true) && (match o.op with | .select .. => false | _ => true)

theorem opOk_ops {n : Nat} {o : Oper} (h : opOk n o = true) {T : Tm} {ρ : Rho} {a : Act} (hT : TRep ρ T a) : Ops o T ρ a := by
  simp only [opOk, Bool.and_eq_true, Array.all_eq_true_iff_forall_mem] at h
  exact fun x hx => operandOk_rep (h.1.1 x hx) hT

theorem opOk_dst {n : Nat} {o : Oper} (h : opOk n o = true) (i : Nat) (hi : o.dst = some i) : i < n := by
  simp only [opOk, Bool.and_eq_true, hi] at h
  exact Nat.blt_eq.mp h.1.2

/-- What a guard says. -/
inductive Guard (ops : Array Oper) (T : Tm) (o : Oper) : Bool → Prop
  | free (h : o.guard = none) : Guard ops T o true
  | on {j t : Nat} {b B : Bool} (h : o.guard = some (j, b)) (ht : (ops[j]?).bind (·.dst) = some t) (hv : look T t = .s (.bool B)) (hB : B = b) : Guard ops T o true
  | off {j t : Nat} {b B : Bool} (h : o.guard = some (j, b)) (ht : (ops[j]?).bind (·.dst) = some t) (hv : look T t = .s (.bool B)) (hB : B = !b) : Guard ops T o false

theorem Guard.wanted {ops : Array Oper} {T : Tm} {o : Oper} {c : Bool} (h : Guard ops T o c) {ρ : Rho} {a : Act}
    (hT : ∀ j b t, o.guard = some (j, b) → (ops[j]?).bind (·.dst) = some t → (look T t).rep ρ (a.tmps.getD t undef) ∧ t < a.tmps.size) : Region.wanted o (yielded ops a.tmps) = c := by
  cases h with
  | free h => simp [Region.wanted, h]
  | @on j t b B h ht hv hB =>
    obtain ⟨h1, h2⟩ := hT j b t h ht
    rw [hv] at h1
    have h1 : a.tmps.getD t undef = .bool B := h1
    have : a.tmps[t]? = some (.bool B) := by rw [← h1]; simp [h2]
    simp [Region.wanted, h, yielded, ht, this, hB]
  | @off j t b B h ht hv hB =>
    obtain ⟨h1, h2⟩ := hT j b t h ht
    rw [hv] at h1
    have h1 : a.tmps.getD t undef = .bool B := h1
    have : a.tmps[t]? = some (.bool B) := by rw [← h1]; simp [h2]
    simp [Region.wanted, h, yielded, ht, this, hB]

inductive HSteps (P : Program) (ops : Array Oper) : List Oper → Tm → Heap → Tm → Heap → Prop
  | nil {T H} : HSteps P ops [] T H T H
  | cons {o r T H v nb T' H'} (hg : Guard ops T o true) (h : HOk P o T H v nb) (k : HSteps P ops r (put T o.dst v) (H ++ nb.map some) T' H') : HSteps P ops (o :: r) T H T' H'
  | skip {o r T H T' H'} (hg : Guard ops T o false) (k : HSteps P ops r (put T o.dst (.s .junk)) H T' H') : HSteps P ops (o :: r) T H T' H'

inductive Steps (P : Program) (ops : Array Oper) : List Oper → Tm → Heap → Tm → Heap → Prop
  | nil {T H} : Steps P ops [] T H T H
  | cons {o r T H v nb T' H'} (hg : Guard ops T o true) (h : HOk P o T H v nb) (k : Steps P ops r (put T o.dst v) (H ++ nb.map some) T' H') : Steps P ops (o :: r) T H T' H'
  | wr {o r T H v H1 T' H'} (hg : Guard ops T o true) (h : MOk P o T H v H1) (k : Steps P ops r (put T o.dst v) H1 T' H') : Steps P ops (o :: r) T H T' H'
  | skip {o r T H T' H'} (hg : Guard ops T o false) (k : Steps P ops r (put T o.dst (.s .junk)) H T' H') : Steps P ops (o :: r) T H T' H'

theorem step_mok {E : Env} {ops : Array Oper} {Q : Exit → Act → World → Prop} {o : Oper} {i : Nat} (ho : ops[i]? = some o) (hok : opOk E.n o = true) {T : Tm} {H H1 : Heap} {v : AV} (hgn : ∀ j b t, o.guard = some (j, b) → (ops[j]?).bind (·.dst) = some t → t < E.n)
    (hg : Guard ops T o true) (h : MOk E.P o T H v H1) {a : Act} {w : World} (hr : Rep E T H a w) {K : Act → World → Prop} (hK : ∀ a' w', Rep E (put T o.dst v) H1 a' w' → K a' w') : wpOp E.P ops Q i K a w := by
  obtain ⟨ρ, h1, h2, h3, h4, h5, h6, h7⟩ := hr
  have hw := hg.wanted (ρ := ρ) (a := a) (fun j b t e1 e2 => ⟨h4 t, by rw [h5]; exact hgn j b t e1 e2⟩)
  unfold wpOp
  simp only [ho, hw, if_true]
  refine .inl (h E.W ρ a w h3 h2 (fun b hb => E.hW b (Nat.le_trans h7.size hb)) (opOk_ops hok h4) K Q ?_)
  rintro v' w' ⟨ρ', k1, k2, k3, k4, k5⟩
  exact hK _ _ ⟨ρ', h1.trans k2, k1, k3, (h4.le k2).put (fun i hi => by rw [h5]; exact opOk_dst hok i hi) k5, (put_size _ _ _).trans h5, (by rw [put_defers]; exact h6.fr k4), h7.trans k4⟩

theorem step_skip {E : Env} {ops : Array Oper} {Q : Exit → Act → World → Prop} {o : Oper} {i : Nat} (ho : ops[i]? = some o) (hok : opOk E.n o = true) {T : Tm} {H : Heap} (hgn : ∀ j b t, o.guard = some (j, b) → (ops[j]?).bind (·.dst) = some t → t < E.n)
    (hg : Guard ops T o false) {a : Act} {w : World} (hr : Rep E T H a w) {K : Act → World → Prop} (hK : ∀ a' w', Rep E (put T o.dst (.s .junk)) H a' w' → K a' w') : wpOp E.P ops Q i K a w := by
  obtain ⟨ρ, h1, h2, h3, h4, h5, h6, h7⟩ := hr
  have hw := hg.wanted (ρ := ρ) (a := a) (fun j b t e1 e2 => ⟨h4 t, by rw [h5]; exact hgn j b t e1 e2⟩)
  unfold wpOp
  simp only [ho, hw, Bool.false_eq_true, if_false]
  exact hK _ _ ⟨ρ, h1, h2, h3, h4.put (fun i hi => by rw [h5]; exact opOk_dst hok i hi) trivial, (put_size _ _ _).trans h5, (by rw [put_defers]; exact h6), h7⟩

def regionOk (n : Nat) (ops : Array Oper) : Bool := ops.all (opOk n)

theorem regionOk_op {n : Nat} {ops : Array Oper} (h : regionOk n ops = true) {i : Nat} {o : Oper} (ho : ops[i]? = some o) : opOk n o = true := by
  simp only [regionOk, Array.all_eq_true_iff_forall_mem] at h
  exact h o (Array.mem_of_getElem? ho)

theorem regionOk_guard {n : Nat} {ops : Array Oper} (h : regionOk n ops = true) (j : Nat) (t : Nat) (e : (ops[j]?).bind (·.dst) = some t) : t < n := by
  cases hj : ops[j]? with
  | none => simp [hj] at e
  | some o => simp [hj] at e; exact opOk_dst (regionOk_op h hj) t e

theorem steps_wpOps {E : Env} {ops : Array Oper} {Q : Exit → Act → World → Prop} (hok : regionOk E.n ops = true) {l : List Oper} {T T' : Tm} {H H' : Heap} (hs : Steps E.P ops l T H T' H') :
    ∀ (k : Nat), (∀ j, l[j]? = ops[k + j]?) → ∀ (a : Act) (w : World), Rep E T H a w → (∀ a' w', Rep E T' H' a' w' → Q .normal a' w') → wpOps E.P ops Q (List.range' k l.length) a w := by
  induction hs with
  | nil => exact fun k _ a w hr hq => hq a w hr
  | @cons o r T H v nb T' H' hg h _ ih =>
    intro k hl a w hr hq
    have h0 : ops[k]? = some o := by have := hl 0; simpa using this.symm
    rw [List.length_cons, List.range'_succ, wpOps_cons]
    exact step_mok h0 (regionOk_op hok h0) (fun j b t _ e => regionOk_guard hok j t e) hg h.mok hr (fun a' w' hr' => ih (k + 1) (fun j => by have := hl (j + 1); simpa [Nat.add_assoc, Nat.add_comm 1 j] using this) a' w' hr' hq)
  | @wr o r T H v H1 T' H' hg h _ ih =>
    intro k hl a w hr hq
    have h0 : ops[k]? = some o := by have := hl 0; simpa using this.symm
    rw [List.length_cons, List.range'_succ, wpOps_cons]
    exact step_mok h0 (regionOk_op hok h0) (fun j b t _ e => regionOk_guard hok j t e) hg h hr (fun a' w' hr' => ih (k + 1) (fun j => by have := hl (j + 1); simpa [Nat.add_assoc, Nat.add_comm 1 j] using this) a' w' hr' hq)
  | @skip o r T H T' H' hg _ ih =>
    intro k hl a w hr hq
    have h0 : ops[k]? = some o := by have := hl 0; simpa using this.symm
    rw [List.length_cons, List.range'_succ, wpOps_cons]
    exact step_skip h0 (regionOk_op hok h0) (fun j b t _ e => regionOk_guard hok j t e) hg hr (fun a' w' hr' => ih (k + 1) (fun j => by have := hl (j + 1); simpa [Nat.add_assoc, Nat.add_comm 1 j] using this) a' w' hr' hq)

/-! ### Whatever order -/
def maskOf (acc : Nat → Nat) : List Edge → Nat
  | [] => 0
  | e :: r => bif Region.binds .any e then (2 ^ e.on ||| acc e.on) ||| maskOf acc r else maskOf acc r
def tbl : List Oper → List Nat → List Nat
  | [], acc => acc
  | o :: r, acc => tbl r (acc ++ [maskOf (fun i => acc.getD i 0) o.after.toList])
/-- Whom an operation waits for, and whom these wait for. -/
def reach (ops : Array Oper) : List Nat := tbl ops.toList []

theorem maskOf_bit {acc : Nat → Nat} {j : Nat} : ∀ {es : List Edge}, (maskOf acc es).testBit j = true → ∃ e ∈ es, Region.binds .any e = true ∧ (e.on = j ∨ (acc e.on).testBit j = true)
  | [], h => by simp [maskOf] at h
  | e :: r, h => by
    simp only [maskOf] at h
    cases hb : Region.binds .any e with
    | false =>
      rw [hb] at h
      obtain ⟨e', h1, h2⟩ := maskOf_bit (es := r) h
      exact ⟨e', by simp [h1], h2⟩
    | true =>
      rw [hb] at h
      simp only [cond_true, Nat.testBit_or, Bool.or_eq_true, Nat.testBit_two_pow, decide_eq_true_eq] at h
      rcases h with (h | h) | h
      · exact ⟨e, by simp, hb, .inl h⟩
      · exact ⟨e, by simp, hb, .inr h⟩
      · obtain ⟨e', h1, h2⟩ := maskOf_bit (es := r) h
        exact ⟨e', by simp [h1], h2⟩

/-- From 'm' on all is done one behind the other; ahead of it in any order that the edges let. -/
def anyOkR (R : List Nat) (ops : Array Oper) (m : Nat) : Bool :=
  (List.range ops.size).all fun i => match ops[i]? with
    | none => false
    | some o =>
      Nat.beq (R.getD i 0) (maskOf (fun i => R.getD i 0) o.after.toList) &&
      ((o.after.all fun e => !Region.binds .any e || Nat.blt e.on i) &&
      if i < m then
        (List.range m).all fun j => match ops[j]? with
          | none => false
          | some p => match p.dst with
            | none => true
            | some d => (j == i || o.dst != some d) && (!(o.looksAt ops).contains d || (Nat.blt j i && (R.getD i 0).testBit j))
      else (List.range i).all fun j => (R.getD i 0).testBit j)
def anyOk (ops : Array Oper) (m : Nat) : Bool := anyOkR (reach ops) ops m

theorem anyOk_edge {ops : Array Oper} {m i : Nat} {o : Oper} (h : anyOk ops m = true) (ho : ops[i]? = some o) : ∀ e ∈ o.after, Region.binds .any e = true → e.on < i := by
  have hi : i < ops.size := (Array.getElem?_eq_some_iff.1 ho).1
  simp only [anyOk, anyOkR, List.all_eq_true, List.mem_range] at h
  have h1 := h i hi
  simp only [ho, Bool.and_eq_true, Array.all_eq_true_iff_forall_mem] at h1
  intro e he hb
  have := h1.2.1 e he
  simp only [hb, Bool.not_true, Bool.false_or] at this
  exact Nat.blt_eq.mp this

def Closed (ops : Array Oper) (listed : Array Bool) : Prop := ∀ (i : Nat) (o : Oper), ops[i]? = some o → listed.getD i false = true → ∀ e ∈ o.after, Region.binds .any e = true → listed.getD e.on false = true

theorem reach_listed {ops : Array Oper} {m : Nat} (h : anyOk ops m = true) {listed : Array Bool} (hc : Closed ops listed) : ∀ (i : Nat) (o : Oper) (j : Nat), ops[i]? = some o → ((reach ops).getD i 0).testBit j = true →
    (∀ e ∈ o.after, Region.binds .any e = true → listed.getD e.on false = true) → listed.getD j false = true := by
  intro i
  induction i using Nat.strongRecOn with
  | _ i ih =>
    intro o j ho hj ha
    have hi : i < ops.size := (Array.getElem?_eq_some_iff.1 ho).1
    have hedge := anyOk_edge h ho
    have h' := h
    simp only [anyOk, anyOkR, List.all_eq_true, List.mem_range] at h'
    have h1 := h' i hi
    simp only [ho, Bool.and_eq_true] at h1
    have h2 := Nat.eq_of_beq_eq_true h1.1
    rw [h2] at hj
    obtain ⟨e, he, hb, hon⟩ := maskOf_bit hj
    have he : e ∈ o.after := by simpa using he
    have hl := ha e he hb
    rcases hon with rfl | hon
    · exact hl
    · have hlt := hedge e he hb
      have hs : e.on < ops.size := by omega
      have hoe : ops[e.on]? = some ops[e.on] := by simp [hs]
      exact ih e.on hlt _ j hoe hon (hc e.on _ hoe hl)

theorem anyOk_tail {ops : Array Oper} {m i : Nat} {o : Oper} (h : anyOk ops m = true) (ho : ops[i]? = some o) (hm : m ≤ i) : ∀ j, j < i → ((reach ops).getD i 0).testBit j = true := by
  have hi : i < ops.size := (Array.getElem?_eq_some_iff.1 ho).1
  simp only [anyOk, anyOkR, List.all_eq_true, List.mem_range] at h
  have h1 := h i hi
  simp only [ho, Bool.and_eq_true] at h1
  have h2 := h1.2.2
  rw [if_neg (by omega)] at h2
  simpa [List.all_eq_true] using h2

theorem anyOk_head {ops : Array Oper} {m i j : Nat} {o p : Oper} {d : Nat} (h : anyOk ops m = true) (ho : ops[i]? = some o) (hm : i < m) (hj : j < m) (hp : ops[j]? = some p) (hd : p.dst = some d) :
    (j = i ∨ o.dst ≠ some d) ∧ (d ∈ o.looksAt ops → j < i ∧ ((reach ops).getD i 0).testBit j = true) := by
  have hi : i < ops.size := (Array.getElem?_eq_some_iff.1 ho).1
  simp only [anyOk, anyOkR, List.all_eq_true, List.mem_range] at h
  have h1 := h i hi
  simp only [ho, Bool.and_eq_true] at h1
  have h2 := h1.2.2
  rw [if_pos hm] at h2
  simp only [List.all_eq_true, List.mem_range] at h2
  have h3 := h2 j hj
  simp only [hp, hd, Bool.and_eq_true, Bool.or_eq_true, beq_iff_eq, bne_iff_ne, Bool.not_eq_true', List.contains_eq_mem, decide_eq_false_iff_not] at h3
  refine ⟨h3.1, fun hmem => ?_⟩
  rcases h3.2 with h4 | h4
  · exact absurd hmem h4
  · exact ⟨Nat.blt_eq.mp h4.1, h4.2⟩

theorem closed_prefix {ops : Array Oper} {m : Nat} (hany : anyOk ops m = true) {k : Nat} {listed : Array Bool} (hk : k ≤ ops.size) (hl : ∀ i, i < ops.size → listed.getD i false = decide (i < k)) : Closed ops listed := by
  intro i o ho hi e he hb
  have his : i < ops.size := (Array.getElem?_eq_some_iff.1 ho).1
  rw [hl i his] at hi
  have := anyOk_edge hany ho e he hb
  rw [hl _ (by omega)]
  simp at hi ⊢; omega

theorem tail_any {E : Env} {ops : Array Oper} {Q : Exit → Act → World → Prop} {m : Nat} (hok : regionOk E.n ops = true) (hany : anyOk ops m = true) {l : List Oper} {T T' : Tm} {H H' : Heap} (hs : Steps E.P ops l T H T' H') :
    ∀ (k : Nat), m ≤ k → k + l.length = ops.size → (∀ j, l[j]? = ops[k + j]?) → ∀ (fuel : Nat) (listed : Array Bool), l.length ≤ fuel → listed.size = ops.size → (∀ i, i < ops.size → listed.getD i false = decide (i < k)) → ∀ (a : Act) (w : World), Rep E T H a w → (∀ a' w', Rep E T' H' a' w' → Q .normal a' w') →
      wpAny E.P .any ops Q fuel listed a w := by
  have nothing : ∀ (k : Nat) (listed : Array Bool), k ≤ ops.size → listed.size = ops.size → (∀ i, i < ops.size → listed.getD i false = decide (i < k)) → ∀ i ∈ Region.ready .any ops listed, m ≤ k → i = k := by
    intro k listed hks hsz hl i hi hmk
    obtain ⟨hu, o, ho, hall⟩ := mem_ready.1 hi
    have hi : i < ops.size := (Array.getElem?_eq_some_iff.1 ho).1
    have hik : ¬ i < k := by
      intro hlt
      have := hl i hi
      simp [hsz, hi, hlt] at this hu
      rw [this] at hu; cases hu
    rcases Nat.lt_or_ge k i with h | h
    · have := reach_listed hany (closed_prefix hany hks hl) i o k ho (anyOk_tail hany ho (by omega) k h) hall
      rw [hl k (by omega)] at this
      simp at this
    · omega
  induction hs with
  | nil =>
    intro k hmk hk _ fuel listed _ hsz hl a w hr hq
    have hnil : Region.ready .any ops listed = [] := by
      cases hc : Region.ready .any ops listed with
      | nil => rfl
      | cons x xs =>
        have hx : x ∈ Region.ready .any ops listed := by simp [hc]
        have := nothing k listed (by simp at hk; omega) hsz hl x hx hmk
        obtain ⟨_, o, ho, _⟩ := mem_ready.1 hx
        have hi : x < ops.size := (Array.getElem?_eq_some_iff.1 ho).1
        simp at hk
        omega
    exact wpAny_done hnil (hq a w hr) fuel
  | @cons o r T H v nb T' H' hg h _ ih =>
    intro k hmk hk hl0 fuel listed hf hsz hl a w hr hq
    obtain ⟨fuel, rfl⟩ : ∃ f, fuel = f + 1 := ⟨fuel - 1, by simp at hf; omega⟩
    have h0 : ops[k]? = some o := by have := hl0 0; simpa using this.symm
    have hks : k < ops.size := (Array.getElem?_eq_some_iff.1 h0).1
    have hrk : k ∈ Region.ready .any ops listed := mem_ready.2 ⟨by have := hl k hks; simp [hsz, hks] at this ⊢; exact this, o, h0, fun e he hb => by have := anyOk_edge hany h0 e he hb; rw [hl _ (by omega)]; simpa using this⟩
    refine ⟨fun hn => (by rw [hn] at hrk; cases hrk), fun i hi => ?_⟩
    have := nothing k listed (by omega) hsz hl i hi hmk
    subst this
    refine step_mok h0 (regionOk_op hok h0) (fun j b t _ e => regionOk_guard hok j t e) hg h.mok hr (fun a' w' hr' => ?_)
    refine ih (i + 1) (by omega) (by simp at hk; omega) (fun j => by have := hl0 (j + 1); simpa [Nat.add_assoc, Nat.add_comm 1 j] using this) fuel _ (by simpa using hf) (by simpa using hsz) (fun j hj => ?_) a' w' hr' hq
    by_cases hij : i = j
    · subst hij; simp [hsz, hj]
    · rw [getD_set_ne false hij, hl j hj]; simp; omega
  | @wr o r T H v H1 T' H' hg h _ ih =>
    intro k hmk hk hl0 fuel listed hf hsz hl a w hr hq
    obtain ⟨fuel, rfl⟩ : ∃ f, fuel = f + 1 := ⟨fuel - 1, by simp at hf; omega⟩
    have h0 : ops[k]? = some o := by have := hl0 0; simpa using this.symm
    have hks : k < ops.size := (Array.getElem?_eq_some_iff.1 h0).1
    have hrk : k ∈ Region.ready .any ops listed := mem_ready.2 ⟨by have := hl k hks; simp [hsz, hks] at this ⊢; exact this, o, h0, fun e he hb => by have := anyOk_edge hany h0 e he hb; rw [hl _ (by omega)]; simpa using this⟩
    refine ⟨fun hn => (by rw [hn] at hrk; cases hrk), fun i hi => ?_⟩
    have := nothing k listed (by omega) hsz hl i hi hmk
    subst this
    refine step_mok h0 (regionOk_op hok h0) (fun j b t _ e => regionOk_guard hok j t e) hg h hr (fun a' w' hr' => ?_)
    refine ih (i + 1) (by omega) (by simp at hk; omega) (fun j => by have := hl0 (j + 1); simpa [Nat.add_assoc, Nat.add_comm 1 j] using this) fuel _ (by simpa using hf) (by simpa using hsz) (fun j hj => ?_) a' w' hr' hq
    by_cases hij : i = j
    · subst hij; simp [hsz, hj]
    · rw [getD_set_ne false hij, hl j hj]; simp; omega
  | @skip o r T H T' H' hg _ ih =>
    intro k hmk hk hl0 fuel listed hf hsz hl a w hr hq
    obtain ⟨fuel, rfl⟩ : ∃ f, fuel = f + 1 := ⟨fuel - 1, by simp at hf; omega⟩
    have h0 : ops[k]? = some o := by have := hl0 0; simpa using this.symm
    have hks : k < ops.size := (Array.getElem?_eq_some_iff.1 h0).1
    have hrk : k ∈ Region.ready .any ops listed := mem_ready.2 ⟨by have := hl k hks; simp [hsz, hks] at this ⊢; exact this, o, h0, fun e he hb => by have := anyOk_edge hany h0 e he hb; rw [hl _ (by omega)]; simpa using this⟩
    refine ⟨fun hn => (by rw [hn] at hrk; cases hrk), fun i hi => ?_⟩
    have := nothing k listed (by omega) hsz hl i hi hmk
    subst this
    refine step_skip h0 (regionOk_op hok h0) (fun j b t _ e => regionOk_guard hok j t e) hg hr (fun a' w' hr' => ?_)
    refine ih (i + 1) (by omega) (by simp at hk; omega) (fun j => by have := hl0 (j + 1); simpa [Nat.add_assoc, Nat.add_comm 1 j] using this) fuel _ (by simpa using hf) (by simpa using hsz) (fun j hj => ?_) a' w' hr' hq
    by_cases hij : i = j
    · subst hij; simp [hsz, hj]
    · rw [getD_set_ne false hij, hl j hj]; simp; omega

end Go.Ab
