/- A part of the proofs of this claim: Bx7, Bx8, Bx9, Bx10. No conditions. -/
import Derived.Test.YtokgpammicpahaaGreatDoorS0
import Derived.Deep.LoopGhost
import Derived.Scope
set_option linter.unusedVariables false
set_option linter.unusedSimpArgs false
section
/- Runs of operations in whatever order: one law, by what each one looks at and turns. No program. -/
namespace Go.Bx

def maskOf (acc : Nat → Nat) : List Edge → Nat
  | [] => 0
  | e :: r => bif Region.binds .any e then (2 ^ e.on ||| acc e.on) ||| maskOf acc r else maskOf acc r
def tbl : List Oper → List Nat → List Nat
  | [], acc => acc
  | o :: r, acc => tbl r (acc ++ [maskOf (fun i => acc.getD i 0) o.after.toList])
def reach (ops : Array Oper) : List Nat := tbl ops.toList []

theorem maskOf_bit {acc : Nat → Nat} {j : Nat} : ∀ {es : List Edge}, (maskOf acc es).testBit j = true → ∃ e ∈ es, Region.binds .any e = true ∧ (e.on = j ∨ (acc e.on).testBit j = true)
  | [], h => by simp [maskOf] at h
  | e :: r, h => by
    simp only [maskOf] at h
    cases hb : Region.binds .any e with
    | false =>
      rw [hb] at h
      obtain ⟨e', h1, h2⟩ := maskOf_bit (es := r) h
      exact ⟨e', by simp [h1], h2⟩
    | true =>
      rw [hb] at h
      simp only [cond_true, Nat.testBit_or, Bool.or_eq_true, Nat.testBit_two_pow, decide_eq_true_eq] at h
      rcases h with (h | h) | h
      · exact ⟨e, by simp, hb, .inl h⟩
      · exact ⟨e, by simp, hb, .inr h⟩
      · obtain ⟨e', h1, h2⟩ := maskOf_bit (es := r) h
        exact ⟨e', by simp [h1], h2⟩

def lenAt (n0 : Nat) : Trail → Nat → Nat
  | _, 0 => n0
  | [], _ + 1 => n0
  | (_, _, c) :: r, k + 1 => lenAt (n0 + c) r k

def clash (ops : Array Oper) (p o : Oper) (F' M' : List Nat) (s e : Nat) (F M : List Nat) : Bool :=
  (match p.dst with | some d => (o.looksAt ops).contains d || o.dst == some d | none => false) ||
  (match o.dst with | some d => (p.looksAt ops).contains d | none => false) ||
  F.any (fun id => M'.contains id || (Nat.ble s id && Nat.blt id e)) || F'.any (fun id => M.contains id)

def ordOkR (R : List Nat) (ops : Array Oper) (n0 : Nat) (fs : Trail) : Bool :=
  (List.range ops.size).all fun j => match ops[j]?, fs[j]? with
    | some o, some (F, M, _) => Nat.beq (R.getD j 0) (maskOf (fun i => R.getD i 0) o.after.toList) && ((o.after.all fun e => !Region.binds .any e || Nat.blt e.on j) &&
      (List.range j).all fun i => match ops[i]?, fs[i]? with
        | some p, some (F', M', _) => (R.getD j 0).testBit i || !(clash ops p o F' M' (lenAt n0 fs i) (lenAt n0 fs (i + 1)) F M)
        | _, _ => false)
    | _, _ => false
def ordOk (ops : Array Oper) (n0 : Nat) (fs : Trail) : Bool := ordOkR (reach ops) ops n0 fs

structure OrdOk (ops : Array Oper) (n0 : Nat) (fs : Trail) : Prop where
  len : ∀ j, j < ops.size → ∃ x, fs[j]? = some x
  mask : ∀ (j : Nat) (o : Oper), ops[j]? = some o → (reach ops).getD j 0 = maskOf (fun i => (reach ops).getD i 0) o.after.toList
  edge : ∀ (j : Nat) (o : Oper), ops[j]? = some o → ∀ e ∈ o.after, Region.binds .any e = true → e.on < j
  apart : ∀ (i j : Nat) (p o : Oper) (F' M' F M : List Nat) (c' c : Nat), i < j → ops[i]? = some p → ops[j]? = some o → fs[i]? = some (F', M', c') → fs[j]? = some (F, M, c) → ((reach ops).getD j 0).testBit i = true ∨ clash ops p o F' M' (lenAt n0 fs i) (lenAt n0 fs (i + 1)) F M = false

theorem ordOk_of {ops : Array Oper} {n0 : Nat} {fs : Trail} (h : ordOk ops n0 fs = true) : OrdOk ops n0 fs := by
  simp only [ordOk, ordOkR, List.all_eq_true, List.mem_range] at h
  have key : ∀ (j : Nat) (o : Oper), ops[j]? = some o → ∃ F M c, fs[j]? = some (F, M, c) ∧ (reach ops).getD j 0 = maskOf (fun i => (reach ops).getD i 0) o.after.toList ∧ (∀ e ∈ o.after, Region.binds .any e = true → e.on < j) ∧
      ∀ (i : Nat) (p : Oper) (F' M' : List Nat) (c' : Nat), i < j → ops[i]? = some p → fs[i]? = some (F', M', c') → ((reach ops).getD j 0).testBit i = true ∨ clash ops p o F' M' (lenAt n0 fs i) (lenAt n0 fs (i + 1)) F M = false := by
    intro j o ho
    have hj : j < ops.size := (Array.getElem?_eq_some_iff.1 ho).1
    have h1 := h j hj
    rw [ho] at h1
    cases hf : fs[j]? with
    | none => rw [hf] at h1; cases h1
    | some x =>
      obtain ⟨F, M, c⟩ := x
      rw [hf] at h1
      simp only [Bool.and_eq_true, Array.all_eq_true_iff_forall_mem, List.all_eq_true, List.mem_range] at h1
      refine ⟨F, M, c, rfl, Nat.eq_of_beq_eq_true h1.1, fun e he hb => ?_, fun i p F' M' c' hi hp hf' => ?_⟩
      · have := h1.2.1 e he
        rw [hb] at this
        simpa using this
      · have := h1.2.2 i hi
        rw [hp, hf'] at this
        simp only [Bool.or_eq_true, Bool.not_eq_true'] at this
        exact this
  refine ⟨fun j hj => ?_, fun j o ho => ?_, fun j o ho => ?_, fun i j p o F' M' F M c' c hi hp ho hf' hf => ?_⟩
  · obtain ⟨F, M, c, h1, _⟩ := key j ops[j] (by simp [hj]); exact ⟨_, h1⟩
  · obtain ⟨F, M, c, _, h1, _⟩ := key j o ho; exact h1
  · obtain ⟨F, M, c, _, _, h1, _⟩ := key j o ho; exact h1
  · obtain ⟨F2, M2, c2, h0, _, _, h1⟩ := key j o ho
    rw [hf] at h0; cases h0
    exact h1 i p F' M' c' hi hp hf'

def Closed (ops : Array Oper) (listed : Array Bool) : Prop := ∀ (i : Nat) (o : Oper), ops[i]? = some o → listed.getD i false = true → ∀ e ∈ o.after, Region.binds .any e = true → listed.getD e.on false = true

theorem reach_listed {ops : Array Oper} {n0 : Nat} {fs : Trail} (h : OrdOk ops n0 fs) {listed : Array Bool} (hc : Closed ops listed) : ∀ (i : Nat) (o : Oper) (j : Nat), ops[i]? = some o → ((reach ops).getD i 0).testBit j = true →
    (∀ e ∈ o.after, Region.binds .any e = true → listed.getD e.on false = true) → listed.getD j false = true := by
  intro i
  induction i using Nat.strongRecOn with
  | _ i ih =>
    intro o j ho hj ha
    have hi : i < ops.size := (Array.getElem?_eq_some_iff.1 ho).1
    rw [h.mask i o ho] at hj
    obtain ⟨e, he, hb, hon⟩ := maskOf_bit hj
    have he : e ∈ o.after := by simpa using he
    have hl := ha e he hb
    rcases hon with rfl | hon
    · exact hl
    · have hlt := h.edge i o ho e he hb
      have hs : e.on < ops.size := by omega
      have hoe : ops[e.on]? = some ops[e.on] := by simp [hs]
      exact ih e.on hlt _ j hoe hon (hc e.on _ hoe hl)

section over
variable {X Y : Type}
def over (S : Nat → Bool) (wr : Nat → X → Bool) (val : Nat → X → Y) (base : X → Y) : Nat → X → Y
  | 0, x => base x
  | k + 1, x => if S k = true ∧ wr k x = true then val k x else over S wr val base k x
variable {S : Nat → Bool} {wr : Nat → X → Bool} {val : Nat → X → Y} {base : X → Y}
theorem over_keep {k m : Nat} {x : X} (hk : k ≤ m) (h : ∀ j, k ≤ j → j < m → ¬ (S j = true ∧ wr j x = true)) : over S wr val base m x = over S wr val base k x := by
  induction m with
  | zero => have : k = 0 := by omega
            subst this; rfl
  | succ m ih =>
    by_cases e : k = m + 1
    · subst e; rfl
    · simp only [over]
      rw [if_neg (h m (by omega) (by omega))]
      exact ih (by omega) fun j h1 h2 => h j h1 (by omega)
theorem over_congr {S' : Nat → Bool} {k : Nat} {x : X} (h : ∀ j, j < k → wr j x = true → S j = S' j) : over S wr val base k x = over S' wr val base k x := by
  induction k with
  | zero => rfl
  | succ k ih =>
    simp only [over]
    have e := ih fun j hj => h j (by omega)
    by_cases hw : wr k x = true
    · rw [h k (by omega) hw, e]
    · rw [if_neg (by simp [hw]), if_neg (by simp [hw]), e]
theorem over_read {i m : Nat} {x : X} (hi : i ≤ m) (h : ∀ j, j < m → wr j x = true → (j < i → S j = true) ∧ (i ≤ j → S j = false)) : over S wr val base m x = over (fun _ => true) wr val base i x := by
  rw [over_keep hi fun j h1 h2 ⟨h3, h4⟩ => by rw [(h j h2 h4).2 h1] at h3; cases h3]
  exact over_congr fun j hj hw => (h j (by omega) hw).1 hj
theorem over_write {i m : Nat} {x : X} (hi : i < m) (h : wr i x = true → ∀ j, i < j → j < m → wr j x = true → S j = false) :
    over (fun j => if j = i then true else S j) wr val base m x = if wr i x = true then val i x else over S wr val base m x := by
  by_cases hw : wr i x = true
  · have hk : ∀ j, i + 1 ≤ j → j < m → ¬ ((if j = i then true else S j) = true ∧ wr j x = true) := by
      rintro j h1 h2 ⟨h3, h4⟩
      rw [if_neg (by omega), h hw j (by omega) h2 h4] at h3; cases h3
    rw [if_pos hw, over_keep (k := i + 1) hi hk]
    simp only [over]; rw [if_pos ⟨by simp, hw⟩]
  · rw [if_neg hw]
    refine over_congr fun j _ hj => ?_
    by_cases e : j = i
    · subst e; exact absurd hj hw
    · rw [if_neg e]
end over

def Tk (ops : Array Oper) (V : Nat → AV) (T0 : Tm) : Nat → Tm
  | 0 => T0
  | k + 1 => put (Tk ops V T0 k) ((ops[k]?).bind (·.dst)) (V k)
def StepOk (P : Program) (ops : Array Oper) (fs : Trail) (V : Nat → AV) (Hs : Nat → Heap) (F M : Nat → List Nat) (T0 : Tm) (k : Nat) : Prop :=
  ∃ o, ops[k]? = some o ∧ fs[k]? = some (F k, M k, (Hs (k + 1)).length - (Hs k).length) ∧
    ((Guard ops (Tk ops V T0 k) o true ∧ LOk P o (Tk ops V T0 k) (Hs k) (Hs (k + 1)) (V k) (F k) (M k)) ∨ (Guard ops (Tk ops V T0 k) o false ∧ V k = .s .junk ∧ Hs (k + 1) = Hs k ∧ M k = []))
theorem Tk_congr {ops : Array Oper} {V V' : Nat → AV} {T0 : Tm} : ∀ {k : Nat}, (∀ j, j < k → V j = V' j) → Tk ops V T0 k = Tk ops V' T0 k
  | 0, _ => rfl
  | k + 1, h => by simp only [Tk]; rw [Tk_congr (fun j hj => h j (by omega)), h k (by omega)]

theorem trace {P : Program} {ops : Array Oper} {l : List Oper} {fs' : Trail} {T T' : Tm} {H H' : Heap} (hs : Steps P ops l T H fs' T' H') (fs : Trail) (T0 : Tm) :
    ∀ (i : Nat) (V0 : Nat → AV) (Hs0 : Nat → Heap) (F0 M0 : Nat → List Nat), (∀ j, j < l.length → l[j]? = ops[i + j]?) → (∀ j, fs'[j]? = fs[i + j]?) → T = Tk ops V0 T0 i → H = Hs0 i →
      ∃ V Hs F M, (∀ j, j < i → V j = V0 j ∧ F j = F0 j ∧ M j = M0 j) ∧ (∀ j, j ≤ i → Hs j = Hs0 j) ∧ (∀ k, i ≤ k → k < i + l.length → StepOk P ops fs V Hs F M T0 k) ∧ Tk ops V T0 (i + l.length) = T' ∧ Hs (i + l.length) = H' := by
  induction hs with
  | nil => exact fun i V0 Hs0 F0 M0 _ _ hT hH => ⟨V0, Hs0, F0, M0, fun _ _ => ⟨rfl, rfl, rfl⟩, fun _ _ => rfl, fun k h1 h2 => by simp at h2; omega, hT.symm, hH.symm⟩
  | @cons o r T H H1 v F' M' fs' T' H' hg h _ ih =>
    intro i V0 Hs0 F0 M0 hl hfs hT hH
    have h0 : ops[i]? = some o := by have := hl 0 (by simp); simpa using this.symm
    let V1 : Nat → AV := fun j => if j = i then v else V0 j
    let F1 : Nat → List Nat := fun j => if j = i then F' else F0 j
    let M1 : Nat → List Nat := fun j => if j = i then M' else M0 j
    let Hs1 : Nat → Heap := fun j => if j = i + 1 then H1 else Hs0 j
    have eT : Tk ops V1 T0 i = T := by rw [hT]; exact Tk_congr fun j hj => by simp [V1, show j ≠ i by omega]
    obtain ⟨V, Hs, F, M, k1, k1', k2, k3, k4⟩ := ih (i + 1) V1 Hs1 F1 M1 (fun j hj => by have := hl (j + 1) (by simpa using hj); simpa [Nat.add_assoc, Nat.add_comm 1 j] using this)
      (fun j => by have := hfs (j + 1); simpa [Nat.add_assoc, Nat.add_comm 1 j] using this) (by simp only [Tk, eT, h0, Option.bind_some]; simp [V1]) (by simp [Hs1])
    have vi : V i = v := by rw [(k1 i (by omega)).1]; simp [V1]
    have fi : F i = F' := by rw [(k1 i (by omega)).2.1]; simp [F1]
    have mi : M i = M' := by rw [(k1 i (by omega)).2.2]; simp [M1]
    have hi : Hs i = H := by rw [k1' i (by omega), hH]; simp [Hs1]
    have hi1 : Hs (i + 1) = H1 := by rw [k1' (i + 1) (by omega)]; simp [Hs1]
    refine ⟨V, Hs, F, M, fun j hj => ?_, fun j hj => ?_, fun k h1 h2 => ?_, by rw [List.length_cons, ← k3]; congr 1; omega, by rw [List.length_cons, ← k4]; congr 1; omega⟩
    · have := k1 j (by omega)
      simpa [V1, F1, M1, show j ≠ i by omega] using this
    · rw [k1' j (by omega)]; simp [Hs1, show j ≠ i + 1 by omega]
    · by_cases hk : k = i
      · subst hk
        have e1 : Tk ops V T0 k = T := by rw [← eT]; exact Tk_congr fun j hj => (k1 j (by omega)).1
        refine ⟨o, h0, ?_, .inl ?_⟩
        · have := hfs 0
          rw [Nat.add_zero] at this
          rw [← this, fi, mi, hi, hi1]; rfl
        · rw [e1, vi, fi, mi, hi, hi1]; exact ⟨hg, h⟩
      · exact k2 k (by omega) (by simp at h2; omega)
  | @skip o r T H F' fs' T' H' hg _ ih =>
    intro i V0 Hs0 F0 M0 hl hfs hT hH
    have h0 : ops[i]? = some o := by have := hl 0 (by simp); simpa using this.symm
    let V1 : Nat → AV := fun j => if j = i then .s .junk else V0 j
    let F1 : Nat → List Nat := fun j => if j = i then F' else F0 j
    let M1 : Nat → List Nat := fun j => if j = i then [] else M0 j
    let Hs1 : Nat → Heap := fun j => if j = i + 1 then H else Hs0 j
    have eT : Tk ops V1 T0 i = T := by rw [hT]; exact Tk_congr fun j hj => by simp [V1, show j ≠ i by omega]
    obtain ⟨V, Hs, F, M, k1, k1', k2, k3, k4⟩ := ih (i + 1) V1 Hs1 F1 M1 (fun j hj => by have := hl (j + 1) (by simpa using hj); simpa [Nat.add_assoc, Nat.add_comm 1 j] using this)
      (fun j => by have := hfs (j + 1); simpa [Nat.add_assoc, Nat.add_comm 1 j] using this) (by simp only [Tk, eT, h0, Option.bind_some]; simp [V1]) (by simp [Hs1])
    have vi : V i = .s .junk := by rw [(k1 i (by omega)).1]; simp [V1]
    have fi : F i = F' := by rw [(k1 i (by omega)).2.1]; simp [F1]
    have mi : M i = [] := by rw [(k1 i (by omega)).2.2]; simp [M1]
    have hi : Hs i = H := by rw [k1' i (by omega), hH]; simp [Hs1]
    have hi1 : Hs (i + 1) = H := by rw [k1' (i + 1) (by omega)]; simp [Hs1]
    refine ⟨V, Hs, F, M, fun j hj => ?_, fun j hj => ?_, fun k h1 h2 => ?_, by rw [List.length_cons, ← k3]; congr 1; omega, by rw [List.length_cons, ← k4]; congr 1; omega⟩
    · have := k1 j (by omega)
      simpa [V1, F1, M1, show j ≠ i by omega] using this
    · rw [k1' j (by omega)]; simp [Hs1, show j ≠ i + 1 by omega]
    · by_cases hk : k = i
      · subst hk
        have e1 : Tk ops V T0 k = T := by rw [← eT]; exact Tk_congr fun j hj => (k1 j (by omega)).1
        refine ⟨o, h0, ?_, .inr ?_⟩
        · have := hfs 0
          rw [Nat.add_zero] at this
          rw [← this, fi, mi, hi, hi1, Nat.sub_self]; rfl
        · rw [e1, vi, mi, hi, hi1]; exact ⟨hg, rfl, rfl, rfl⟩
      · exact k2 k (by omega) (by simp at h2; omega)

def wrT (ops : Array Oper) (k t : Nat) : Bool := decide ((ops[k]?).bind (·.dst) = some t)
def wrH (Hs : Nat → Heap) (M : Nat → List Nat) (k id : Nat) : Bool := decide (id ∈ M k ∨ ((Hs k).length ≤ id ∧ id < (Hs (k + 1)).length))
theorem look_over {ops : Array Oper} {V : Nat → AV} {T0 : Tm} (t : Nat) : ∀ (k : Nat), look (Tk ops V T0 k) t = over (fun _ => true) (wrT ops) (fun k _ => V k) (look T0) k t
  | 0 => rfl
  | k + 1 => by
    simp only [Tk, over]
    rw [← look_over t k]
    cases hd : (ops[k]?).bind (·.dst) with
    | none => simp [put, wrT, hd]
    | some d =>
      simp only [put, look_cons]
      by_cases e : d = t
      · simp [wrT, hd, e]
      · simp [wrT, hd, e]
theorem hget_over {P : Program} {ops : Array Oper} {fs : Trail} {V : Nat → AV} {Hs : Nat → Heap} {F M : Nat → List Nat} {T0 : Tm} (id : Nat) : ∀ (k : Nat), (∀ j, j < k → StepOk P ops fs V Hs F M T0 j) → hget (Hs k) id = over (fun _ => true) (wrH Hs M) (fun k id => hget (Hs (k + 1)) id) (hget (Hs 0)) k id
  | 0, _ => rfl
  | k + 1, h => by
    simp only [over]
    rw [← hget_over id k fun j hj => h j (by omega)]
    by_cases hw : wrH Hs M k id = true
    · rw [if_pos ⟨trivial, hw⟩]
    · rw [if_neg (by simp [hw])]
      simp only [wrH, decide_eq_true_eq, not_or, not_and, Nat.not_lt] at hw
      obtain ⟨o, _, _, ⟨_, h2⟩ | ⟨_, _, h2, _⟩⟩ := h k (by omega)
      · rcases Nat.lt_or_ge id (Hs k).length with h3 | h3
        · exact h2.keep id h3 hw.1
        · rw [hget_ge h3, hget_ge (hw.2 h3)]
      · rw [h2]

theorem lenAt_eq {P : Program} {ops : Array Oper} {V : Nat → AV} {F M : Nat → List Nat} {T0 : Tm} : ∀ (k : Nat) (fs : Trail) (Hs : Nat → Heap) (h : ∀ j, j < k → ∃ x y, fs[j]? = some (x, y, (Hs (j + 1)).length - (Hs j).length) ∧ (Hs j).length ≤ (Hs (j + 1)).length), lenAt (Hs 0).length fs k = (Hs k).length
  | 0, fs, Hs, _ => by cases fs <;> rfl
  | k + 1, fs, Hs, h => by
    obtain ⟨x, y, h1, h2⟩ := h 0 (by omega)
    cases fs with
    | nil => simp at h1
    | cons p r =>
      simp at h1
      subst h1
      simp only [lenAt]
      have := lenAt_eq (P := P) (ops := ops) (V := V) (F := F) (M := M) (T0 := T0) k r (fun j => Hs (j + 1)) (fun j hj => by have := h (j + 1) (by omega); simpa using this)
      rw [show (Hs 0).length + ((Hs (0 + 1)).length - (Hs 0).length) = (Hs (0 + 1)).length by omega]
      exact this

theorem looksAt_op {ops : Array Oper} {o : Oper} {t : Nat} (h : Operand.tmp t ∈ o.op.operands) : t ∈ o.looksAt ops := by
  unfold Oper.looksAt
  refine List.mem_append.2 (.inl (List.mem_filterMap.2 ⟨.tmp t, by simpa using h, rfl⟩))
theorem looksAt_guard {ops : Array Oper} {o : Oper} {j t : Nat} {b : Bool} (h : o.guard = some (j, b)) (ht : (ops[j]?).bind (·.dst) = some t) : t ∈ o.looksAt ops := by
  unfold Oper.looksAt
  refine List.mem_append.2 (.inr ?_)
  simp [h, ht]

structure Inv (E : Env) (ops : Array Oper) (V : Nat → AV) (Hs : Nat → Heap) (M : Nat → List Nat) (T0 : Tm) (listed : Array Bool) (a : Act) (w : World) : Prop where
  size : listed.size = ops.size
  closed : Closed ops listed
  ex : ∃ ρ W, Pt E ρ W (over (fun j => listed.getD j false) (wrH Hs M) (fun k id => hget (Hs (k + 1)) id) (hget (Hs 0)) ops.size) a w ∧
    (∀ t, (over (fun j => listed.getD j false) (wrT ops) (fun k _ => V k) (look T0) ops.size t).rep ρ (a.tmps.getD t undef)) ∧
    (∀ id x, ρ.m id = some x → id < (Hs 0).length ∨ ∃ j, j < ops.size ∧ listed.getD j false = true ∧ (Hs j).length ≤ id ∧ id < (Hs (j + 1)).length)

theorem region_inv {E : Env} {ops : Array Oper} {Q : Exit → Act → World → Prop} (hok : regionOk E.n ops = true) {fs : Trail} {V : Nat → AV} {Hs : Nat → Heap} {F M : Nat → List Nat} {T0 T' : Tm} {H' : Heap} (hord : OrdOk ops (Hs 0).length fs)
    (hst : ∀ k, k < ops.size → StepOk E.P ops fs V Hs F M T0 k) (hT' : Tk ops V T0 ops.size = T') (hH' : Hs ops.size = H') (hE : E.nE ≤ (Hs 0).length) (hQ : ∀ a' w', Rep E T' H' a' w' → Q .normal a' w') :
    ∀ (fuel : Nat) (us : List Nat) (listed : Array Bool) (a : Act) (w : World), (∀ j, j < ops.size → listed.getD j false = false → j ∈ us) → us.length ≤ fuel → Inv E ops V Hs M T0 listed a w → wpAny E.P .any ops Q fuel listed a w := by
  have hlen : ∀ k, k < ops.size → (Hs k).length ≤ (Hs (k + 1)).length := fun k hk => by
    obtain ⟨o, _, _, ⟨_, h2⟩ | ⟨_, _, h2, _⟩⟩ := hst k hk
    · exact h2.len
    · rw [h2]; exact Nat.le_refl _
  have hmono : ∀ k m, k ≤ m → m ≤ ops.size → (Hs k).length ≤ (Hs m).length := by
    intro k m hk
    induction m with
    | zero => intro _; have : k = 0 := by omega
              subst this; exact Nat.le_refl _
    | succ m ih =>
      intro hm
      by_cases e : k = m + 1
      · subst e; exact Nat.le_refl _
      · exact Nat.le_trans (ih (by omega) (by omega)) (hlen m (by omega))
  have hlenAt : ∀ k, k ≤ ops.size → lenAt (Hs 0).length fs k = (Hs k).length := fun k hk =>
    lenAt_eq (P := E.P) (ops := ops) (V := V) (F := F) (M := M) (T0 := T0) k fs Hs fun j hj => by
      obtain ⟨o, _, h1, _⟩ := hst j (by omega)
      exact ⟨_, _, h1, hlen j (by omega)⟩
  have hFlt : ∀ k, k < ops.size → ∀ id ∈ M k, id ∈ F k ∧ id < (Hs k).length := fun k hk id hid => by
    obtain ⟨o, _, _, ⟨_, h2⟩ | ⟨_, _, _, h2⟩⟩ := hst k hk
    · exact ⟨h2.sub id hid, h2.lt id (h2.sub id hid)⟩
    · rw [h2] at hid; cases hid
  -- two that clash: the later one waits for the other one
  have waits : ∀ i j o, i < j → j < ops.size → ops[j]? = some o → ((∃ t, wrT ops i t = true ∧ (wrT ops j t = true ∨ t ∈ o.looksAt ops)) ∨ (∃ t p, ops[i]? = some p ∧ wrT ops j t = true ∧ t ∈ p.looksAt ops) ∨ (∃ id, id ∈ F j ∧ wrH Hs M i id = true) ∨ (∃ id, id ∈ F i ∧ id ∈ M j)) → ((reach ops).getD j 0).testBit i = true := by
    intro i j o hij hj ho hc
    have his : i < ops.size := by omega
    have hp : ops[i]? = some ops[i] := by simp [his]
    obtain ⟨p', hp', hf', _⟩ := hst i his
    obtain ⟨o', ho', hf, _⟩ := hst j hj
    rcases hord.apart i j _ o _ _ _ _ _ _ hij hp ho hf' hf with h | h
    · exact h
    · exfalso
      rw [hlenAt i (by omega), hlenAt (i + 1) (by omega)] at h
      simp only [clash, Bool.or_eq_false_iff, List.any_eq_false, Bool.and_eq_true, Nat.ble_eq, Nat.blt_eq, Bool.or_eq_true, not_or, List.contains_eq_mem, decide_eq_true_eq, not_and] at h
      obtain ⟨⟨⟨h1, h2⟩, h3⟩, h4⟩ := h
      rcases hc with ⟨t, e1, e2⟩ | ⟨t, p, e0, e1, e2⟩ | ⟨id, e1, e2⟩ | ⟨id, e1, e2⟩
      · simp only [wrT, decide_eq_true_eq, hp, Option.bind_some] at e1
        rw [e1] at h1
        simp only [Bool.or_eq_false_iff, List.contains_eq_mem, decide_eq_false_iff_not, beq_eq_false_iff_ne] at h1
        rcases e2 with e2 | e2
        · simp only [wrT, decide_eq_true_eq, ho, Option.bind_some] at e2
          exact h1.2 e2
        · exact h1.1 e2
      · rw [hp] at e0
        cases e0
        simp only [wrT, decide_eq_true_eq, ho, Option.bind_some] at e1
        rw [e1] at h2
        simp only [List.contains_eq_mem, decide_eq_false_iff_not] at h2
        exact h2 e2
      · simp only [wrH, decide_eq_true_eq] at e2
        have := h3 id e1
        rcases e2 with e2 | e2
        · exact this.1 e2
        · exact this.2 e2.1 e2.2
      · exact h4 id e1 e2
  have finish : ∀ (fuel : Nat) (listed : Array Bool) (a : Act) (w : World), (∀ j, j < ops.size → listed.getD j false = true) → Inv E ops V Hs M T0 listed a w → wpAny E.P .any ops Q fuel listed a w := by
    intro fuel listed a w hall hi
    have hnil : Region.ready .any ops listed = [] := by
      cases hc : Region.ready .any ops listed with
      | nil => rfl
      | cons x xs =>
        have hx : x ∈ Region.ready .any ops listed := by simp [hc]
        obtain ⟨hu, o, ho, _⟩ := mem_ready.1 hx
        have hxs : x < ops.size := (Array.getElem?_eq_some_iff.1 ho).1
        have := hall x hxs
        simp [hi.size, hxs] at this hu
        rw [this] at hu; cases hu
    refine wpAny_done hnil (hQ a w ?_) fuel
    obtain ⟨ρ, W, p, ht, hid⟩ := hi.ex
    have e1 : over (fun j => listed.getD j false) (wrH Hs M) (fun k id => hget (Hs (k + 1)) id) (hget (Hs 0)) ops.size = hget H' := by
      funext id
      rw [← hH', hget_over id ops.size hst]
      exact over_congr fun j hj _ => hall j hj
    rw [e1] at p
    refine ⟨ρ, W, p, fun id hid' => ?_, fun t => ?_, by rw [← hH']; exact Nat.le_trans hE (hmono 0 ops.size (Nat.zero_le _) (Nat.le_refl _))⟩
    · cases hm : ρ.m id with
      | none => rfl
      | some x =>
        have h0 := hmono 0 ops.size (Nat.zero_le _) (Nat.le_refl _)
        rw [hH'] at h0
        rcases hid id x hm with h | ⟨j, h1, _, _, h2⟩
        · omega
        · have := hmono (j + 1) ops.size (by omega) (Nat.le_refl _)
          rw [hH'] at this
          omega
    · rw [← hT', look_over]
      have := ht t
      rwa [over_congr (S' := fun _ => true) fun j hj _ => hall j hj] at this
  intro fuel
  induction fuel with
  | zero =>
    intro us listed a w hus hf hi
    refine finish 0 listed a w (fun j hj => ?_) hi
    cases hb : listed.getD j false with
    | true => rfl
    | false => have := hus j hj hb; have := List.length_pos_of_mem this; omega
  | succ fuel ih =>
    intro us listed a w hus hf hi
    by_cases hall : ∀ j, j < ops.size → listed.getD j false = true
    · exact finish _ listed a w hall hi
    have hready : ∃ j, j ∈ Region.ready .any ops listed := by
      have hleast : ∀ n, (∃ j, j ≤ n ∧ j < ops.size ∧ listed.getD j false = false) → ∃ j, j < ops.size ∧ listed.getD j false = false ∧ ∀ i, i < j → listed.getD i false = true := by
        intro n
        induction n with
        | zero =>
          rintro ⟨j, h1, h2, h3⟩
          have : j = 0 := by omega
          subst this
          exact ⟨0, h2, h3, fun i hi => absurd hi (by omega)⟩
        | succ n ihn =>
          rintro ⟨j, h1, h2, h3⟩
          by_cases hh : ∃ j, j ≤ n ∧ j < ops.size ∧ listed.getD j false = false
          · exact ihn hh
          · refine ⟨j, h2, h3, fun i hi => ?_⟩
            cases hb : listed.getD i false with
            | true => rfl
            | false => exact absurd ⟨i, by omega, by omega, hb⟩ hh
      have hex : ∃ j, j < ops.size ∧ listed.getD j false = false := by
        apply Classical.byContradiction
        intro hn
        refine hall fun j hj => ?_
        cases hb : listed.getD j false with
        | true => rfl
        | false => exact absurd ⟨j, hj, hb⟩ hn
      obtain ⟨j0, h1, h2⟩ := hex
      obtain ⟨j, hj, hjf, hji⟩ := hleast j0 ⟨j0, Nat.le_refl _, h1, h2⟩
      have ho : ops[j]? = some ops[j] := by simp [hj]
      exact ⟨j, mem_ready.2 ⟨by simp [hi.size, hj] at hjf ⊢; exact hjf, _, ho, fun e he hb => hji _ (hord.edge j _ ho e he hb)⟩⟩
    refine ⟨fun hn => (by obtain ⟨j, hj⟩ := hready; rw [hn] at hj; cases hj), fun i hir => ?_⟩
    obtain ⟨hun, o, ho, hedges⟩ := mem_ready.1 hir
    have his : i < ops.size := (Array.getElem?_eq_some_iff.1 ho).1
    have hif : listed.getD i false = false := by simp [hi.size, his] at hun ⊢; exact hun
    have before : ∀ j, ((reach ops).getD i 0).testBit j = true → listed.getD j false = true := fun j hj => reach_listed hord hi.closed i o j ho hj hedges
    have behind : ∀ j, j < ops.size → ((reach ops).getD j 0).testBit i = true → listed.getD j false = false := by
      intro j hj hb
      cases hl : listed.getD j false with
      | false => rfl
      | true =>
        have hoj : ops[j]? = some ops[j] := by simp [hj]
        have := reach_listed hord hi.closed j _ i hoj hb (hi.closed j _ hoj hl)
        rw [hif] at this; cases this
    obtain ⟨ρ, W, p, ht, hid⟩ := hi.ex
    obtain ⟨o', ho', hfs, hso⟩ := hst i his
    rw [ho] at ho'
    cases ho'
    -- what it looks at is told
    have hlook : ∀ t, t ∈ o.looksAt ops → (look (Tk ops V T0 i) t).rep ρ (a.tmps.getD t undef) := by
      intro t htm
      have := ht t
      rw [over_read (i := i) (by omega) (fun j hj hw => ⟨fun hji => before j (waits j i o hji his ho (.inl ⟨t, hw, .inr htm⟩)), fun hij => ?_⟩)] at this
      · rw [look_over]; exact this
      · by_cases e : j = i
        · subst e; exact hif
        · have hoj : ops[j]? = some ops[j] := by simp [hj]
          exact behind j hj (waits i j _ (by omega) hj hoj (.inr (.inl ⟨t, o, ho, hw, htm⟩)))
    have hopk := regionOk_op hok ho
    have hopsrep : Ops o (Tk ops V T0 i) ρ a := opOk_ops' hopk fun t htm => hlook t (looksAt_op htm)
    have hdst : ∀ d, o.dst = some d → d < a.tmps.size := fun d hd => by rw [p.size]; exact opOk_dst hopk d hd
    have hwant : ∀ c, Guard ops (Tk ops V T0 i) o c → Region.wanted o (yielded ops a.tmps) = c := fun c hg =>
      hg.wanted (ρ := ρ) fun j b t e1 e2 => ⟨hlook t (looksAt_guard e1 e2), by rw [p.size]; exact regionOk_guard hok j t e2⟩
    -- the blocks that it looks at are as in the text's order
    have hag : ∀ id, id ∈ F i → id < (Hs i).length → over (fun j => listed.getD j false) (wrH Hs M) (fun k id => hget (Hs (k + 1)) id) (hget (Hs 0)) ops.size id = hget (Hs i) id := by
      intro id hidF hidl
      rw [hget_over id i (fun j hj => hst j (by omega))]
      refine over_read (by omega) fun j hj hw => ⟨fun hji => before j (waits j i o hji his ho (.inr (.inr (.inl ⟨id, hidF, hw⟩)))), fun hij => ?_⟩
      by_cases e : j = i
      · subst e; exact hif
      · have hoj : ops[j]? = some ops[j] := by simp [hj]
        simp only [wrH, decide_eq_true_eq] at hw
        rcases hw with hw | hw
        · exact behind j hj (waits i j _ (by omega) hj hoj (.inr (.inr (.inr ⟨id, hidF, hw⟩))))
        · have := hmono i j (by omega) (by omega); omega
    have hnone : ∀ id, (Hs i).length ≤ id → id < (Hs (i + 1)).length → ρ.m id = none := by
      intro id h1 h2
      cases hm : ρ.m id with
      | none => rfl
      | some x =>
        rcases hid id x hm with h | ⟨j, h3, h4, h5, h6⟩
        · have := hmono 0 i (Nat.zero_le _) (by omega); omega
        · rcases Nat.lt_trichotomy i j with h7 | h7 | h7
          · have := hmono (i + 1) j (by omega) (by omega); omega
          · subst h7; rw [hif] at h4; cases h4
          · have := hmono (j + 1) i (by omega) (by omega); omega
    let S' : Nat → Bool := fun j => if j = i then true else listed.getD j false
    have hS' : (fun j => (listed.setIfInBounds i true).getD j false) = S' := by
      funext j
      simp only [S']
      by_cases e : j = i
      · subst e; rw [if_pos rfl]; simp [hi.size, his]
      · rw [if_neg e]; exact getD_set_ne false (Ne.symm e)
    have hslots : ∀ (v' : Value) (ρ' : Rho), Rle ρ ρ' → (V i).rep ρ' v' → ∀ t, (over S' (wrT ops) (fun k _ => V k) (look T0) ops.size t).rep ρ' ((a.put o.dst v').tmps.getD t undef) := by
      intro v' ρ' hle hv t
      rw [over_write his fun hw j hij hj hwj => ?_]
      · have hslot : (a.put o.dst v').tmps.getD t undef = if o.dst = some t then v' else a.tmps.getD t undef := by
          cases hd : o.dst with
          | none => simp [Act.put]
          | some d =>
            simp only [Act.put]
            rw [getD_set _ _ _ _ (hdst d hd)]
            simp
        rw [hslot]
        by_cases e : o.dst = some t
        · rw [if_pos (by simp [wrT, ho, e]), if_pos e]; exact hv
        · rw [if_neg (by simp [wrT, ho, e]), if_neg e]; exact AV.rep_le hle (ht t)
      · have hoj : ops[j]? = some ops[j] := by simp [hj]
        exact behind j hj (waits i j _ hij hj hoj (.inl ⟨t, hw, .inl hwj⟩))
    have hclosed : Closed ops (listed.setIfInBounds i true) := by
      intro j q hq hjl e he hb
      have keep : ∀ x, listed.getD x false = true → (listed.setIfInBounds i true).getD x false = true := fun x hx => getD_set_true hx
      by_cases hji : j = i
      · subst hji
        rw [ho] at hq
        cases hq
        exact keep _ (hedges e he hb)
      · rw [getD_set_ne false (Ne.symm hji)] at hjl
        exact keep _ (hi.closed j q hq hjl e he hb)
    have hids : ∀ id x, (ρ.m id = some x ∨ ((Hs i).length ≤ id ∧ id < (Hs (i + 1)).length)) → id < (Hs 0).length ∨ ∃ j, j < ops.size ∧ (listed.setIfInBounds i true).getD j false = true ∧ (Hs j).length ≤ id ∧ id < (Hs (j + 1)).length := by
      rintro id x (h | h)
      · rcases hid id x h with h | ⟨j, h1, h2, h3⟩
        · exact .inl h
        · exact .inr ⟨j, h1, getD_set_true h2, h3⟩
      · exact .inr ⟨i, his, by simp [hi.size, his], h⟩
    have hus' : ∀ j, j < ops.size → (listed.setIfInBounds i true).getD j false = false → j ∈ us.erase i := by
      intro j hj hjf
      by_cases hji : j = i
      · subst hji; simp [hi.size, his] at hjf
      · rw [getD_set_ne false (Ne.symm hji)] at hjf
        exact (List.mem_erase_of_ne hji).2 (hus j hj hjf)
    have hlen' : (us.erase i).length ≤ fuel := by
      have hmem := hus i his hif
      rw [List.length_erase_of_mem hmem]
      have := List.length_pos_of_mem hmem
      omega
    unfold wpOp
    simp only [ho]
    rcases hso with ⟨hg, hh⟩ | ⟨hg, hv, hn, hm0⟩
    · rw [hwant _ hg]
      simp only [if_true]
      refine .inl (hh.frame p.rep hag (fun id h1 h2 => hnone id h1 h2) p.fresh hopsrep _ Q ?_)
      rintro v' w' ⟨ρ', W', k, hv⟩
      refine ih (us.erase i) _ _ _ hus' hlen' ⟨by simpa using hi.size, hclosed, ρ', W', ?_, by rw [hS']; exact hslots v' ρ' k.le hv, fun id x hx => hids id x ((k.old id x hx).imp (fun h => h) fun h => ⟨h.1, h.2.1⟩)⟩
      have p' := p.nx (d := o.dst) (v := v') (Nat.le_trans hE (hmono 0 i (Nat.zero_le _) (by omega))) k
      rw [hS']
      have e : (fun id => if id ∈ M i ∨ ((Hs i).length ≤ id ∧ id < (Hs (i + 1)).length) then hget (Hs (i + 1)) id else over (fun j => listed.getD j false) (wrH Hs M) (fun k id => hget (Hs (k + 1)) id) (hget (Hs 0)) ops.size id) = over S' (wrH Hs M) (fun k id => hget (Hs (k + 1)) id) (hget (Hs 0)) ops.size := by
        funext id
        rw [over_write his fun hw j hij hj hwj => ?_]
        · simp only [wrH, decide_eq_true_eq]
        · have hoj : ops[j]? = some ops[j] := by simp [hj]
          simp only [wrH, decide_eq_true_eq] at hwj
          rcases hwj with hwj | hwj
          · exact behind j hj (waits i j _ hij hj hoj (.inr (.inr (.inl ⟨id, (hFlt j hj id hwj).1, hw⟩))))
          · simp only [wrH, decide_eq_true_eq] at hw
            have h1 := hmono (i + 1) j (by omega) (by omega)
            rcases hw with hw | hw
            · have := (hFlt i his id hw).2
              have := hlen i his
              omega
            · omega
      rw [e] at p'
      exact p'
    · rw [hwant _ hg]
      simp only [Bool.false_eq_true, if_false]
      refine ih (us.erase i) _ _ _ hus' hlen' ⟨by simpa using hi.size, hclosed, ρ, W, ?_, by rw [hS']; exact hslots undef ρ (.refl _) (by rw [hv]; trivial), fun id x hx => hids id x (.inl hx)⟩
      have e : over (fun j => listed.getD j false) (wrH Hs M) (fun k id => hget (Hs (k + 1)) id) (hget (Hs 0)) ops.size = over S' (wrH Hs M) (fun k id => hget (Hs (k + 1)) id) (hget (Hs 0)) ops.size := by
        funext id
        rw [over_write his fun hw => ?_]
        · rw [if_neg]
          simp [wrH, hm0, hn]
        · simp [wrH, hm0, hn] at hw
          omega
      rw [hS', ← e]
      exact ⟨p.le, p.rep, (put_size _ _ _).trans p.size, by rw [put_defers]; exact p.defs, p.fr, p.sub, p.fresh, p.fzn, p.old⟩

theorem getD_rep_false (n j : Nat) : (Array.replicate n false).getD j false = false := by
  simp only [Array.getD_eq_getD_getElem?, Array.getElem?_replicate]
  split <;> rfl

theorem region_any {E : Env} {id : Nat} {ops : Array Oper} {Q : Exit → Act → World → Prop} {fs : Trail} (hmix : E.P.follows .mixedOrders = true) (hok : regionOk E.n ops = true) {l : List Oper} (hl : ops.toList = l) {T T' : Tm} {H H' : Heap}
    (hs : Steps E.P ops l T H fs T' H') (hord : ordOk ops H.length fs = true) {a : Act} {w : World} (hr : Rep E T H a w) (hQ : ∀ a' w', Rep E T' H' a' w' → Q .normal a' w') : (Code.region id ops true).wp E.P Q a w := by
  subst hl
  have hsz : ops.toList.length = ops.size := by simp
  obtain ⟨V, Hs, F, M, _, k1, k2, k3, k4⟩ := trace hs fs T 0 (fun _ => .s .junk) (fun _ => H) (fun _ => []) (fun _ => []) (fun j hj => by simp) (fun j => by simp) rfl rfl
  rw [Nat.zero_add, hsz] at k2 k3 k4
  have h0 : Hs 0 = H := k1 0 (Nat.le_refl _)
  refine wp_region_any hmix ?_
  refine region_inv hok (fs := fs) (V := V) (Hs := Hs) (F := F) (M := M) (T0 := T) (by rw [h0]; exact ordOk_of hord) (fun k hk => k2 k (Nat.zero_le _) hk) k3 k4 (by rw [h0]; obtain ⟨_, _, _, _, _, h⟩ := hr; exact h) hQ ops.size (List.range ops.size) _ a _ (fun j hj _ => List.mem_range.2 hj) (by simp) ?_
  obtain ⟨ρ, W, p, hn, hT, _⟩ := hr.drew
  refine ⟨by simp, fun i o _ hi => (by rw [getD_rep_false] at hi; cases hi), ρ, W, ?_, fun t => ?_, fun id x hx => .inl ?_⟩
  · have e : over (fun j => (Array.replicate ops.size false).getD j false) (wrH Hs M) (fun k id => hget (Hs (k + 1)) id) (hget (Hs 0)) ops.size = hget H := by
      funext id
      rw [over_keep (k := 0) (Nat.zero_le _) fun j _ _ ⟨h, _⟩ => by rw [getD_rep_false] at h; cases h]
      show hget (Hs 0) id = _
      rw [h0]
    rw [e]; exact p
  · rw [over_keep (k := 0) (Nat.zero_le _) fun j _ _ ⟨h, _⟩ => by rw [getD_rep_false] at h; cases h]
    exact hT t
  · rw [h0]
    rcases Nat.lt_or_ge id H.length with h | h
    · exact h
    · rw [hn id h] at hx; cases hx
end Go.Bx
end

section
/- Code, what may be forgotten, loops. No program. -/
namespace Go.Bx

def Wp (E : Env) (c : Code) (T : Tm) (H : Heap) (Q : Exit → Tm → Heap → Prop) : Prop :=
  ∀ a w, Rep E T H a w → c.wp E.P (fun e a' w' => ∃ T' H', Q e T' H' ∧ Rep E T' H' a' w') a w

def Thn (K : Tm → Heap → Prop) (Q : Exit → Tm → Heap → Prop) : Exit → Tm → Heap → Prop
  | .normal, T, H => K T H
  | e, T, H => Q e T H
def Blo (i : Nat) (Q : Exit → Tm → Heap → Prop) : Exit → Tm → Heap → Prop
  | .exit j, T, H => if j = i then Q .normal T H else Q (.exit j) T H
  | e, T, H => Q e T H
def Sco (Q : Exit → Tm → Heap → Prop) : Exit → Tm → Heap → Prop
  | .goto _, _, _ => False
  | e, T, H => Q e T H

section code
variable {E : Env} {T : Tm} {H : Heap} {Q : Exit → Tm → Heap → Prop}

theorem Wp.mono {c : Code} {Q' : Exit → Tm → Heap → Prop} (h : Wp E c T H Q) (hq : ∀ e T H, Q e T H → Q' e T H) : Wp E c T H Q' :=
  fun a w hr => wp_mono (h a w hr) fun _ _ _ ⟨T', H', h1, h2⟩ => ⟨T', H', hq _ _ _ h1, h2⟩
theorem w_skip (h : Q .normal T H) : Wp E .skip T H Q := fun _ _ hr => wp_skip ⟨T, H, h, hr⟩
theorem w_label {l : Nat} (h : Q .normal T H) : Wp E (.label l) T H Q := fun _ _ hr => wp_label ⟨T, H, h, hr⟩
theorem w_exit {i : Nat} (h : Q (.exit i) T H) : Wp E (.exit i) T H Q := fun _ _ hr => wp_exit ⟨T, H, h, hr⟩
theorem w_ret (h : Q .ret T H) : Wp E .ret T H Q := fun _ _ hr => wp_ret ⟨T, H, h, hr⟩
theorem w_seq {x y : Code} (h : Wp E x T H (Thn (fun T H => Wp E y T H Q) Q)) : Wp E (.seq x y) T H Q := by
  intro a w hr
  refine wp_seq (wp_mono (h a w hr) ?_)
  rintro e a' w' ⟨T', H', h1, h2⟩
  cases e with
  | normal => exact h1 a' w' h2
  | exit i => exact ⟨T', H', h1, h2⟩
  | goto l => exact ⟨T', H', h1, h2⟩
  | ret => exact ⟨T', H', h1, h2⟩
  | panic ch => exact ⟨T', H', h1, h2⟩
  | outgrown => exact ⟨T', H', h1, h2⟩
theorem w_block {i : Nat} {c : Code} (h : Wp E c T H (Blo i Q)) : Wp E (.block i c) T H Q := by
  intro a w hr
  refine wp_block (wp_mono (h a w hr) ?_)
  rintro e a' w' ⟨T', H', h1, h2⟩
  cases e with
  | normal => exact ⟨T', H', h1, h2⟩
  | exit j =>
    simp only [Exit.inBlock]
    simp only [Blo] at h1
    split <;> rename_i hj
    · rw [if_pos hj] at h1; exact ⟨T', H', h1, h2⟩
    · rw [if_neg hj] at h1; exact ⟨T', H', h1, h2⟩
  | goto l => exact ⟨T', H', h1, h2⟩
  | ret => exact ⟨T', H', h1, h2⟩
  | panic ch => exact ⟨T', H', h1, h2⟩
  | outgrown => exact ⟨T', H', h1, h2⟩
theorem w_scope {c : Code} (h : Wp E c T H (Sco Q)) : Wp E (.scope c) T H Q := by
  intro a w hr
  refine wp_scope_straight (wp_mono (h a w hr) ?_)
  rintro e a' w' ⟨T', H', h1, h2⟩
  cases e with
  | goto l => exact h1.elim
  | normal => exact ⟨T', H', h1, h2⟩
  | exit j => exact ⟨T', H', h1, h2⟩
  | ret => exact ⟨T', H', h1, h2⟩
  | panic ch => exact ⟨T', H', h1, h2⟩
  | outgrown => exact ⟨T', H', h1, h2⟩

theorem eval_tmp {ρ : Rho} {a : Act} (hT : TRep ρ T a) {t : Nat} {b : Bool} (h : look T t = .s (.bool b)) : a.eval (.tmp t) = .bool b := by
  have := hT t
  rw [h] at this
  exact this
theorem w_cond {t : Nat} {x y : Code} {b : Bool} (hc : look T t = .s (.bool b)) (h1 : b = true → Wp E x T H Q) (h2 : b = false → Wp E y T H Q) : Wp E (.cond (.tmp t) x y) T H Q := by
  intro a w hr
  have hr' := hr
  obtain ⟨ρ, W, p, hn, hT, _⟩ := hr
  exact wp_cond_split (eval_tmp hT hc) (fun e => h1 e a w hr') (fun e => h2 e a w hr')

theorem w_region {id : Nat} {ops : Array Oper} {T' : Tm} {H' : Heap} {fs : Trail} (hok : regionOk E.n ops = true) {l : List Oper} (hl : ops.toList = l) (hs : Steps E.P ops l T H fs T' H') (hq : Q .normal T' H') : Wp E (.region id ops false) T H Q := by
  subst hl
  intro a w hr
  refine wp_region ?_
  have := steps_wpOps (Q := fun e a' w' => ∃ T' H', Q e T' H' ∧ Rep E T' H' a' w') hok hs 0 (fun j => by simp) a w hr (fun a' w' hr' => ⟨T', H', hq, hr'⟩)
  simpa [List.range_eq_range'] using this
theorem w_region_any {id : Nat} {ops : Array Oper} {T' : Tm} {H' : Heap} {fs : Trail} (hmix : E.P.follows .mixedOrders = true) (hok : regionOk E.n ops = true) {l : List Oper} (hl : ops.toList = l)
    (hs : Steps E.P ops l T H fs T' H') (hord : ordOk ops H.length fs = true) (hq : Q .normal T' H') : Wp E (.region id ops true) T H Q :=
  fun _ _ hr => region_any hmix hok hl hs hord hr fun _ _ hr' => ⟨T', H', hq, hr'⟩
end code

def SV.ren (f : Nat → Nat) : SV → SV
  | .ptr id b i => .ptr (f id) b i
  | .slice id b i l c => .slice (f id) b i l c
  | .slx id b i l c => .slx (f id) b i l c
  | .gro id w l => .gro (f id) w l
  | .clo fn n g => .clo fn n fun i => (g i).ren f
  | .ifc t x => .ifc t (x.ren f)
  | x => x
def SV.idB (p : Nat → Bool) : SV → Bool
  | .ptr id _ _ => p id
  | .slice id _ _ _ _ => p id
  | .slx id _ _ _ _ => p id
  | .gro id _ _ => p id
  | .clo _ n g => (List.range n).all fun i => (g i).idB p
  | .ifc _ x => x.idB p
  | _ => true
def Seg.ren (f : Nat → Nat) : Seg → Seg
  | .one v => .one (v.ren f)
  | s => s
def Seg.idB (p : Nat → Bool) : Seg → Bool
  | .one v => v.idB p
  | _ => true
def AV.ren (f : Nat → Nat) : AV → AV
  | .s v => .s (v.ren f)
  | .agg l => .agg (l.map (Seg.ren f))
  | .tup l => .tup (l.map fun | .s v => .s (v.ren f) | .agg l => .agg (l.map (Seg.ren f)) | .tup l => .tup l)
def AV.idB (p : Nat → Bool) : AV → Bool
  | .s v => v.idB p
  | .agg l => l.all (Seg.idB p)
  | .tup l => l.all fun | .s v => v.idB p | .agg l => l.all (Seg.idB p) | .tup _ => true
def Blk.ren (f : Nat → Nat) (b : Blk) : Blk := ⟨b.rw, b.segs.map (Seg.ren f)⟩
structure RenOk (p : Nat → Bool) (f : Nat → Nat) (ρ ρ' : Rho) : Prop where
  m : ∀ id x, p id = true → ρ.m (f id) = some x → ρ'.m id = some x
  fz : ∀ b x, ρ.fz b = some x → ρ'.fz b = some x
  sz : ∀ b x, ρ.sz b = some x → ρ'.sz b = some x
theorem RenOk.noM {p : Nat → Bool} {f : Nat → Nat} {ρ ρ' : Rho} (h : RenOk p f ρ ρ') : Rle ρ.noM ρ'.noM := ⟨fun _ _ e => (by cases e), h.fz, h.sz⟩
theorem SV.rep_ren {p : Nat → Bool} {f : Nat → Nat} {ρ ρ' : Rho} (h : RenOk p f ρ ρ') {x : SV} : ∀ {v : Value}, x.idB p = true → (x.ren f).rep ρ v → x.rep ρ' v := by
  induction x with
  | int | bool | nilp | nils | val | junk => exact fun _ h => h
  | ptr => rintro v hp ⟨b, o, h1, h2⟩; exact ⟨b, o, h.m _ _ hp h1, h2⟩
  | slice => rintro v hp ⟨b, o, h1, h2⟩; exact ⟨b, o, h.m _ _ hp h1, h2⟩
  | slx => rintro v hp ⟨b, o, c, h1, h2⟩; exact ⟨b, o, c, h.m _ _ hp h1, h2⟩
  | gro =>
    rintro v hp (h1 | ⟨b, o, c, n, h1, h2, h3, h4, h5⟩)
    · exact .inl h1
    · exact .inr ⟨b, o, c, n, h.m _ _ hp h1, h2, h3, h.sz _ _ h4, h5⟩
  | clo fn n g ih =>
    rintro v hp ⟨vs, h1, h2, h3⟩
    refine ⟨vs, h1, h2, fun i hi => ?_⟩
    obtain ⟨u, hu, hr⟩ := h3 i hi
    refine ⟨u, hu, ih i ?_ hr⟩
    simp only [SV.idB, List.all_eq_true, List.mem_range] at hp
    exact hp i hi
  | ifc t x ih => rintro v hp ⟨u, h1, h2, h3⟩; exact ⟨u, h1, ih hp h2, h3⟩
  | fzi k l =>
    rintro v hp (h1 | ⟨b, o, c, cs, h1, h2, h3, h4⟩)
    · exact .inl h1
    · exact .inr ⟨b, o, c, cs, h1, h2, h.fz _ _ h3, h4⟩
  | fz n w g ih =>
    rintro v hp (h1 | ⟨b, o, c, cs, h1, h2, h3, h4⟩)
    · exact .inl h1
    · exact .inr ⟨b, o, c, cs, h1, h2, h.fz _ _ h3, fun i j hi hj => let ⟨u, hu, hr, hc⟩ := h4 i j hi hj; ⟨u, hu, SV.rep_le h.noM hr, hc⟩⟩
  | fptr n g base idx ih =>
    rintro v hp ⟨b, o, cs, h1, h3, h4⟩
    exact ⟨b, o, cs, h1, h.fz _ _ h3, fun j hj => let ⟨u, hu, hr, hc⟩ := h4 j hj; ⟨u, hu, SV.rep_le h.noM hr, hc⟩⟩
  | noid x ih => rintro v hp ⟨h1, h2⟩; exact ⟨SV.rep_le h.noM h1, h2⟩
theorem Seg.ren_size (f : Nat → Nat) (s : Seg) : (s.ren f).size = s.size := by cases s <;> rfl
theorem Seg.ren_at (f : Nat → Nat) (s : Seg) (i : Nat) : (s.ren f).at i = (s.at i).ren f := by cases s <;> rfl
theorem atS_ren (f : Nat → Nat) : ∀ (l : List Seg) (i : Nat), atS (l.map (Seg.ren f)) i = (atS l i).map (SV.ren f)
  | [], i => rfl
  | s :: r, i => by
    simp only [List.map_cons, atS, Seg.ren_size, Seg.ren_at]
    by_cases h : i < s.size
    · rw [if_pos h, if_pos h]; rfl
    · rw [if_neg h, if_neg h]; exact atS_ren f r _
theorem sizeS_ren (f : Nat → Nat) : ∀ l : List Seg, sizeS (l.map (Seg.ren f)) = sizeS l
  | [] => rfl
  | s :: r => by simp only [List.map_cons, sizeS, Seg.ren_size, sizeS_ren f r]
theorem atS_idB {p : Nat → Bool} : ∀ {l : List Seg} {i : Nat} {x : SV}, l.all (Seg.idB p) = true → atS l i = some x → x.idB p = true
  | [], _, _, _, h => by simp [atS] at h
  | s :: r, i, x, hb, h => by
    simp only [List.all_cons, Bool.and_eq_true] at hb
    simp only [atS] at h
    by_cases hi : i < s.size
    · rw [if_pos hi] at h
      have h := Option.some.inj h
      subst h
      cases s with
      | one v => exact hb.1
      | ints k m l => rfl
      | rows n w g => rfl
    · rw [if_neg hi] at h
      exact atS_idB hb.2 h
theorem RowRep.ren {p : Nat → Bool} {f : Nat → Nat} {ρ ρ' : Rho} (h : RenOk p f ρ ρ') {l : List Seg} {g : Nat → Option Value} (hp : l.all (Seg.idB p) = true) (hr : RowRep ρ (l.map (Seg.ren f)) g) : RowRep ρ' l g := fun i x hx => by
  obtain ⟨v, h1, h2, h3⟩ := hr i (x.ren f) (by rw [atS_ren, hx]; rfl)
  exact ⟨v, h1, SV.rep_ren h (atS_idB hp hx) h2, h3⟩
theorem AV.rep_ren {p : Nat → Bool} {f : Nat → Nat} {ρ ρ' : Rho} (h : RenOk p f ρ ρ') {x : AV} {v : Value} (hp : x.idB p = true) (hr : (x.ren f).rep ρ v) : x.rep ρ' v := by
  cases x with
  | s x => exact SV.rep_ren h hp hr
  | agg l => obtain ⟨cs, e1, e2, e3⟩ := hr; exact ⟨cs, e1, by rw [e2, sizeS_ren], e3.ren h hp⟩
  | tup l =>
    obtain ⟨vs, e1, e2⟩ := hr
    simp only [AV.idB, List.all_eq_true] at hp
    refine ⟨vs, e1, fun i x hx => ?_⟩
    have hpx := hp x (List.mem_of_getElem? hx)
    obtain ⟨u, hu, hr⟩ := e2 i _ (by rw [List.getElem?_map, hx]; rfl)
    refine ⟨u, hu, ?_⟩
    cases x with
    | s x => exact SV.rep_ren h hpx hr
    | agg l => obtain ⟨cs, e1, e2, e3⟩ := hr; exact ⟨cs, e1, by rw [e2, sizeS_ren], e3.ren h hpx⟩
    | tup q => exact hr.elim

def rn (π : List Nat) (k : Nat) : Nat := π.getD k k
def inB (n : Nat) : Nat → Bool := fun id => Nat.blt id n
def distinct : List Nat → Bool
  | [] => true
  | x :: r => !r.contains x && distinct r
theorem distinct_nodup : ∀ {l : List Nat}, distinct l = true → l.Nodup
  | [], _ => List.nodup_nil
  | x :: r, h => by
    simp only [distinct, Bool.and_eq_true, Bool.not_eq_true', List.contains_eq_mem, decide_eq_false_iff_not] at h
    exact List.nodup_cons.2 ⟨h.1, distinct_nodup h.2⟩
def Weak (E : Env) (T : Tm) (H : Heap) (T' : Tm) (H' : Heap) : Prop := ∀ a w, Rep E T H a w → Rep E T' H' a w
theorem Weak.refl {E : Env} {T : Tm} {H : Heap} : Weak E T H T H := fun _ _ h => h
theorem Weak.trans {E : Env} {T T1 T2 : Tm} {H H1 H2 : Heap} (h : Weak E T H T1 H1) (k : Weak E T1 H1 T2 H2) : Weak E T H T2 H2 := fun a w hr => k a w (h a w hr)

theorem look_mem (T' : Tm) (t : Nat) : look T' t = .s .junk ∨ ∃ p ∈ T', p.1 = t ∧ look T' t = p.2 := by
  induction T' with
  | nil => exact .inl rfl
  | cons p r ih =>
    obtain ⟨j, v⟩ := p
    rw [look_cons]
    by_cases h : j = t
    · exact .inr ⟨(j, v), by simp, h, by simp [h]⟩
    · rw [if_neg h]
      rcases ih with h1 | ⟨p, h1, h2, h3⟩
      · exact .inl h1
      · exact .inr ⟨p, by simp [h1], h2, h3⟩

theorem weakR {E : Env} {T T' : Tm} {H H' : Heap} (π : List Nat) (hT : ∀ p ∈ T', look T p.1 = p.2.ren (rn π) ∧ p.2.idB (inB H'.length) = true)
    (hH : ∀ k b, hget H' k = some b → hget H (rn π k) = some (b.ren (rn π)) ∧ b.segs.all (Seg.idB (inB H'.length)) = true)
    (hd : distinct ((List.range H'.length).map (rn π)) = true) (hE : E.nE ≤ H'.length ∧ ∀ k, k < E.nE → rn π k = k) : Weak E T H T' H' := by
  rintro a w ⟨ρ, W, p, hn, hTr, _⟩
  let ρ' : Rho := ⟨fun k => if k < H'.length then ρ.m (rn π k) else none, ρ.fz, ρ.sz⟩
  have hm : ∀ k x, ρ'.m k = some x → k < H'.length ∧ ρ.m (rn π k) = some x := by
    intro k x hx
    have hx : (if k < H'.length then ρ.m (rn π k) else none) = some x := hx
    split at hx
    · rename_i h; exact ⟨h, hx⟩
    · cases hx
  have hok : RenOk (inB H'.length) (rn π) ρ ρ' := ⟨fun id x h1 h2 => by
    show (if id < H'.length then ρ.m (rn π id) else none) = some x
    rw [if_pos (Nat.blt_eq.mp h1)]; exact h2, fun _ _ h => h, fun _ _ h => h⟩
  have hinj : ∀ i j, i < H'.length → j < H'.length → rn π i = rn π j → i = j := by
    intro i j hi hj e
    have hnd := distinct_nodup hd
    have h1 : ((List.range H'.length).map (rn π))[i]? = some (rn π i) := by simp [hi]
    have h2 : ((List.range H'.length).map (rn π))[j]? = some (rn π i) := by simp [hj, e]
    have l1 := List.getElem?_eq_some_iff.1 h1
    have l2 := List.getElem?_eq_some_iff.1 h2
    exact (List.getElem_inj (h₀ := l1.1) (h₁ := l2.1) hnd).1 (l1.2.trans l2.2.symm)
  refine ⟨ρ', W, ⟨⟨fun id x hx => ?_, p.le.fz, p.le.sz⟩, ⟨fun id b o e => p.rep.lt _ b o (hm _ _ e).2, fun id b o k e1 e2 => ?_, fun id id' b o o' k k' hne e1 e2 e3 e4 => ?_, p.rep.fz, p.rep.sz⟩, p.size, p.defs, p.fr, p.sub, p.fresh, p.fzn, fun id x e => ?_⟩, fun id hid => ?_, fun t => ?_, hE.1⟩
  · have h0 : id < E.nE := by
      rcases Nat.lt_or_ge id E.nE with h | h
      · exact h
      · rw [E.hdom id h] at hx; cases hx
    have h1 : id < H'.length := Nat.lt_of_lt_of_le h0 hE.1
    have h2 := hE.2 id h0
    show (if id < H'.length then ρ.m (rn π id) else none) = some x
    rw [if_pos h1, h2]; exact p.le.m id x hx
  · obtain ⟨h1, h2⟩ := hH id k e2
    obtain ⟨⟨cells, t, fr, g1, g2, g3, g4⟩, hw⟩ := p.rep.rep _ b o _ (hm _ _ e1).2 h1
    exact ⟨⟨cells, t, fr, g1, g2, g3, g4.ren hok h2⟩, hw⟩
  · obtain ⟨h1, h2⟩ := hm _ _ e1
    obtain ⟨h3, h4⟩ := hm _ _ e2
    exact p.rep.apart _ _ b o o' (k.ren (rn π)) (k'.ren (rn π)) (fun e => hne (hinj _ _ h1 h3 e)) h2 h4 (hH id k e3).1 (hH id' k' e4).1
  · obtain ⟨h1, h2⟩ := hm _ _ e
    rcases p.old _ _ h2 with h3 | h3
    · have h0 : rn π id < E.nE := by
        rcases Nat.lt_or_ge (rn π id) E.nE with h | h
        · exact h
        · rw [E.hdom _ h] at h3; cases h3
      have h4 : rn π id < H'.length := Nat.lt_of_lt_of_le h0 hE.1
      have := hinj _ _ h4 h1 (hE.2 _ h0)
      rw [this] at h3
      exact .inl h3
    · refine .inr ⟨?_, h3.2⟩
      rcases Nat.lt_or_ge id E.nE with h4 | h4
      · have := hE.2 id h4; omega
      · exact h4
  · show (if id < H'.length then ρ.m (rn π id) else none) = none
    rw [if_neg (by omega)]
  · rcases look_mem T' t with h | ⟨q, hq, rfl, h⟩
    · rw [h]; trivial
    · rw [h]
      have hr := hTr q.1
      obtain ⟨h1, h2⟩ := hT q hq
      rw [h1] at hr
      exact AV.rep_ren hok h2 hr

def AllLook (T : Tm) (π : List Nat) : Tm → Prop
  | [] => True
  | (i, v) :: r => look T i = v.ren (rn π) ∧ AllLook T π r
def AllGet (H : Heap) (π : List Nat) : Nat → Heap → Prop
  | _, [] => True
  | i, none :: r => AllGet H π (i + 1) r
  | i, some b :: r => hget H (rn π i) = some (b.ren (rn π)) ∧ AllGet H π (i + 1) r
theorem allLook {T T' : Tm} {π : List Nat} (h : AllLook T π T') : ∀ p ∈ T', look T p.1 = p.2.ren (rn π) := by
  induction T' with
  | nil => intro p hp; cases hp
  | cons q r ih =>
    intro p hp
    cases hp with
    | head => exact h.1
    | tail _ hm => exact ih h.2 p hm
theorem allGet {H : Heap} {π : List Nat} : ∀ {H' : Heap} {i : Nat}, AllGet H π i H' → ∀ k b, hget H' k = some b → hget H (rn π (i + k)) = some (b.ren (rn π))
  | [], i, _, k, b, hk => by simp [hget] at hk
  | none :: r, i, h, k, b, hk => by
    cases k with
    | zero => simp [hget] at hk
    | succ k =>
      have := allGet (H' := r) (i := i + 1) h k b (by simpa [hget] using hk)
      rwa [show i + 1 + k = i + (k + 1) by omega] at this
  | some c :: r, i, h, k, b, hk => by
    cases k with
    | zero => simp [hget] at hk; subst hk; exact h.1
    | succ k =>
      have := allGet (H' := r) (i := i + 1) h.2 k b (by simpa [hget] using hk)
      rwa [show i + 1 + k = i + (k + 1) by omega] at this
def knownAll (T' : Tm) (H' : Heap) : Bool := T'.all (fun p => p.2.idB (inB H'.length)) && H'.all fun | none => true | some b => b.segs.all (Seg.idB (inB H'.length))
theorem weak {E : Env} {T T' : Tm} {H H' : Heap} (π : List Nat) (hT : AllLook T π T') (hH : AllGet H π 0 H') (hk : knownAll T' H' = true) (hd : distinct ((List.range H'.length).map (rn π)) = true) (hE : E.nE ≤ H'.length ∧ ((List.range E.nE).all fun k => Nat.beq (rn π k) k) = true) : Weak E T H T' H' := by
  simp only [knownAll, Bool.and_eq_true, List.all_eq_true] at hk
  refine weakR π (fun p hp => ⟨allLook hT p hp, hk.1 p hp⟩) (fun k b hb => ⟨by have := allGet hH k b hb; rwa [Nat.zero_add] at this, ?_⟩) hd ⟨hE.1, fun k hk' => ?_⟩
  · have hm : some b ∈ H' := by
      unfold hget at hb
      cases hq : H'[k]? with
      | none => rw [hq] at hb; cases hb
      | some x => rw [hq] at hb; simp at hb; subst hb; exact List.mem_of_getElem? hq
    have := hk.2 _ hm
    simpa [List.all_eq_true] using this
  · have := hE.2
    simp only [List.all_eq_true, List.mem_range] at this
    exact Nat.eq_of_beq_eq_true (this k hk')

section loops
variable {E : Env} {T : Tm} {H : Heap} {Q : Exit → Tm → Heap → Prop}
theorem w_weak {c : Code} {T' : Tm} {H' : Heap} (hw : Weak E T H T' H') (h : Wp E c T' H' Q) : Wp E c T H Q := fun a w hr => h a w (hw a w hr)

theorem w_loop {c : Code} (I : Nat → Tm → Heap → Prop) (n0 : Nat) (h0 : ∃ T' H', Weak E T H T' H' ∧ I n0 T' H')
    (round : ∀ n T H, I n T H → Wp E c T H (Thn (fun T1 H1 => ∃ n', n' < n ∧ ∃ T2 H2, Weak E T1 H1 T2 H2 ∧ I n' T2 H2) Q)) : Wp E (.loop c) T H Q := by
  intro a w hr
  obtain ⟨T', H', hw, hI⟩ := h0
  refine wp_loop_ghost (fun n a w => ∃ T H, I n T H ∧ Rep E T H a w) n0 ⟨T', H', hI, hw a w hr⟩ ?_
  rintro n a w ⟨T, H, hI, hr⟩
  refine wp_mono (round n T H hI a w hr) ?_
  rintro e a' w' ⟨T1, H1, h1, h2⟩
  cases e with
  | normal =>
    obtain ⟨n', hlt, T2, H2, hw2, hI2⟩ := h1
    exact ⟨n', hlt, T2, H2, hI2, hw2 _ _ h2⟩
  | exit i => exact ⟨T1, H1, h1, h2⟩
  | goto l => exact ⟨T1, H1, h1, h2⟩
  | ret => exact ⟨T1, H1, h1, h2⟩
  | panic ch => exact ⟨T1, H1, h1, h2⟩
  | outgrown => exact ⟨T1, H1, h1, h2⟩
theorem c_loop {c : Code} (I : Nat → Tm → Heap → Prop) (n0 : Nat) {T' : Tm} {H' : Heap} (h0 : I n0 T' H') (hw : Weak E T H T' H')
    (round : ∀ n T H, I n T H → Wp E c T H (Thn (fun T1 H1 => ∃ n', n' < n ∧ ∃ T2 H2, Weak E T1 H1 T2 H2 ∧ I n' T2 H2) Q)) : Wp E (.loop c) T H Q := w_loop I n0 ⟨T', H', hw, h0⟩ round
theorem n_round {I : Nat → Tm → Heap → Prop} {n : Nat} {T2 : Tm} {H2 : Heap} (n' : Nat) (hn : n' < n) (hI : I n' T2 H2) (hw : Weak E T H T2 H2) : Thn (fun T1 H1 => ∃ n', n' < n ∧ ∃ T2 H2, Weak E T1 H1 T2 H2 ∧ I n' T2 H2) Q .normal T H := ⟨n', hn, T2, H2, hw, hI⟩
theorem w_cut {x y : Code} (J : Tm → Heap → Prop) (h1 : Wp E x T H (Thn (fun T1 H1 => ∃ T2 H2, Weak E T1 H1 T2 H2 ∧ J T2 H2) Q)) (h2 : ∀ T H, J T H → Wp E y T H Q) : Wp E x T H (Thn (fun T H => Wp E y T H Q) Q) := by
  refine h1.mono ?_
  rintro e T1 H1 he
  cases e with
  | normal => obtain ⟨T2, H2, k1, k2⟩ := he; exact w_weak k1 (h2 T2 H2 k2)
  | exit i => exact he
  | goto l => exact he
  | ret => exact he
  | panic ch => exact he
  | outgrown => exact he
theorem n_cut {J : Tm → Heap → Prop} {T2 : Tm} {H2 : Heap} (hJ : J T2 H2) (hw : Weak E T H T2 H2) : Thn (fun T1 H1 => ∃ T2 H2, Weak E T1 H1 T2 H2 ∧ J T2 H2) Q .normal T H := ⟨T2, H2, hw, hJ⟩
end loops

def SK (P : Program) (ops : Array Oper) (l : List Oper) (T : Tm) (H : Heap) (ok : Trail → Prop) (K : Tm → Heap → Prop) : Prop := ∃ fs T' H', Steps P ops l T H fs T' H' ∧ ok fs ∧ K T' H'
section steps
variable {P : Program} {ops : Array Oper} {T : Tm} {H : Heap} {ty : TypeId} {pos : String} {af : Array Edge} {r : List Oper} {op : Op} {ok : Trail → Prop} {K : Tm → Heap → Prop}
theorem s_nil (ho : ok []) (h : K T H) : SK P ops [] T H ok K := ⟨[], T, H, .nil, ho, h⟩
theorem s_op {d : Nat} {H1 : Heap} {v : AV} {F M : List Nat} (h : LOk P ⟨some d, op, ty, pos, af, none⟩ T H H1 v F M) (k : SK P ops r ((d, v) :: T) H1 (fun fs => ok ((F, M, H1.length - H.length) :: fs)) K) : SK P ops (⟨some d, op, ty, pos, af, none⟩ :: r) T H ok K :=
  let ⟨fs, T', H', k1, k2, k3⟩ := k
  ⟨_, T', H', .cons (.free rfl) h k1, k2, k3⟩
theorem s_st {H1 : Heap} {v : AV} {F M : List Nat} (h : LOk P ⟨none, op, ty, pos, af, none⟩ T H H1 v F M) (k : SK P ops r T H1 (fun fs => ok ((F, M, H1.length - H.length) :: fs)) K) : SK P ops (⟨none, op, ty, pos, af, none⟩ :: r) T H ok K :=
  let ⟨fs, T', H', k1, k2, k3⟩ := k
  ⟨_, T', H', .cons (.free rfl) h k1, k2, k3⟩
theorem s_on {dd : Option Tmp} {j t : Nat} {b B : Bool} {H1 : Heap} {v : AV} {F M : List Nat} (ht : (ops[j]?).bind (·.dst) = some t) (hv : look T t = .s (.bool B)) (hB : B = b) (h : LOk P ⟨dd, op, ty, pos, af, some (j, b)⟩ T H H1 v F M) (k : SK P ops r (put T dd v) H1 (fun fs => ok ((F, M, H1.length - H.length) :: fs)) K) : SK P ops (⟨dd, op, ty, pos, af, some (j, b)⟩ :: r) T H ok K :=
  let ⟨fs, T', H', k1, k2, k3⟩ := k
  ⟨_, T', H', .cons (.on rfl ht hv hB) h k1, k2, k3⟩
theorem s_off {dd : Option Tmp} {j t : Nat} {b B : Bool} (ht : (ops[j]?).bind (·.dst) = some t) (hv : look T t = .s (.bool B)) (hB : B = !b) (k : SK P ops r (put T dd (.s .junk)) H (fun fs => ok (([], [], 0) :: fs)) K) : SK P ops (⟨dd, op, ty, pos, af, some (j, b)⟩ :: r) T H ok K :=
  let ⟨fs, T', H', k1, k2, k3⟩ := k
  ⟨_, T', H', .skip (.off rfl ht hv hB) k1, k2, k3⟩
theorem s_opt {d : Nat} {j t : Nat} {B : Bool} {v : AV} {F : List Nat} (ht : (ops[j]?).bind (·.dst) = some t) (hv : look T t = .s (.bool B)) (h : B = true → LOk P ⟨some d, op, ty, pos, af, some (j, true)⟩ T H H v F []) (k : SK P ops r ((d, bif B then v else .s .junk) :: T) H (fun fs => ok ((F, [], 0) :: fs)) K) : SK P ops (⟨some d, op, ty, pos, af, some (j, true)⟩ :: r) T H ok K := by
  obtain ⟨fs, T', H', k1, k2, k3⟩ := k
  cases B with
  | false => exact ⟨_, T', H', .skip (.off rfl ht hv rfl) k1, k2, k3⟩
  | true => exact ⟨_, T', H', by have := Steps.cons (ops := ops) (.on rfl ht hv rfl) (h rfl) k1; rwa [Nat.sub_self] at this, k2, k3⟩
theorem s_heap {l : List Oper} {H' : Heap} (e : H = H') (k : SK P ops l T H' ok K) : SK P ops l T H ok K := e ▸ k
end steps
section code
variable {E : Env} {T : Tm} {H : Heap} {Q : Exit → Tm → Heap → Prop} {K : Tm → Heap → Prop}
theorem c_reg {id : Nat} {ops : Array Oper} {l : List Oper} (hok : regionOk E.n ops = true) (hl : ops.toList = l) (h : SK E.P ops l T H (fun _ => True) (Q .normal)) : Wp E (.region id ops false) T H Q :=
  let ⟨_, _, _, k1, _, k2⟩ := h
  w_region hok hl k1 k2
theorem c_any {id : Nat} {ops : Array Oper} {l : List Oper} (hmix : E.P.follows .mixedOrders = true) (hok : regionOk E.n ops = true) (hl : ops.toList = l) (h : SK E.P ops l T H (fun fs => ordOk ops H.length fs = true) (Q .normal)) : Wp E (.region id ops true) T H Q :=
  let ⟨_, _, _, k1, k2, k3⟩ := h
  w_region_any hmix hok hl k1 k2 k3
theorem n_wp {y : Code} (h : Wp E y T H Q) : Thn (fun T H => Wp E y T H Q) Q .normal T H := h
theorem n_blo {i : Nat} (h : Q .normal T H) : Blo i Q .normal T H := h
theorem x_thn {i : Nat} (h : Q (.exit i) T H) : Thn K Q (.exit i) T H := h
theorem x_eq {i : Nat} (h : Q .normal T H) : Blo i Q (.exit i) T H := by simp only [Blo, if_true]; exact h
theorem x_ne {i j : Nat} (hn : (Nat.beq j i) = false) (h : Q (.exit j) T H) : Blo i Q (.exit j) T H := by
  have : j ≠ i := by intro e; subst e; simp at hn
  simp only [Blo, if_neg this]; exact h
theorem r_thn (h : Q .ret T H) : Thn K Q .ret T H := h
theorem r_blo {i : Nat} (h : Q .ret T H) : Blo i Q .ret T H := h
theorem r_sco (h : Q .ret T H) : Sco Q .ret T H := h
end code
end Go.Bx
end

section
/- Calls: contracts, entry, results; what is frozen by the way. No program. -/
namespace Go.Bx

def ArgsRep (ρ : Rho) (args : List AV) (vals : Array Value) : Prop := vals.size = args.length ∧ ∀ (i : Nat) (x : AV), args[i]? = some x → x.rep ρ (vals.getD i undef)

structure Con (P : Program) (f : FuncId) (args : List AV) (H : Heap) (v : AV) (H' : Heap) : Prop where
  len : H.length ≤ H'.length
  run : ∀ (W : Nat → Prop) (ρ : Rho) (vals : Array Value) (w : World), HRep W ρ (hget H) w → (∀ id, H.length ≤ id → ρ.m id = none) → (∀ b, w.heap.size ≤ b → W b) → ArgsRep ρ args vals →
    Calls P f vals w fun e w' => ∃ v' ρ' W', e = .returned v' ∧ Nx H.length H'.length ρ ρ' W W' (hget H') w w' ∧ v.rep ρ' v'

def argT : Nat → List AV → Tm
  | _, [] => []
  | i, v :: r => (i, v) :: argT (i + 1) r
theorem look_argT : ∀ (l : List AV) (i t : Nat), look (argT i l) t = if i ≤ t then (l[t - i]?).getD (.s .junk) else .s .junk
  | [], i, t => by simp [argT, look]
  | v :: r, i, t => by
    simp only [argT, look_cons, look_argT r (i + 1) t]
    by_cases h : i = t
    · subst h; simp
    · rw [if_neg h]
      by_cases h2 : i + 1 ≤ t
      · rw [if_pos h2, if_pos (by omega), show t - i = (t - (i + 1)) + 1 by omega]; simp
      · rw [if_neg h2, if_neg (by omega)]

def Ret (P : Program) (fn : Func) (T : Tm) (H : Heap) (v : AV) : Prop :=
  ∀ (W : Nat → Prop) (ρ : Rho) (a : Act) (w : World), HRep W ρ (hget H) w → TRep ρ T a → ∃ v', (results fn a.tmps).run P w = .ok v' w ∧ v.rep ρ v'
def DoneC (E : Env) (fn : Func) (v : AV) (H' : Heap) : Exit → Tm → Heap → Prop := fun e T H => (e = .ret ∨ e = .normal) ∧ ∃ T1, Weak E T H T1 H' ∧ Ret E.P fn T1 H' v

theorem leaves_marks {P : Program} {fn : Func} {tmps : Array Value} {R : Ending → World → Prop} {w0 : World} {Φ : World → Prop} (hΦ : ∀ w D, Φ w → w0.heap.size ≤ D → w.heap[D]? = some (.deferred (some [])) → Φ (w.putObj D (.deferred none)))
    (hres : ∀ w, Φ w → ∃ v, (results fn tmps).run P w = .ok v w ∧ R (.returned v) w) :
    ∀ (ds : List Deferred) (w : World), DefOk w0 ds w → Φ w → LeavesInM Fence.wide 0 P fn tmps R ds .returning w := by
  intro ds
  induction ds with
  | nil =>
    intro w _ hH
    exact hres w hH
  | cons d ds ih =>
    intro w hd hH
    obtain ⟨D, e1, e2, e3⟩ := hd.mark d (by simp)
    refine ⟨by simp, .inl ⟨D, w.putObj D (.deferred none), by rw [e1], run_takeDeferred e3, ih _ ⟨(List.nodup_cons.1 hd.nodup).2, fun d' hd' => ?_⟩ (hΦ w D hH e2 e3)⟩⟩
    obtain ⟨D', f1, f2, f3⟩ := hd.mark d' (by simp [hd'])
    refine ⟨D', f1, f2, ?_⟩
    rw [World.putObj_heap_other]
    · exact f3
    · intro e
      subst e
      rw [← e1] at f1
      subst f1
      exact (List.nodup_cons.1 hd.nodup).1 hd'

inductive Res where
  | tmp (t : Nat)
  | cell (p : Nat) (ty : TypeId)
theorem ret_tmp {P : Program} {fn : Func} {T : Tm} {H : Heap} {v : AV} {t : Nat} (hr : fn.results = #[.tmp t]) (hv : look T t = v) : Ret P fn T H v := by
  intro W ρ a w hH hT
  refine ⟨a.tmps.getD t undef, by simp [results, hr, Sem.run_bind], ?_⟩
  rw [← hv]; exact hT t
theorem ret_none {P : Program} {fn : Func} {T : Tm} {H : Heap} (hr : fn.results = #[]) : Ret P fn T H (.tup []) := by
  intro W ρ a w hH hT
  exact ⟨.tuple #[], by simp [results, hr, Sem.run_bind], #[], rfl, fun i x h => by simp at h⟩
end Go.Bx
end

section
/- A call, by a contract: what is handed in, told as the contract wants it. No program. -/
namespace Go.Bx

def AConv (R : List Nat) (H : Heap) (x y : AV) : Prop := ∀ (c : Nat → Option Blk) (W : Nat → Prop) (ρ : Rho) (w : World) (u : Value), (∀ id ∈ R, c id = hget H id) → HRep W ρ c w → x.rep ρ u → y.rep ρ u
theorem AConv.same {H : Heap} {x : AV} : AConv [] H x x := fun _ _ _ _ _ _ _ h => h
theorem AConv.eq {H : Heap} {x y : AV} (e : x = y) : AConv [] H x y := e ▸ .same
theorem AConv.sub {R R' : List Nat} {H : Heap} {x y : AV} (h : AConv R H x y) (hs : ∀ id ∈ R, id ∈ R') : AConv R' H x y := fun c W ρ w u hc => h c W ρ w u fun id hi => hc id (hs id hi)
theorem AConv.trans {R1 R2 : List Nat} {H : Heap} {x y z : AV} (h : AConv R1 H x y) (k : AConv R2 H y z) : AConv (R1 ++ R2) H x z := fun c W ρ w u hc hH hr =>
  k c W ρ w u (fun id hi => hc id (by simp [hi])) hH (h c W ρ w u (fun id hi => hc id (by simp [hi])) hH hr)
theorem conv_nil {H : Heap} {k : IntKind} : AConv [] H (.s .nils) (.s (.fzi k [])) := fun _ _ _ _ _ _ _ h => .inl ⟨rfl, none, 0, h⟩
theorem conv_sl {H : Heap} {id base idx len cap n : Nat} {k : Blk} {kk : IntKind} {l l' : List Int} (hb : hget H id = some k) (hro : k.rw = false) (hs : segAt k.segs base = some (.ints kk n l)) (hn : idx + len ≤ n) (hc : len ≤ cap) (hl : l.length = n) (hl' : (l.drop idx).take len = l') :
    AConv [id] H (.s (.slice id base idx len cap)) (.s (.fzi kk l')) := by
  subst hl'
  rintro c W ρ w u hcc hH ⟨b, o, h1, rfl⟩
  obtain ⟨⟨cells, t, fr, g1, g2, g3, g4⟩, _⟩ := hH.rep id b o k h1 ((hcc id (by simp)).trans hb)
  have hlen : ((l.drop idx).take len).length = len := by simp; omega
  refine .inr ⟨b, o + base + idx, cap, cells, by rw [hlen], by rw [hlen]; exact hc, g3 hro, fun i hi => ?_⟩
  rw [hlen] at hi
  obtain ⟨v, hv, hr⟩ := g4 (base + (idx + i)) _ (segAt_at hs (idx + i) (by show idx + i < n; omega))
  have hr : v = .int kk (l.getD (idx + i) 0) := hr.1
  have hv : cells[o + (base + (idx + i))]? = some v := hv
  rw [show o + base + idx + i = o + (base + (idx + i)) by omega, hv, hr]
  congr 2
  rw [List.getD_eq_getElem?_getD, List.getD_eq_getElem?_getD, List.getElem?_take_of_lt hi, List.getElem?_drop]
theorem noM_ren {p : Nat → Bool} (hp : ∀ id, p id = false) (ρ : Rho) : RenOk p (fun i => i) ρ ρ.noM := ⟨fun id _ h => (by rw [hp] at h; cases h), fun _ _ h => h, fun _ _ h => h⟩
theorem SV.ren_id (x : SV) : x.ren (fun i => i) = x := by
  induction x with
  | clo f n g ih => simp only [SV.ren]; congr; funext i; exact ih i
  | ifc t x ih => simp only [SV.ren, ih]
  | _ => rfl
theorem SV.to_noM {x : SV} {ρ : Rho} {v : Value} (hx : x.idB (fun _ => false) = true) (h : x.rep ρ v) : x.rep ρ.noM v := SV.rep_ren (noM_ren (fun _ => rfl) ρ) hx (by rwa [SV.ren_id])
theorem conv_ptr {H : Heap} {id base idx n : Nat} {k : Blk} (hb : hget H id = some k) (hro : k.rw = false) (hn : sizeS k.segs = n) (hid : k.segs.all (Seg.idB fun _ => false) = true) :
    AConv [id] H (.s (.ptr id base idx)) (.s (.fptr n (cellsF k.segs) base idx)) := by
  subst hn
  rintro c W ρ w u hcc hH ⟨b, o, h1, rfl⟩
  obtain ⟨⟨cells, t, fr, g1, g2, g3, g4⟩, _⟩ := hH.rep id b o k h1 ((hcc id (by simp)).trans hb)
  refine ⟨b, o, cells, rfl, g3 hro, fun j hj => ?_⟩
  obtain ⟨x, hx⟩ := atS_some hj
  obtain ⟨v, hv, hr⟩ := g4 j x hx
  refine ⟨v, hv, ?_, hr.2⟩
  simp only [cellsF, hx, Option.getD_some]
  exact SV.to_noM (atS_idB hid hx) hr.1
theorem conv_rows {H : Heap} {R : List Nat} {id base idx len cap wd : Nat} {k : Blk} {g : Nat → Nat → SV} (hb : hget H id = some k) (hro : k.rw = false) (hc : len ≤ cap)
    (hg : ∀ i j, i < len → j < wd → ∃ x, atS k.segs (base + idx + (i * wd + j)) = some x ∧ AConv R H (.s x) (.s (g i j)) ∧ (g i j).idB (fun _ => false) = true) :
    AConv (id :: R) H (.s (.slice id base idx len cap)) (.s (.fz len wd g)) := by
  rintro c W ρ w u hcc hH ⟨b, o, h1, rfl⟩
  obtain ⟨⟨cells, t, fr, g1, g2, g3, g4⟩, _⟩ := hH.rep id b o k h1 ((hcc id (by simp)).trans hb)
  refine .inr ⟨b, o + base + idx, cap, cells, rfl, hc, g3 hro, fun i j hi hj => ?_⟩
  obtain ⟨x, hx, hcv, hid⟩ := hg i j hi hj
  obtain ⟨v, hv, hr⟩ := g4 _ x hx
  have hv : cells[o + (base + idx + (i * wd + j))]? = some v := hv
  refine ⟨v, by rw [show o + base + idx + (i * wd + j) = o + (base + idx + (i * wd + j)) by omega]; exact hv, ?_, hr.2⟩
  exact SV.to_noM hid (hcv c W ρ w v (fun q hq => hcc q (by simp [hq])) hH hr.1)
inductive SegC (R : List Nat) (H : Heap) : List Seg → List Seg → Prop
  | nil : SegC R H [] []
  | one {x y r s} (h : AConv R H (.s x) (.s y)) (k : SegC R H r s) : SegC R H (.one x :: r) (.one y :: s)
  | same {x r s} (k : SegC R H r s) : SegC R H (x :: r) (x :: s)
theorem SegC.at {R : List Nat} {H : Heap} {l m : List Seg} (h : SegC R H l m) : sizeS m = sizeS l ∧ ∀ i y, atS m i = some y → ∃ x, atS l i = some x ∧ AConv R H (.s x) (.s y) := by
  induction h with
  | nil => exact ⟨rfl, fun i y h => by simp [atS] at h⟩
  | @one x y r s h k ih =>
    refine ⟨by simp [sizeS, Seg.size, ih.1], fun i z hz => ?_⟩
    cases i with
    | zero => simp [atS, Seg.size, Seg.at] at hz; subst hz; exact ⟨x, by simp [atS, Seg.size, Seg.at], h⟩
    | succ i =>
      simp [atS, Seg.size] at hz
      obtain ⟨q, hq, hc⟩ := ih.2 i z hz
      exact ⟨q, by simp [atS, Seg.size, hq], hc⟩
  | @same x r s k ih =>
    refine ⟨by simp [sizeS, ih.1], fun i z hz => ?_⟩
    simp only [atS] at hz ⊢
    by_cases hi : i < x.size
    · rw [if_pos hi] at hz ⊢; exact ⟨z, hz, fun _ _ _ _ _ _ _ h => h⟩
    · rw [if_neg hi] at hz ⊢; exact ih.2 _ z hz
inductive ConvL (T : Tm) (H : Heap) : List Nat → List Operand → List AV → Prop
  | nil : ConvL T H [] [] []
  | cons {x u a R1 R2 xs as} (hx : ev T x = u) (h : AConv R1 H u a) (k : ConvL T H R2 xs as) : ConvL T H (R1 ++ R2) (x :: xs) (a :: as)
theorem ConvL.get {T : Tm} {H : Heap} {R : List Nat} {xs : List Operand} {as : List AV} (h : ConvL T H R xs as) : xs.length = as.length ∧ ∀ (i : Nat) (x : Operand) (a : AV), xs[i]? = some x → as[i]? = some a → AConv R H (ev T x) a := by
  induction h with
  | nil => exact ⟨rfl, fun i x a h => by simp at h⟩
  | @cons x u a R1 R2 xs as hx h k ih =>
    refine ⟨by simp [ih.1], fun i y b hy hb => ?_⟩
    cases i with
    | zero => simp at hy hb; subst hy; subst hb; rw [hx]; exact h.sub fun id hi => by simp [hi]
    | succ i => simp at hy hb; exact (ih.2 i y b hy hb).sub fun id hi => by simp [hi]

structure FwdOk (p : Nat → Bool) (f : Nat → Nat) (ρ ρ' : Rho) : Prop where
  m : ∀ id x, p id = true → ρ.m id = some x → ρ'.m (f id) = some x
  fz : ∀ b x, ρ.fz b = some x → ρ'.fz b = some x
  sz : ∀ b x, ρ.sz b = some x → ρ'.sz b = some x
theorem FwdOk.noM {p : Nat → Bool} {f : Nat → Nat} {ρ ρ' : Rho} (h : FwdOk p f ρ ρ') : Rle ρ.noM ρ'.noM := ⟨fun _ _ e => (by cases e), h.fz, h.sz⟩
theorem SV.rep_fwd {p : Nat → Bool} {f : Nat → Nat} {ρ ρ' : Rho} (h : FwdOk p f ρ ρ') {x : SV} : ∀ {v : Value}, x.idB p = true → x.rep ρ v → (x.ren f).rep ρ' v := by
  induction x with
  | int | bool | nilp | nils | val | junk => exact fun _ h => h
  | ptr => rintro v hp ⟨b, o, h1, h2⟩; exact ⟨b, o, h.m _ _ hp h1, h2⟩
  | slice => rintro v hp ⟨b, o, h1, h2⟩; exact ⟨b, o, h.m _ _ hp h1, h2⟩
  | slx => rintro v hp ⟨b, o, c, h1, h2⟩; exact ⟨b, o, c, h.m _ _ hp h1, h2⟩
  | gro =>
    rintro v hp (h1 | ⟨b, o, c, n, h1, h2, h3, h4, h5⟩)
    · exact .inl h1
    · exact .inr ⟨b, o, c, n, h.m _ _ hp h1, h2, h3, h.sz _ _ h4, h5⟩
  | clo fn n g ih =>
    rintro v hp ⟨vs, h1, h2, h3⟩
    refine ⟨vs, h1, h2, fun i hi => ?_⟩
    obtain ⟨u, hu, hr⟩ := h3 i hi
    refine ⟨u, hu, ih i ?_ hr⟩
    simp only [SV.idB, List.all_eq_true, List.mem_range] at hp
    exact hp i hi
  | ifc t x ih => rintro v hp ⟨u, h1, h2, h3⟩; exact ⟨u, h1, ih hp h2, h3⟩
  | fzi k l =>
    rintro v hp (h1 | ⟨b, o, c, cs, h1, h2, h3, h4⟩)
    · exact .inl h1
    · exact .inr ⟨b, o, c, cs, h1, h2, h.fz _ _ h3, h4⟩
  | fz n w g ih =>
    rintro v hp (h1 | ⟨b, o, c, cs, h1, h2, h3, h4⟩)
    · exact .inl h1
    · exact .inr ⟨b, o, c, cs, h1, h2, h.fz _ _ h3, fun i j hi hj => let ⟨u, hu, hr, hc⟩ := h4 i j hi hj; ⟨u, hu, SV.rep_le h.noM hr, hc⟩⟩
  | fptr n g base idx ih =>
    rintro v hp ⟨b, o, cs, h1, h3, h4⟩
    exact ⟨b, o, cs, h1, h.fz _ _ h3, fun j hj => let ⟨u, hu, hr, hc⟩ := h4 j hj; ⟨u, hu, SV.rep_le h.noM hr, hc⟩⟩
  | noid x ih => rintro v hp ⟨h1, h2⟩; exact ⟨SV.rep_le h.noM h1, h2⟩
theorem RowRep.fwd {p : Nat → Bool} {f : Nat → Nat} {ρ ρ' : Rho} (h : FwdOk p f ρ ρ') {l : List Seg} {g : Nat → Option Value} (hp : l.all (Seg.idB p) = true) (hr : RowRep ρ l g) : RowRep ρ' (l.map (Seg.ren f)) g := fun i y hy => by
  rw [atS_ren, Option.map_eq_some_iff] at hy
  obtain ⟨x, hx, rfl⟩ := hy
  obtain ⟨v, h1, h2, h3⟩ := hr i x hx
  exact ⟨v, h1, SV.rep_fwd h (atS_idB hp hx) h2, h3⟩
theorem AV.rep_fwd {p : Nat → Bool} {f : Nat → Nat} {ρ ρ' : Rho} (h : FwdOk p f ρ ρ') {x : AV} {v : Value} (hp : x.idB p = true) (hr : x.rep ρ v) : (x.ren f).rep ρ' v := by
  cases x with
  | s x => exact SV.rep_fwd h hp hr
  | agg l => obtain ⟨cs, e1, e2, e3⟩ := hr; exact ⟨cs, e1, by rw [e2, sizeS_ren], e3.fwd h hp⟩
  | tup l =>
    obtain ⟨vs, e1, e2⟩ := hr
    simp only [AV.idB, List.all_eq_true] at hp
    refine ⟨vs, e1, fun i y hy => ?_⟩
    rw [List.getElem?_map, Option.map_eq_some_iff] at hy
    obtain ⟨x, hx, rfl⟩ := hy
    have hpx := hp x (List.mem_of_getElem? hx)
    obtain ⟨u, hu, hr⟩ := e2 i x hx
    refine ⟨u, hu, ?_⟩
    cases x with
    | s x => exact SV.rep_fwd h hpx hr
    | agg l => obtain ⟨cs, e1, e2, e3⟩ := hr; exact ⟨cs, e1, by rw [e2, sizeS_ren], e3.fwd h hpx⟩
    | tup q => exact hr.elim

def muts : List Nat → Heap → Nat → List (Nat × Nat)
  | x :: r, some b :: H0, k => bif b.rw then (x, k) :: muts r H0 (k + 1) else muts r H0 (k + 1)
  | _ :: r, none :: H0, k => muts r H0 (k + 1)
  | _, _, _ => []
theorem muts_mem : ∀ {σ : List Nat} {H0 : Heap} {k : Nat} {p : Nat × Nat}, p ∈ muts σ H0 k → k ≤ p.2 ∧ σ[p.2 - k]? = some p.1 ∧ ∃ b, hget H0 (p.2 - k) = some b ∧ b.rw = true
  | [], _, _, _, h => by simp [muts] at h
  | x :: r, [], _, _, h => by simp [muts] at h
  | x :: r, none :: H0, k, p, h => by
    obtain ⟨h1, h2, b, h3, h4⟩ := muts_mem (σ := r) (H0 := H0) (k := k + 1) h
    rw [show p.2 - k = (p.2 - (k + 1)) + 1 by omega]
    exact ⟨by omega, by simpa using h2, b, by simpa [hget] using h3, h4⟩
  | x :: r, some b :: H0, k, p, h => by
    simp only [muts] at h
    have tail : p ∈ muts r H0 (k + 1) → k ≤ p.2 ∧ (x :: r)[p.2 - k]? = some p.1 ∧ ∃ b', hget (some b :: H0) (p.2 - k) = some b' ∧ b'.rw = true := by
      intro h
      obtain ⟨h1, h2, b', h3, h4⟩ := muts_mem (σ := r) (H0 := H0) (k := k + 1) h
      rw [show p.2 - k = (p.2 - (k + 1)) + 1 by omega]
      exact ⟨by omega, by simpa using h2, b', by simpa [hget] using h3, h4⟩
    cases hb : b.rw with
    | true =>
      rw [hb] at h
      simp only [cond_true, List.mem_cons] at h
      rcases h with rfl | h
      · exact ⟨Nat.le_refl _, by simp, b, by simp [hget], hb⟩
      · exact tail h
    | false =>
      rw [hb] at h
      exact tail h
theorem muts_of : ∀ {σ : List Nat} {H0 : Heap} {k i id : Nat} {b : Blk}, σ[i]? = some id → hget H0 i = some b → b.rw = true → (id, k + i) ∈ muts σ H0 k
  | [], _, _, _, _, _, h, _, _ => by simp at h
  | x :: r, [], _, i, _, _, _, h, _ => by simp [hget] at h
  | x :: r, none :: H0, k, i, id, b, h1, h2, h3 => by
    cases i with
    | zero => simp [hget] at h2
    | succ i =>
      have := muts_of (σ := r) (H0 := H0) (k := k + 1) (i := i) (by simpa using h1) (by simpa [hget] using h2) h3
      rwa [show k + 1 + i = k + (i + 1) by omega] at this
  | x :: r, some c :: H0, k, i, id, b, h1, h2, h3 => by
    cases i with
    | zero =>
      simp [hget] at h1 h2
      subst h1; subst h2
      simp [muts, h3]
    | succ i =>
      have := muts_of (σ := r) (H0 := H0) (k := k + 1) (i := i) (by simpa using h1) (by simpa [hget] using h2) h3
      rw [show k + 1 + i = k + (i + 1) by omega] at this
      simp only [muts]
      cases c.rw with
      | true => exact List.mem_cons_of_mem _ this
      | false => exact this
def setAll : Heap → List (Nat × Nat) → Heap → (Nat → Nat) → Heap
  | H, [], _, _ => H
  | H, (id, k) :: r, H1, f => setAll (H.set id ((hget H1 k).map (Blk.ren f))) r H1 f
def renAll (f : Nat → Nat) : Heap → Heap
  | [] => []
  | b :: r => b.map (Blk.ren f) :: renAll f r
theorem renAll_get (f : Nat → Nat) : ∀ (H : Heap) (i : Nat), hget (renAll f H) i = (hget H i).map (Blk.ren f)
  | [], i => by simp [renAll, hget]
  | b :: r, i => by
    cases i with
    | zero => simp [renAll, hget]
    | succ i => have := renAll_get f r i; simpa [renAll, hget] using this
theorem renAll_len (f : Nat → Nat) : ∀ H : Heap, (renAll f H).length = H.length
  | [] => rfl
  | _ :: r => by simp [renAll, renAll_len f r]
theorem setAll_len : ∀ (l : List (Nat × Nat)) (H H1 : Heap) (f : Nat → Nat), (setAll H l H1 f).length = H.length
  | [], _, _, _ => rfl
  | _ :: r, H, H1, f => by simp only [setAll]; rw [setAll_len r]; simp
theorem setAll_out : ∀ {l : List (Nat × Nat)} {H H1 : Heap} {f : Nat → Nat} {id : Nat}, id ∉ l.map (·.1) → hget (setAll H l H1 f) id = hget H id
  | [], _, _, _, _, _ => rfl
  | (j, k) :: r, H, H1, f, id, h => by
    simp only [List.map_cons, List.mem_cons, not_or] at h
    simp only [setAll]
    rw [setAll_out h.2]
    unfold hget
    rw [List.getElem?_set_ne (fun e => h.1 e.symm)]
theorem setAll_in : ∀ {l : List (Nat × Nat)} {H H1 : Heap} {f : Nat → Nat} {id k : Nat}, (l.map (·.1)).Nodup → (id, k) ∈ l → id < H.length → hget (setAll H l H1 f) id = (hget H1 k).map (Blk.ren f)
  | (j, q) :: r, H, H1, f, id, k, hn, h, hl => by
    simp only [List.map_cons, List.nodup_cons] at hn
    simp only [setAll]
    rcases List.mem_cons.1 h with e | h
    · cases e
      rw [setAll_out hn.1, hget_set hl, if_pos rfl]
    · exact setAll_in hn.2 h (by simpa using hl)
def nmsF (σ : List Nat) (n : Nat) : Nat → Nat := fun k => match σ[k]? with
  | some id => id
  | none => n + (k - σ.length)
def aftH (H : Heap) (σ : List Nat) (H0 H1 : Heap) : Heap := setAll H (muts σ H0 0) H1 (nmsF σ H.length) ++ renAll (nmsF σ H.length) (H1.drop H0.length)

def Callable (P : Program) (f : FuncId) : Prop := ∃ fn, P.funcs[f]? = some fn ∧ (fn.name == "runtime.NumGoroutine") = false ∧ fn.body.isNone = false
theorem run_callFunc {P : Program} {f : FuncId} (hf : Callable P f) (vals : Array Value) (w : World) : (callFunc f vals).run P w = .ok (.enter f vals) w := by
  obtain ⟨fn, h1, h2, h3⟩ := hf
  have h2' : ¬ fn.name = "runtime.NumGoroutine" := by simpa using h2
  have h3' : ¬ fn.body = none := by intro h; rw [h] at h3; simp at h3
  simp [callFunc, Sem.run_bind, h1, h2', h3']

theorem hget_drop (H : Heap) (n i : Nat) : hget (H.drop n) i = hget H (n + i) := by unfold hget; rw [List.getElem?_drop]

theorem step_call {P : Program} {o : Oper} {T : Tm} {f : FuncId} {args0 : List AV} {H H0 H1 : Heap} {v0 : AV} (σ R : List Nat) (con : Con P f args0 H0 v0 H1)
    (hgive : ∀ (ρ : Rho) (a : Act) (w : World), Ops o T ρ a → ∃ vals, (execOp a.eval o).run P w = .ok (.enter f vals) w ∧ (∀ c W, (∀ id ∈ R, c id = hget H id) → HRep W ρ c w → ArgsRep ρ (args0.map (AV.ren (nmsF σ H.length))) vals))
    (hk : args0.all (AV.idB (inB σ.length)) = true) (hσ : ∀ k b, hget H0 k = some b → ∃ id, σ[k]? = some id ∧ hget H id = some (b.ren (nmsF σ H.length)) ∧ b.segs.all (Seg.idB (inB σ.length)) = true) (hall : ∀ k, k < H0.length → ∃ b, hget H0 k = some b) (hσl : σ.length = H0.length) (hd : distinct σ = true) (hlt : ∀ id ∈ σ ++ R, id < H.length)
    (hk1 : ∀ k b, hget H1 k = some b → b.segs.all (Seg.idB (inB H1.length)) = true) (hv : v0.idB (inB H1.length) = true) (hR : ∀ id ∈ R, ∃ b, hget H id = some b ∧ b.rw = false) :
    LOk P o T H (aftH H σ H0 H1) (v0.ren (nmsF σ H.length)) (σ ++ R) ((muts σ H0 0).map (·.1)) := by
  have hnd := distinct_nodup hd
  have hinj : ∀ (i j id : Nat), σ[i]? = some id → σ[j]? = some id → i = j := fun i j id h1 h2 => by
    have l1 := List.getElem?_eq_some_iff.1 h1
    have l2 := List.getElem?_eq_some_iff.1 h2
    exact (List.getElem_inj (h₀ := l1.1) (h₁ := l2.1) hnd).1 (l1.2.trans l2.2.symm)
  have hmnd : ((muts σ H0 0).map (·.1)).Nodup := by
    have : ∀ {σ : List Nat} {H0 : Heap} {k : Nat}, σ.Nodup → ((muts σ H0 k).map (·.1)).Nodup ∧ ∀ id ∈ (muts σ H0 k).map (·.1), id ∈ σ := by
      intro σ
      induction σ with
      | nil => intro H0 k _; simp [muts]
      | cons x r ih =>
        intro H0 k hn
        have hn' := List.nodup_cons.1 hn
        cases H0 with
        | nil => simp [muts]
        | cons b H0 =>
          obtain ⟨i1, i2⟩ := ih (H0 := H0) (k := k + 1) hn'.2
          cases b with
          | none => exact ⟨i1, fun id hi => List.mem_cons_of_mem _ (i2 id hi)⟩
          | some b =>
            simp only [muts]
            cases b.rw with
            | false => exact ⟨i1, fun id hi => List.mem_cons_of_mem _ (i2 id hi)⟩
            | true =>
              simp only [cond_true, List.map_cons, List.nodup_cons, List.mem_cons]
              exact ⟨⟨fun h => hn'.1 (i2 _ h), i1⟩, fun id hi => hi.imp (fun h => h) (i2 id)⟩
    exact (this hnd).1
  have hM : ∀ id, id ∈ (muts σ H0 0).map (·.1) → ∃ k b, (id, k) ∈ muts σ H0 0 ∧ σ[k]? = some id ∧ hget H0 k = some b ∧ b.rw = true := by
    intro id hi
    obtain ⟨⟨i, k⟩, hp, rfl⟩ := List.mem_map.1 hi
    obtain ⟨_, h2, b, h3, h4⟩ := muts_mem hp
    exact ⟨k, b, hp, by simpa using h2, by simpa using h3, h4⟩
  have hlen : (aftH H σ H0 H1).length = H.length + (H1.length - H0.length) := by simp [aftH, setAll_len, renAll_len]
  have gOld : ∀ id, id < H.length → id ∉ (muts σ H0 0).map (·.1) → hget (aftH H σ H0 H1) id = hget H id := fun id h1 h2 => by
    unfold aftH; rw [hget_app, if_pos (by rw [setAll_len]; exact h1), setAll_out h2]
  have gMut : ∀ id k, (id, k) ∈ muts σ H0 0 → hget (aftH H σ H0 H1) id = (hget H1 k).map (Blk.ren (nmsF σ H.length)) := fun id k h => by
    have hi : id < H.length := by
      obtain ⟨_, h2, _⟩ := muts_mem h
      exact hlt id (List.mem_append.2 (.inl (List.mem_of_getElem? h2)))
    unfold aftH; rw [hget_app, if_pos (by rw [setAll_len]; exact hi), setAll_in hmnd h hi]
  have gNew : ∀ id, H.length ≤ id → hget (aftH H σ H0 H1) id = (hget H1 (σ.length + (id - H.length))).map (Blk.ren (nmsF σ H.length)) := fun id h => by
    unfold aftH; rw [hget_app, if_neg (by rw [setAll_len]; omega), setAll_len, renAll_get, hget_drop, hσl]
  have nmsOld : ∀ k id, σ[k]? = some id → nmsF σ H.length k = id := fun k id h => by simp [nmsF, h]
  have nmsNew : ∀ k, σ.length ≤ k → nmsF σ H.length k = H.length + (k - σ.length) := fun k h => by simp [nmsF, List.getElem?_eq_none h]
  refine ⟨by omega, fun id h1 h2 => gOld id h1 h2, fun id hi => ?_, hlt, ?_⟩
  · obtain ⟨k, b, _, h2, _⟩ := hM id hi
    exact List.mem_append.2 (.inl (List.mem_of_getElem? h2))
  intro W ρ a w hH hnone hW ho next Q hq
  rw [msk_len, msk_len, hlen] at hnone
  have hFm : ∀ id, id ∈ σ ++ R → hget (msk (σ ++ R) H.length H) id = hget H id := fun id hi => by rw [hget_msk, if_pos (.inl hi)]
  obtain ⟨vals, hrun, hvals⟩ := hgive ρ a w ho
  have hvals := hvals _ W (fun id hi => hFm id (List.mem_append.2 (.inr hi))) hH
  rw [hrun]
  let ρc : Rho := ⟨fun k => match σ[k]? with | some id => ρ.m id | none => none, ρ.fz, ρ.sz⟩
  have hρc : ∀ k x, ρc.m k = some x → ∃ id, σ[k]? = some id ∧ ρ.m id = some x := by
    intro k x hx
    have hx : (match σ[k]? with | some id => ρ.m id | none => none) = some x := hx
    cases h : σ[k]? with
    | none => rw [h] at hx; cases hx
    | some id => rw [h] at hx; exact ⟨id, rfl, hx⟩
  have hρc' : ∀ k id, σ[k]? = some id → ρc.m k = ρ.m id := fun k id h => by
    show (match σ[k]? with | some id => ρ.m id | none => none) = ρ.m id
    rw [h]
  have hren : RenOk (inB σ.length) (nmsF σ H.length) ρ ρc := ⟨fun k x hp hx => by
    have hkl : k < σ.length := Nat.blt_eq.mp hp
    have hs : σ[k]? = some σ[k] := by simp [hkl]
    rw [nmsOld k _ hs] at hx
    rw [hρc' k _ hs]; exact hx, fun _ _ h => h, fun _ _ h => h⟩
  have hH0 : HRep W ρc (hget H0) w := by
    refine ⟨fun k b o e => ?_, fun k b o q e1 e2 => ?_, fun k k' b o o' q q' hne e1 e2 e3 e4 => ?_, hH.fz, hH.sz⟩
    · obtain ⟨id, _, h⟩ := hρc k _ e; exact hH.lt _ _ _ h
    · obtain ⟨id, h1, h2⟩ := hρc k _ e1
      obtain ⟨id', h3, h4, h5⟩ := hσ k q e2
      rw [h1] at h3; cases h3
      obtain ⟨⟨cells, t, fr, g1, g2, g3, g4⟩, hw⟩ := hH.rep id b o _ h2 ((hFm id (List.mem_append.2 (.inl (List.mem_of_getElem? h1)))).trans h4)
      exact ⟨⟨cells, t, fr, g1, g2, g3, g4.ren hren h5⟩, hw⟩
    · obtain ⟨id, h1, h2⟩ := hρc k _ e1
      obtain ⟨id', h1', h2'⟩ := hρc k' _ e2
      obtain ⟨j, h3, h4, _⟩ := hσ k q e3
      obtain ⟨j', h3', h4', _⟩ := hσ k' q' e4
      rw [h1] at h3; cases h3
      rw [h1'] at h3'; cases h3'
      exact hH.apart id id' b o o' (q.ren (nmsF σ H.length)) (q'.ren (nmsF σ H.length)) (fun e => hne (hinj _ _ id h1 (e ▸ h1'))) h2 h2' ((hFm id (List.mem_append.2 (.inl (List.mem_of_getElem? h1)))).trans h4) ((hFm id' (List.mem_append.2 (.inl (List.mem_of_getElem? h1')))).trans h4')
  have hargs : ArgsRep ρc args0 vals := by
    refine ⟨by rw [hvals.1]; simp, fun i x hx => ?_⟩
    have h1 := hvals.2 i _ (by rw [List.getElem?_map, hx]; rfl)
    exact AV.rep_ren hren (List.all_eq_true.1 hk x (List.mem_of_getElem? hx)) h1
  refine (con.run W ρc vals w hH0 (fun k hk => ?_) hW hargs).mono ?_
  · show (match σ[k]? with | some id => ρ.m id | none => none) = none
    rw [List.getElem?_eq_none (by omega)]
  rintro e w' ⟨v', ρ1, W1, rfl, k, hvr⟩
  let ρ' : Rho := ⟨fun id => if H.length ≤ id ∧ id < H.length + (H1.length - H0.length) then ρ1.m (σ.length + (id - H.length)) else ρ.m id, ρ1.fz, ρ1.sz⟩
  have hρ' : ∀ id x, ρ'.m id = some x → ((H.length ≤ id ∧ id < H.length + (H1.length - H0.length)) ∧ ρ1.m (σ.length + (id - H.length)) = some x) ∨ (¬ (H.length ≤ id ∧ id < H.length + (H1.length - H0.length)) ∧ ρ.m id = some x) := by
    intro id x hx
    have hx : (if H.length ≤ id ∧ id < H.length + (H1.length - H0.length) then ρ1.m (σ.length + (id - H.length)) else ρ.m id) = some x := hx
    split at hx
    · rename_i h; exact .inl ⟨h, hx⟩
    · rename_i h; exact .inr ⟨h, hx⟩
  have hnew1 : ∀ q x, σ.length ≤ q → ρ1.m q = some x → q < H1.length ∧ W x.1 := by
    intro q x h1 h2
    rcases k.old q x h2 with h3 | h3
    · obtain ⟨id, h4, _⟩ := hρc q x h3
      have := (List.getElem?_eq_some_iff.1 h4).1; omega
    · exact ⟨h3.2.1, h3.2.2⟩
  have hle : Rle ρ ρ' := by
    refine ⟨fun id x hx => ?_, fun b x hx => k.le.fz b x hx, fun b x hx => k.le.sz b x hx⟩
    show (if H.length ≤ id ∧ id < H.length + (H1.length - H0.length) then ρ1.m (σ.length + (id - H.length)) else ρ.m id) = some x
    split
    · rename_i h; rw [hnone id h.1 h.2] at hx; cases hx
    · exact hx
  have hfwd : FwdOk (inB H1.length) (nmsF σ H.length) ρ1 ρ' := by
    refine ⟨fun q x hp hx => ?_, fun _ _ h => h, fun _ _ h => h⟩
    have hql : q < H1.length := Nat.blt_eq.mp hp
    rcases Nat.lt_or_ge q σ.length with h | h
    · have hs : σ[q]? = some σ[q] := by simp [h]
      rw [nmsOld q _ hs]
      rcases k.old q x hx with h3 | h3
      · rw [hρc' q _ hs] at h3
        exact hle.m _ _ h3
      · omega
    · rw [nmsNew q h]
      show (if H.length ≤ H.length + (q - σ.length) ∧ H.length + (q - σ.length) < H.length + (H1.length - H0.length) then ρ1.m (σ.length + (H.length + (q - σ.length) - H.length)) else ρ.m (H.length + (q - σ.length))) = some x
      rw [if_pos ⟨by omega, by omega⟩, show σ.length + (H.length + (q - σ.length) - H.length) = q by omega]
      exact hx
  -- where a number's block comes from
  have hsrc : ∀ id b o q, ρ'.m id = some (b, o) → hget (msk (σ ++ R) H.length (aftH H σ H0 H1)) id = some q →
      (∃ j q0, ρ1.m j = some (b, o) ∧ hget H1 j = some q0 ∧ q = q0.ren (nmsF σ H.length) ∧ nmsF σ H.length j = id ∧ j < H1.length) ∨ (ρ.m id = some (b, o) ∧ hget H id = some q ∧ q.rw = false ∧ id ∈ σ ++ R) := by
    intro id b o q e1 e2
    rcases hρ' id _ e1 with ⟨h1, h2⟩ | ⟨h1, h2⟩
    · rw [hget_msk, if_pos (.inr h1.1), gNew id h1.1, Option.map_eq_some_iff] at e2
      obtain ⟨q0, h3, rfl⟩ := e2
      exact .inl ⟨_, q0, h2, h3, rfl, by rw [nmsNew _ (by omega)]; omega, hget_lt h3⟩
    · have hlt' : id < H.length := by
        have := hget_lt e2
        rw [msk_len, hlen] at this
        rcases Nat.lt_or_ge id H.length with h | h
        · exact h
        · exact absurd ⟨h, this⟩ h1
      have hF : id ∈ σ ++ R := by
        rw [hget_msk] at e2
        split at e2
        · rename_i h; exact h.resolve_right (by omega)
        · cases e2
      rw [hget_msk, if_pos (.inl hF)] at e2
      by_cases hm : id ∈ (muts σ H0 0).map (·.1)
      · obtain ⟨j, b0, h3, h4, h5, h6⟩ := hM id hm
        rw [gMut id j h3, Option.map_eq_some_iff] at e2
        obtain ⟨q0, h7, rfl⟩ := e2
        have h8 : ρ1.m j = some (b, o) := k.le.m j _ ((hρc' j id h4).trans h2)
        exact .inl ⟨j, q0, h8, h7, rfl, nmsOld j id h4, hget_lt h7⟩
      · rw [gOld id hlt' hm] at e2
        refine .inr ⟨h2, e2, ?_, hF⟩
        rcases List.mem_append.1 hF with hs | hs
        · obtain ⟨j, hj, hje⟩ := List.getElem_of_mem hs
          have hjs : σ[j]? = some id := by rw [List.getElem?_eq_getElem hj, hje]
          -- is it told to the callee?
          cases hb : hget H0 j with
          | some b0 =>
            obtain ⟨id', h3, h4, _⟩ := hσ j b0 hb
            rw [hjs] at h3; cases h3
            rw [e2] at h4; cases h4
            cases hrw : b0.rw with
            | false => exact hrw
            | true =>
              have := muts_of (k := 0) hjs hb hrw
              exact absurd (List.mem_map.2 ⟨_, this, rfl⟩) hm
          | none => obtain ⟨b1, h1⟩ := hall j (by omega); rw [hb] at h1; cases h1
        · obtain ⟨b0, h3, h4⟩ := hR id hs
          rw [e2] at h3; cases h3; exact h4
  have hkept : ∀ id b o q, ρ.m id = some (b, o) → hget H id = some q → q.rw = false → id ∈ σ ++ R → BRep ρ q w b o ∧ ¬ W1 b ∧ b < w.heap.size ∧ ∃ cs, ρ1.fz b = some cs := by
    intro id b o q h1 h2 h3 h4
    have h5 := (hH.rep id b o q h1 ((hFm id h4).trans h2)).1
    obtain ⟨cells, t, fr, g1, g2, g3, g4⟩ := h5
    have h6 := k.le.fz b _ (g3 h3)
    exact ⟨⟨cells, t, fr, g1, g2, g3, g4⟩, (k.rep.fz b _ h6).1, hH.lt _ _ _ h1, _, h6⟩
  refine hq v' w' ⟨ρ', W1, ?_, AV.rep_fwd hfwd hv hvr⟩
  rw [msk_len, msk_len, hlen]
  refine ⟨hle, fun id x hx => ?_, ⟨fun id b o e => ?_, fun id b o q e1 e2 => ?_, fun id id' b o o' q q' hne e1 e2 e3 e4 => ?_, k.rep.fz, k.rep.sz⟩, k.fr, k.sub, k.fresh, k.fzn⟩
  · rcases hρ' id x hx with ⟨h1, h2⟩ | ⟨_, h2⟩
    · exact .inr ⟨h1.1, h1.2, (hnew1 _ _ (by omega) h2).2⟩
    · exact .inl h2
  · rcases hρ' id _ e with ⟨h1, h2⟩ | ⟨_, h2⟩
    · exact k.rep.lt _ _ _ h2
    · exact Nat.lt_of_lt_of_le (hH.lt _ _ _ h2) k.fr.size
  · rcases hsrc id b o q e1 e2 with ⟨j, q0, h1, h2, rfl, h3, h4⟩ | ⟨h1, h2, h3, h4⟩
    · obtain ⟨⟨cells, t, fr, g1, g2, g3, g4⟩, hw⟩ := k.rep.rep j b o q0 h1 h2
      exact ⟨⟨cells, t, fr, g1, g2, g3, g4.fwd hfwd (hk1 j q0 h2)⟩, hw⟩
    · obtain ⟨⟨cells, t, fr, g1, g2, g3, g4⟩, h6, h7, cs, h8⟩ := hkept id b o q h1 h2 h3 h4
      obtain ⟨_, t', fr', h9⟩ := k.rep.fz b cs h8
      have : cs = cells := by
        have := k.le.fz b _ (g3 h3)
        rw [h8] at this; exact Option.some.inj this
      subst this
      exact ⟨⟨cs, t', fr', h9, fun e => (by rw [h3] at e; cases e), fun _ => h8, g4.le hle⟩, fun e => (by rw [h3] at e; cases e)⟩
  · have mixed : ∀ (j : Nat) (q0 : Blk) (i o1 o2 : Nat) (q2 : Blk), ρ1.m j = some (b, o1) → hget H1 j = some q0 → (ρ.m i = some (b, o2) ∧ hget H i = some q2 ∧ q2.rw = false ∧ i ∈ σ ++ R) → q0.rw = false := by
      intro j q0 i o1 o2 q2 h1 h2 ⟨h3, h4, h5, h6⟩
      obtain ⟨_, h7, _, _⟩ := hkept i b o2 q2 h3 h4 h5 h6
      cases hrw : q0.rw with
      | false => rfl
      | true => exact absurd ((k.rep.rep j b o1 q0 h1 h2).2 hrw) h7
    rcases hsrc id b o q e1 e3 with ⟨j, q0, h1, h2, rfl, h3, h4⟩ | h1 <;> rcases hsrc id' b o' q' e2 e4 with ⟨j', q0', h1', h2', rfl, h3', h4'⟩ | h1'
    · exact k.rep.apart j j' b o o' q0 q0' (fun e => hne (by rw [← h3, ← h3', e])) h1 h1' h2 h2'
    · exact ⟨mixed j q0 id' o o' q' h1 h2 h1', h1'.2.2.1⟩
    · exact ⟨h1.2.2.1, mixed j' q0' id o' o q h1' h2' h1⟩
    · exact ⟨h1.2.2.1, h1'.2.2.1⟩

section rules
variable {P : Program} {T : Tm} {H : Heap} {d : Option Tmp} {ty : TypeId} {pos : String} {af : Array Edge} {g : Option (Nat × Bool)}
theorem run_call {f : FuncId} (hf : Callable P f) (xs : Array Operand) (at_ : Array TypeId) (a : Act) (w : World) :
    (execOp a.eval ⟨d, .call ⟨.value (.func f), xs, at_⟩, ty, pos, af, g⟩).run P w = .ok (.enter f (xs.map a.eval)) w := by
  simp [execOp, resolve, Deferred.ofValue, invoke, Act.eval, Sem.run_bind, run_callFunc hf]
def callOk (σ R : List Nat) (args0 : List AV) (H0 H1 : Heap) (v0 : AV) (n : Nat) : Bool :=
  args0.all (AV.idB (inB σ.length)) && (Nat.beq σ.length H0.length && (distinct σ && ((σ ++ R).all (fun id => Nat.blt id n) && ((H0.all fun | some b => b.segs.all (Seg.idB (inB σ.length)) | none => false) && ((H1.all fun | some b => b.segs.all (Seg.idB (inB H1.length)) | none => true) && v0.idB (inB H1.length))))))
def AllIn (H : Heap) (f : Nat → Nat) (σ : List Nat) : Nat → Heap → Prop
  | _, [] => True
  | _, none :: _ => False
  | k, some b :: r => hget H (f k) = some (b.ren f) ∧ AllIn H f σ (k + 1) r
theorem allIn {H : Heap} {f : Nat → Nat} {σ : List Nat} : ∀ {H0 : Heap} {i : Nat}, AllIn H f σ i H0 → ∀ k b, hget H0 k = some b → hget H (f (i + k)) = some (b.ren f)
  | [], i, _, k, b, hk => by simp [hget] at hk
  | none :: r, i, h, k, b, hk => h.elim
  | some c :: r, i, h, k, b, hk => by
    cases k with
    | zero => simp [hget] at hk; subst hk; exact h.1
    | succ k =>
      have := allIn (H0 := r) (i := i + 1) h.2 k b (by simpa [hget] using hk)
      rwa [show i + 1 + k = i + (k + 1) by omega] at this
def frozenIn (H : Heap) : List Nat → Bool
  | [] => true
  | id :: r => (match hget H id with | some b => !b.rw | none => false) && frozenIn H r
theorem frozenIn_get {H : Heap} : ∀ {R : List Nat}, frozenIn H R = true → ∀ id ∈ R, ∃ b, hget H id = some b ∧ b.rw = false
  | [], _, id, h => by cases h
  | x :: r, h, id, hm => by
    simp only [frozenIn, Bool.and_eq_true] at h
    rcases List.mem_cons.1 hm with rfl | hm
    · cases hb : hget H id with
      | none => rw [hb] at h; simp at h
      | some b => rw [hb] at h; exact ⟨b, rfl, by simpa using h.1⟩
    · exact frozenIn_get h.2 id hm
theorem nmsF_at {σ : List Nat} {k n : Nat} (h : k < σ.length) : ∃ id, σ[k]? = some id ∧ nmsF σ n k = id := ⟨σ[k], by simp [h], by simp [nmsF, h]⟩

theorem step_call' {o : Oper} {f : FuncId} {args0 : List AV} {H0 H1 H' : Heap} {v0 v : AV} (σ R : List Nat) (con : Con P f args0 H0 v0 H1)
    (hgive : ∀ (ρ : Rho) (a : Act) (w : World), Ops o T ρ a → ∃ vals, (execOp a.eval o).run P w = .ok (.enter f vals) w ∧ (∀ c W, (∀ id ∈ R, c id = hget H id) → HRep W ρ c w → ArgsRep ρ (args0.map (AV.ren (nmsF σ H.length))) vals))
    (hok : callOk σ R args0 H0 H1 v0 H.length = true) (hσ : AllIn H (nmsF σ H.length) σ 0 H0) (hR : frozenIn H R = true) (hv : v0.ren (nmsF σ H.length) = v) (hH : aftH H σ H0 H1 = H') :
    LOk P o T H H' v (σ ++ R) ((muts σ H0 0).map (·.1)) := by
  subst hv; subst hH
  simp only [callOk, Bool.and_eq_true] at hok
  obtain ⟨h1, h2, h3, h4, h5, h6, h7⟩ := hok
  have hσl := Nat.eq_of_beq_eq_true h2
  simp only [List.all_eq_true] at h4 h5 h6
  have hin : ∀ {X : Heap} {k : Nat} {b : Blk}, hget X k = some b → some b ∈ X := by
    intro X k b hb
    unfold hget at hb
    cases hq : X[k]? with
    | none => rw [hq] at hb; cases hb
    | some x => rw [hq] at hb; simp at hb; subst hb; exact List.mem_of_getElem? hq
  refine step_call σ R con hgive h1 (fun k b hb => ?_) (fun k hk => ?_) hσl h3 (fun id hi => Nat.blt_eq.mp (h4 id hi)) (fun k b hb => ?_) h7 (frozenIn_get hR)
  · have hk := hget_lt hb
    obtain ⟨id, e1, e2⟩ := nmsF_at (σ := σ) (n := H.length) (k := k) (by omega)
    have := allIn hσ k b hb
    rw [Nat.zero_add, e2] at this
    exact ⟨id, e1, this, by have := h5 _ (hin hb); simpa [List.all_eq_true] using this⟩
  · have h8 := h5 H0[k] (List.getElem_mem hk)
    cases hq : H0[k] with
    | none => rw [hq] at h8; cases h8
    | some b => exact ⟨b, by unfold hget; rw [List.getElem?_eq_getElem hk, hq]; rfl⟩
  · have := h6 _ (hin hb); simpa [List.all_eq_true] using this

theorem l_call {f : FuncId} {xs : Array Operand} {l : List Operand} {at_ : Array TypeId} {args0 : List AV} {H0 H1 H' : Heap} {v0 v : AV} {R : List Nat} (σ : List Nat) (hf : Callable P f) (con : Con P f args0 H0 v0 H1) (hl : xs.toList = l)
    (hargs : ConvL T H R l (args0.map (AV.ren (nmsF σ H.length)))) (hok : callOk σ R args0 H0 H1 v0 H.length = true) (hσ : AllIn H (nmsF σ H.length) σ 0 H0) (hR : frozenIn H R = true) (hv : v0.ren (nmsF σ H.length) = v) (hH : aftH H σ H0 H1 = H') :
    LOk P ⟨d, .call ⟨.value (.func f), xs, at_⟩, ty, pos, af, g⟩ T H H' v (σ ++ R) ((muts σ H0 0).map (·.1)) := by
  subst hl
  refine step_call' σ R con (fun ρ a w ho => ⟨_, run_call hf xs at_ a w, fun c W hc hH => ?_⟩) hok hσ hR hv hH
  obtain ⟨h1, h2⟩ := hargs.get
  refine ⟨by simpa using h1, fun i x hx => ?_⟩
  have hi : i < xs.toList.length := by rw [h1]; exact (List.getElem?_eq_some_iff.1 hx).1
  have hy : xs.toList[i]? = some xs.toList[i] := by simp [hi]
  have hm : xs.toList[i] ∈ (Op.call ⟨.value (.func f), xs, at_⟩).operands := by
    simp only [Op.operands, Call.operands]
    exact Array.mem_append.2 (.inr (Array.mem_toList_iff.1 (List.getElem_mem hi)))
  have := h2 i _ x hy hx c W ρ w _ hc hH (ho _ hm)
  have hi' : i < xs.size := by simpa using hi
  simpa [hi'] using this
theorem l_callc {f n : Nat} {x : Operand} {q : Nat → SV} {xs : Array Operand} {l : List Operand} {at_ : Array TypeId} {args0 : List AV} {H0 H1 H' : Heap} {v0 v : AV} {R : List Nat} (σ : List Nat) (hx : ev T x = .s (.clo f n q)) (hf : Callable P f) (con : Con P f args0 H0 v0 H1) (hl : xs.toList = l)
    (hargs : ConvL T H R l ((args0.take l.length).map (AV.ren (nmsF σ H.length)))) (hcap : (args0.drop l.length).map (AV.ren (nmsF σ H.length)) = (List.range n).map fun i => .s (q i)) (hok : callOk σ R args0 H0 H1 v0 H.length = true) (hσ : AllIn H (nmsF σ H.length) σ 0 H0) (hR : frozenIn H R = true) (hv : v0.ren (nmsF σ H.length) = v) (hH : aftH H σ H0 H1 = H') :
    LOk P ⟨d, .call ⟨.value x, xs, at_⟩, ty, pos, af, g⟩ T H H' v (σ ++ R) ((muts σ H0 0).map (·.1)) := by
  subst hl
  have hlen0 := hargs.get.1
  rw [List.length_map, List.length_take] at hlen0
  have hlc := congrArg List.length hcap
  simp only [List.length_map, List.length_drop, List.length_range] at hlc
  have hmem : x ∈ (Op.call ⟨.value x, xs, at_⟩).operands := by simp [Op.operands, Call.operands]
  refine step_call' σ R con (fun ρ a w ho => ?_) hok hσ hR hv hH
  have h1 := ho _ hmem
  rw [hx] at h1
  obtain ⟨vs, e1, e2, e3⟩ := h1
  refine ⟨xs.map a.eval ++ vs, by simp [execOp, resolve, Deferred.ofValue, invoke, e1, Sem.run_bind, run_callFunc hf], fun c W hc hH => ?_⟩
  obtain ⟨h1, h2⟩ := hargs.get
  have hsz : xs.size ≤ args0.length := by
    have : xs.toList.length = xs.size := by simp
    omega
  refine ⟨by simp at hlen0 hlc ⊢; omega, fun i y hy => ?_⟩
  rcases Nat.lt_or_ge i xs.size with hi | hi
  · have hi2 : i < xs.toList.length := by simpa using hi
    have hy2 : xs.toList[i]? = some xs.toList[i] := by simp [hi]
    have hm : xs.toList[i] ∈ (Op.call ⟨.value x, xs, at_⟩).operands := by
      simp only [Op.operands, Call.operands]
      exact Array.mem_append.2 (.inr (Array.mem_toList_iff.1 (List.getElem_mem hi2)))
    have hy3 : ((args0.take xs.toList.length).map (AV.ren (nmsF σ H.length)))[i]? = some y := by
      rw [List.getElem?_map] at hy ⊢
      rw [List.getElem?_take_of_lt hi2]; exact hy
    have := h2 i _ y hy2 hy3 c W ρ w _ hc hH (ho _ hm)
    rw [Array.getD_eq_getD_getElem?, Array.getElem?_append_left (by simpa using hi)]
    simpa [hi] using this
  · have hj := congrArg (fun l => l[i - xs.size]?) hcap
    simp only [List.getElem?_map, List.getElem?_drop] at hj
    rw [show xs.toList.length + (i - xs.size) = i by simp; omega] at hj
    rw [List.getElem?_map] at hy
    rw [hy] at hj
    have hin : i - xs.size < n := by
      rcases Nat.lt_or_ge (i - xs.size) n with h | h
      · exact h
      · rw [List.getElem?_eq_none (by simpa using h)] at hj; cases hj
    rw [List.getElem?_range hin] at hj
    simp only [Option.map_some, Option.some.injEq] at hj
    subst hj
    obtain ⟨u, hu, hr⟩ := e3 _ hin
    rw [Array.getD_eq_getD_getElem?, Array.getElem?_append_right (by simpa using hi)]
    simp only [Array.size_map, hu, Option.getD_some]
    exact hr
end rules

theorem hrep_frz {W : Nat → Prop} {ρ : Rho} {H : Heap} {w : World} {id : Nat} {segs : List Seg} (hH : HRep W ρ (hget H) w) (hb : hget H id = some ⟨true, segs⟩) (hfr : ∀ b, w.heap.size ≤ b → W b) :
    ∃ ρ' W', Rle ρ ρ' ∧ ρ'.m = ρ.m ∧ HRep W' ρ' (hget (H.set id (some ⟨false, segs⟩))) w ∧ (∀ b, W' b → W b) ∧ (∀ b, w.heap.size ≤ b → W' b) ∧ ∀ b c, ρ'.fz b = some c → ρ.fz b = some c ∨ W b := by
  have hlt := hget_lt hb
  cases hm : ρ.m id with
  | none =>
    refine ⟨ρ, W, .refl _, rfl, ⟨hH.lt, fun j b o k e1 e2 => ?_, fun j j' b o o' k k' hne e1 e2 e3 e4 => ?_, hH.fz, hH.sz⟩, fun _ h => h, hfr, fun _ _ h => .inl h⟩
    · rw [hget_set hlt] at e2
      by_cases hj : j = id
      · subst hj; rw [hm] at e1; cases e1
      · rw [if_neg hj] at e2; exact hH.rep j b o k e1 e2
    · rw [hget_set hlt] at e3 e4
      by_cases hj : j = id
      · subst hj; rw [hm] at e1; cases e1
      · by_cases hj' : j' = id
        · subst hj'; rw [hm] at e2; cases e2
        · rw [if_neg hj] at e3; rw [if_neg hj'] at e4; exact hH.apart j j' b o o' k k' hne e1 e2 e3 e4
  | some x =>
    obtain ⟨b0, o0⟩ := x
    obtain ⟨⟨cells, t, fr, g1, g2, g3, g4⟩, hW0⟩ := hH.rep id b0 o0 _ hm hb
    have hW0 := hW0 rfl
    have hnone : ρ.fz b0 = none := by
      cases h : ρ.fz b0 with
      | none => rfl
      | some c => exact absurd hW0 (hH.fz b0 c h).1
    let ρ' : Rho := ⟨ρ.m, fun b => if b = b0 then some cells else ρ.fz b, ρ.sz⟩
    have hcase : ∀ b x, ρ'.fz b = some x → (b = b0 ∧ x = cells) ∨ (b ≠ b0 ∧ ρ.fz b = some x) := by
      intro b x hx
      have hx : (if b = b0 then some cells else ρ.fz b) = some x := hx
      by_cases hb : b = b0
      · rw [if_pos hb] at hx; exact .inl ⟨hb, (Option.some.inj hx).symm⟩
      · rw [if_neg hb] at hx; exact .inr ⟨hb, hx⟩
    have hle : Rle ρ ρ' := by
      refine ⟨fun _ _ h => h, fun b x hx => ?_, fun _ _ h => h⟩
      show (if b = b0 then some cells else ρ.fz b) = some x
      by_cases hb : b = b0
      · subst hb; rw [hnone] at hx; cases hx
      · rw [if_neg hb]; exact hx
    have hother : ∀ j b o k, j ≠ id → ρ.m j = some (b, o) → hget H j = some k → k.rw = true → b ≠ b0 := by
      intro j b o k hj e1 e2 hk e
      subst e
      have := (hH.apart j id b o o0 k _ hj e1 hm e2 hb).1
      rw [hk] at this; cases this
    refine ⟨ρ', fun b => W b ∧ b ≠ b0, hle, rfl, ⟨hH.lt, fun j b o k e1 e2 => ?_, fun j j' b o o' k k' hne e1 e2 e3 e4 => ?_, fun b cs e => ?_, hH.sz⟩, fun _ h => h.1, fun b hb' => ⟨hfr b hb', fun e => ?_⟩, fun b c e => ?_⟩
    · rw [hget_set hlt] at e2
      by_cases hj : j = id
      · subst hj
        rw [if_pos rfl] at e2
        cases e2
        have e1 : ρ.m j = some (b, o) := e1
        rw [hm] at e1
        cases e1
        exact ⟨⟨cells, t, fr, g1, fun e => (by cases e), fun _ => (by show (if b0 = b0 then some cells else ρ.fz b0) = some cells; rw [if_pos rfl]), g4.le hle⟩, fun e => (by cases e)⟩
      · rw [if_neg hj] at e2
        have := hH.rep j b o k e1 e2
        exact ⟨this.1.le hle, fun hk => ⟨this.2 hk, hother j b o k hj e1 e2 hk⟩⟩
    · rw [hget_set hlt] at e3 e4
      have old : ∀ j k, (if j = id then some (⟨false, segs⟩ : Blk) else hget H j) = some k → ∃ k0, hget H j = some k0 ∧ (k0.rw = false → k.rw = false) := by
        intro j k h
        by_cases hj : j = id
        · rw [if_pos hj] at h; cases h; subst hj; exact ⟨_, hb, fun _ => rfl⟩
        · rw [if_neg hj] at h; exact ⟨k, h, fun h => h⟩
      obtain ⟨a1, a2, a3⟩ := old j k e3
      obtain ⟨c1, c2, c3⟩ := old j' k' e4
      have := hH.apart j j' b o o' a1 c1 hne e1 e2 a2 c2
      exact ⟨a3 this.1, c3 this.2⟩
    · rcases hcase b cs e with ⟨rfl, rfl⟩ | ⟨h1, h2⟩
      · exact ⟨fun h => h.2 rfl, t, fr, g1⟩
      · exact ⟨fun h => (hH.fz b cs h2).1 h.1, (hH.fz b cs h2).2⟩
    · have := hH.lt _ _ _ hm; omega
    · rcases hcase b c e with ⟨rfl, rfl⟩ | ⟨h1, h2⟩
      · exact .inr hW0
      · exact .inl h2
theorem weak_frz {E : Env} {T : Tm} {H H' : Heap} (id : Nat) {segs : List Seg} (hb : hget H id = some ⟨true, segs⟩) (hH : H.set id (some ⟨false, segs⟩) = H') : Weak E T H T H' := by
  subst hH
  rintro a w ⟨ρ, W, p, hn, hT, hE⟩
  obtain ⟨ρ', W', h1, h2, h3, h4, h5, h6⟩ := hrep_frz p.rep hb p.fresh
  refine ⟨ρ', W', ⟨p.le.trans h1, h3, p.size, p.defs, p.fr, fun b hb => p.sub b (h4 b hb), h5, fun b c e => ?_, fun id x e => p.old id x (by rwa [h2] at e)⟩, fun id hid => by rw [h2]; exact hn id (by simpa using hid), hT.le h1, by simpa using hE⟩
  rcases h6 b c e with h7 | h7
  · exact p.fzn b c h7
  · exact .inr (p.sub b h7)
theorem weak_conv {E : Env} {T : Tm} {H : Heap} {R : List Nat} (t : Nat) {x y : AV} (hx : look T t = x) (h : AConv R H x y) : Weak E T H ((t, y) :: T) H := by
  rintro a w ⟨ρ, W, p, hn, hT, hE⟩
  refine ⟨ρ, W, p, hn, fun i => ?_, hE⟩
  rw [look_cons]
  by_cases hi : t = i
  · subst hi
    rw [if_pos rfl]
    have := hT t
    rw [hx] at this
    exact h _ W ρ w _ (fun _ _ => rfl) p.rep this
  · rw [if_neg hi]; exact hT i
end Go.Bx
end
