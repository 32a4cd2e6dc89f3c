/- A drawn region in which something is appended to nothing, and more to that. No program. -/
import Derived.Test.YtffflnpidipheaaAb31
import Derived.Deep.AppendSrc
set_option linter.unusedVariables false
set_option linter.unusedSimpArgs false
namespace Go.Ab
/-- Integers, and noughts behind them. -/
def rowOf (k : IntKind) (B : List Int) (cap : Nat) : Array Value := (B.map (Value.int k) ++ List.replicate (cap - B.length) (Value.int k 0)).toArray
/-- A row of one's own, which nobody else names. -/
def Mine (E : Env) (d0 n : Nat) (k : IntKind) (ee : TypeId) (B : List Int) (ρ : Rho) (a : Act) (w : World) : Prop :=
  ∃ b cap, a.tmps.getD d0 undef = .slice (some ⟨b, 0, none⟩) n cap ∧ n ≤ cap ∧ w.heap[b]? = some (.cells (rowOf k B cap) ee (0, 0)) ∧ E.w0.heap.size ≤ b ∧ b < w.heap.size ∧ ∀ id x, ρ id = some x → x.1 ≠ b
def MakesOwn (P : Program) (o : Oper) (T : Tm) (H : Heap) (n : Nat) (k : IntKind) (ee : TypeId) (B : List Int) : Prop :=
  o.guard = none ∧ ∀ (W : Nat → Prop) (ρ : Rho) (a : Act) (w : World), HRep W ρ H w → Ops o T ρ a → ∀ (next : Act → World → Prop) (Q : Exit → Act → World → Prop), (∀ cap, n ≤ cap → next (a.put o.dst (.slice (some ⟨w.heap.size, 0, none⟩) n cap)) (w.drew.alloc (.cells (rowOf k B cap) ee))) → o.upon P a next Q ((execOp a.eval o).run P w)
/-- What came of it: the same row, or a new one. -/
def Went (b b' cap' n : Nat) (k : IntKind) (BC : List Int) (w w' : World) : Prop :=
  n ≤ cap' ∧ b' < w'.heap.size ∧ (∃ cells tt, w'.heap[b']? = some (.cells cells tt (0, 0)) ∧ ∀ i, i < n → cells[i]? = some (.int k (BC.getD i 0))) ∧ (b' = b ∨ b' = w.heap.size) ∧ w.heap.size ≤ w'.heap.size ∧ (∀ j, j < w.heap.size → j ≠ b' → w'.heap[j]? = w.heap[j]?) ∧ (w'.os = w.os ∧ w'.tape = w.tape ∧ w'.output = w.output)
def GoesOn (P : Program) (o : Oper) (d0 : Nat) (T : Tm) (H : Heap) (n : Nat) (k : IntKind) (ee : TypeId) (B C : List Int) : Prop :=
  o.guard = none ∧ ∀ (W : Nat → Prop) (ρ : Rho) (a : Act) (w : World) (b cap : Nat), HRep W ρ H w → Ops o T ρ a → a.tmps.getD d0 undef = .slice (some ⟨b, 0, none⟩) n cap → n ≤ cap → w.heap[b]? = some (.cells (rowOf k B cap) ee (0, 0)) → (∀ id x, ρ id = some x → x.1 ≠ b) →
    ∀ (next : Act → World → Prop) (Q : Exit → Act → World → Prop), (∀ b' cap' w', Went b b' cap' (n + C.length) k (B ++ C) w w' → next (a.put o.dst (.slice (some ⟨b', 0, none⟩) (n + C.length) cap')) w') → o.upon P a next Q ((execOp a.eval o).run P w)
inductive XSteps (P : Program) (ops : Array Oper) (j0 k0 d0 n : Nat) (kk : IntKind) (ee : TypeId) (B C : List Int) : List Oper → Nat → Tm → Heap → Tm → Heap → Prop
  | nil {i T H} : XSteps P ops j0 k0 d0 n kk ee B C [] i T H T H
  | cons {o r i T H v nb T' H'} : i ≠ j0 → i ≠ k0 → Guard ops T o true → HOk P o T H v nb → XSteps P ops j0 k0 d0 n kk ee B C r (i + 1) (put T o.dst v) (H ++ nb.map some) T' H' → XSteps P ops j0 k0 d0 n kk ee B C (o :: r) i T H T' H'
  | skip {o r i T H T' H'} : i ≠ j0 → i ≠ k0 → Guard ops T o false → XSteps P ops j0 k0 d0 n kk ee B C r (i + 1) (put T o.dst (.s .junk)) H T' H' → XSteps P ops j0 k0 d0 n kk ee B C (o :: r) i T H T' H'
  | own {o r T H T' H'} : o.dst = some d0 → MakesOwn P o T H n kk ee B → XSteps P ops j0 k0 d0 n kk ee B C r (j0 + 1) ((d0, .s .junk) :: T) H T' H' → XSteps P ops j0 k0 d0 n kk ee B C (o :: r) j0 T H T' H'
  | goes {o r T H T' H'} : GoesOn P o d0 T H n kk ee B C → XSteps P ops j0 k0 d0 n kk ee B C r (k0 + 1) (put T o.dst (.s (.slx H.length 0 0 (n + C.length)))) (H ++ [some ⟨true, [.ints kk (n + C.length) (B ++ C)]⟩]) T' H' → XSteps P ops j0 k0 d0 n kk ee B C (o :: r) k0 T H T' H'
def StepX (P : Program) (ops : Array Oper) (j0 k0 d0 n : Nat) (kk : IntKind) (ee : TypeId) (B C : List Int) (V : Nat → AV) (N : Nat → List Blk) (T0 : Tm) (H0 : Heap) (k : Nat) : Prop :=
  (k ≠ j0 ∧ k ≠ k0 ∧ StepOk P ops V N T0 H0 k) ∨ (k = j0 ∧ V k = .s .junk ∧ N k = [] ∧ ∃ o, ops[k]? = some o ∧ o.dst = some d0 ∧ MakesOwn P o (Tk ops V T0 k) (Hk N H0 k) n kk ee B) ∨
  (k = k0 ∧ V k = .s (.slx (Hk N H0 k).length 0 0 (n + C.length)) ∧ N k = [⟨true, [.ints kk (n + C.length) (B ++ C)]⟩] ∧ ∃ o, ops[k]? = some o ∧ GoesOn P o d0 (Tk ops V T0 k) (Hk N H0 k) n kk ee B C)
theorem ext_drew (w : World) (o : Obj) : Ext w (w.drew.alloc o) :=
  let e := Ext.alloc w.drew o
  ⟨e.os, e.tape, e.output, e.size, e.block⟩
theorem traceX {j0 k0 d0 n : Nat} {kk : IntKind} {ee : TypeId} {B C : List Int} {P : Program} {ops : Array Oper} {l : List Oper} {T T' : Tm} {H H' : Heap} {i : Nat} (hs : XSteps P ops j0 k0 d0 n kk ee B C l i T H T' H') (T0 : Tm) (H0 : Heap) :
    ∀ (V0 : Nat → AV) (N0 : Nat → List Blk), (∀ j, j < l.length → l[j]? = ops[i + j]?) → T = Tk ops V0 T0 i → H = Hk N0 H0 i →
      ∃ V N, (∀ j, j < i → V j = V0 j ∧ N j = N0 j) ∧ (∀ k, i ≤ k → k < i + l.length → StepX P ops j0 k0 d0 n kk ee B C V N T0 H0 k) ∧ Tk ops V T0 (i + l.length) = T' ∧ Hk N H0 (i + l.length) = H' := by
  induction hs with
  | nil => exact fun V0 N0 _ hT hH => ⟨V0, N0, fun _ _ => ⟨rfl, rfl⟩, fun k h1 h2 => by simp at h2; omega, hT.symm, hH.symm⟩
  | @cons o r i T H v nb T' H' hj hk0 hg h _ ih =>
    intro V0 N0 hl hT hH
    have h0 : ops[i]? = some o := by have := hl 0 (by simp); simpa using this.symm
    let V1 : Nat → AV := fun j => if j = i then v else V0 j
    let N1 : Nat → List Blk := fun j => if j = i then nb else N0 j
    have eT : Tk ops V1 T0 i = T := by rw [hT]; exact Tk_congr fun j hj => by simp [V1, show j ≠ i by omega]
    have eH : Hk N1 H0 i = H := by rw [hH]; exact Hk_congr fun j hj => by simp [N1, show j ≠ i by omega]
    obtain ⟨V, N, k1, k2, k3, k4⟩ := ih V1 N1 (fun j hj => by have := hl (j + 1) (by simpa using hj); simpa [Nat.add_assoc, Nat.add_comm 1 j] using this) (by simp only [Tk, eT, h0, Option.bind_some]; simp [V1]) (by simp only [Hk, eH]; simp [N1])
    have vi : V i = v := by rw [(k1 i (by omega)).1]; simp [V1]
    have ni : N i = nb := by rw [(k1 i (by omega)).2]; simp [N1]
    refine ⟨V, N, fun j hj => ?_, fun k h1 h2 => ?_, by rw [List.length_cons, ← k3]; congr 1; omega, by rw [List.length_cons, ← k4]; congr 1; omega⟩
    · have := k1 j (by omega)
      simpa [V1, N1, show j ≠ i by omega] using this
    · by_cases hk : k = i
      · subst hk
        refine .inl ⟨hj, hk0, o, h0, .inl ?_⟩
        have e1 : Tk ops V T0 k = T := by rw [← eT]; exact Tk_congr fun j hj => (k1 j (by omega)).1
        have e2 : Hk N H0 k = H := by rw [← eH]; exact Hk_congr fun j hj => (k1 j (by omega)).2
        rw [e1, e2, vi, ni]; exact ⟨hg, h⟩
      · exact k2 k (by omega) (by simp at h2; omega)
  | @skip o r i T H T' H' hj hk0 hg _ ih =>
    intro V0 N0 hl hT hH
    have h0 : ops[i]? = some o := by have := hl 0 (by simp); simpa using this.symm
    let V1 : Nat → AV := fun j => if j = i then .s .junk else V0 j
    let N1 : Nat → List Blk := fun j => if j = i then [] else N0 j
    have eT : Tk ops V1 T0 i = T := by rw [hT]; exact Tk_congr fun j hj => by simp [V1, show j ≠ i by omega]
    have eH : Hk N1 H0 i = H := by rw [hH]; exact Hk_congr fun j hj => by simp [N1, show j ≠ i by omega]
    obtain ⟨V, N, k1, k2, k3, k4⟩ := ih V1 N1 (fun j hj => by have := hl (j + 1) (by simpa using hj); simpa [Nat.add_assoc, Nat.add_comm 1 j] using this) (by simp only [Tk, eT, h0, Option.bind_some]; simp [V1]) (by simp only [Hk, eH]; simp [N1])
    have vi : V i = .s .junk := by rw [(k1 i (by omega)).1]; simp [V1]
    have ni : N i = [] := by rw [(k1 i (by omega)).2]; simp [N1]
    refine ⟨V, N, fun j hj => ?_, fun k h1 h2 => ?_, by rw [List.length_cons, ← k3]; congr 1; omega, by rw [List.length_cons, ← k4]; congr 1; omega⟩
    · have := k1 j (by omega)
      simpa [V1, N1, show j ≠ i by omega] using this
    · by_cases hk : k = i
      · subst hk
        refine .inl ⟨hj, hk0, o, h0, .inr ?_⟩
        have e1 : Tk ops V T0 k = T := by rw [← eT]; exact Tk_congr fun j hj => (k1 j (by omega)).1
        rw [e1, vi, ni]; exact ⟨hg, rfl, rfl⟩
      · exact k2 k (by omega) (by simp at h2; omega)
  | @own o r T H T' H' hd h _ ih =>
    intro V0 N0 hl hT hH
    have h0 : ops[j0]? = some o := by have := hl 0 (by simp); simpa using this.symm
    let V1 : Nat → AV := fun j => if j = j0 then .s .junk else V0 j
    let N1 : Nat → List Blk := fun j => if j = j0 then [] else N0 j
    have eT : Tk ops V1 T0 j0 = T := by rw [hT]; exact Tk_congr fun j hj => by simp [V1, show j ≠ j0 by omega]
    have eH : Hk N1 H0 j0 = H := by rw [hH]; exact Hk_congr fun j hj => by simp [N1, show j ≠ j0 by omega]
    obtain ⟨V, N, k1, k2, k3, k4⟩ := ih V1 N1 (fun j hj => by have := hl (j + 1) (by simpa using hj); simpa [Nat.add_assoc, Nat.add_comm 1 j] using this) (by simp only [Tk, eT, h0, Option.bind_some, hd]; simp [V1, put]) (by simp only [Hk, eH]; simp [N1])
    have vi : V j0 = .s .junk := by rw [(k1 j0 (by omega)).1]; simp [V1]
    have ni : N j0 = [] := by rw [(k1 j0 (by omega)).2]; simp [N1]
    refine ⟨V, N, fun j hj => ?_, fun k h1 h2 => ?_, by rw [List.length_cons, ← k3]; congr 1; omega, by rw [List.length_cons, ← k4]; congr 1; omega⟩
    · have := k1 j (by omega)
      simpa [V1, N1, show j ≠ j0 by omega] using this
    · by_cases hk : k = j0
      · subst hk
        have e1 : Tk ops V T0 k = T := by rw [← eT]; exact Tk_congr fun j hj => (k1 j (by omega)).1
        have e2 : Hk N H0 k = H := by rw [← eH]; exact Hk_congr fun j hj => (k1 j (by omega)).2
        exact .inr (.inl ⟨rfl, vi, ni, o, h0, hd, by rw [e1, e2]; exact h⟩)
      · exact k2 k (by omega) (by simp at h2; omega)
  | @goes o r T H T' H' h _ ih =>
    intro V0 N0 hl hT hH
    have h0 : ops[k0]? = some o := by have := hl 0 (by simp); simpa using this.symm
    let V1 : Nat → AV := fun j => if j = k0 then .s (.slx H.length 0 0 (n + C.length)) else V0 j
    let N1 : Nat → List Blk := fun j => if j = k0 then [⟨true, [.ints kk (n + C.length) (B ++ C)]⟩] else N0 j
    have eT : Tk ops V1 T0 k0 = T := by rw [hT]; exact Tk_congr fun j hj => by simp [V1, show j ≠ k0 by omega]
    have eH : Hk N1 H0 k0 = H := by rw [hH]; exact Hk_congr fun j hj => by simp [N1, show j ≠ k0 by omega]
    obtain ⟨V, N, k1, k2, k3, k4⟩ := ih V1 N1 (fun j hj => by have := hl (j + 1) (by simpa using hj); simpa [Nat.add_assoc, Nat.add_comm 1 j] using this) (by simp only [Tk, eT, h0, Option.bind_some]; simp [V1]) (by simp only [Hk, eH]; simp [N1])
    have vi : V k0 = .s (.slx H.length 0 0 (n + C.length)) := by rw [(k1 k0 (by omega)).1]; simp [V1]
    have ni : N k0 = [⟨true, [.ints kk (n + C.length) (B ++ C)]⟩] := by rw [(k1 k0 (by omega)).2]; simp [N1]
    refine ⟨V, N, fun j hj => ?_, fun k h1 h2 => ?_, by rw [List.length_cons, ← k3]; congr 1; omega, by rw [List.length_cons, ← k4]; congr 1; omega⟩
    · have := k1 j (by omega)
      simpa [V1, N1, show j ≠ k0 by omega] using this
    · by_cases hk : k = k0
      · subst hk
        have e1 : Tk ops V T0 k = T := by rw [← eT]; exact Tk_congr fun j hj => (k1 j (by omega)).1
        have e2 : Hk N H0 k = H := by rw [← eH]; exact Hk_congr fun j hj => (k1 j (by omega)).2
        exact .inr (.inr ⟨rfl, by rw [vi, e2], ni, o, h0, by rw [e1, e2]; exact h⟩)
      · exact k2 k (by omega) (by simp at h2; omega)


structure InvX (E : Env) (ops : Array Oper) (m j0 k0 d0 n : Nat) (kk : IntKind) (ee : TypeId) (B : List Int) (V : Nat → AV) (N : Nat → List Blk) (T0 : Tm) (H0 : Heap) (listed : Array Bool) (a : Act) (w : World) : Prop where
  size : listed.size = ops.size
  closed : Closed ops listed
  late : ∀ i, m ≤ i → i < ops.size → listed.getD i false = false
  ex : ∃ ρ, Rle E.ρ0 ρ ∧ HRep E.W ρ (Hk N H0 m) w ∧
    (∀ t, (∀ j, j < m → listed.getD j false = true → (ops[j]?).bind (·.dst) = some t → (V j).rep ρ (a.tmps.getD t undef)) ∧ ((∀ j, j < m → (ops[j]?).bind (·.dst) ≠ some t) → (look T0 t).rep ρ (a.tmps.getD t undef))) ∧
    (∀ id x, ρ id = some x → id < H0.length ∨ ∃ j, j < m ∧ listed.getD j false = true ∧ (Hk N H0 j).length ≤ id ∧ id < (Hk N H0 j).length + (N j).length) ∧
    a.tmps.size = E.n ∧ DefOk E.w0 a.defers w ∧ Fr E.W E.w0 w ∧ (listed.getD j0 false = true → listed.getD k0 false = false → Mine E d0 n kk ee B ρ a w)


theorem head_app {j0 k0 d0 n : Nat} {kk : IntKind} {ee : TypeId} {B C : List Int} {E : Env} {ops : Array Oper} {Q : Exit → Act → World → Prop} {m : Nat} (hok : regionOk E.n ops = true) (hany : anyOk ops m = true) (hm : m ≤ ops.size) (hj0 : j0 < k0) (hk0 : k0 < m) (hcon : ((reach ops).getD k0 0).testBit j0 = true) {V : Nat → AV} {N : Nat → List Blk} {T0 : Tm} {H0 : Heap}
    (hstep : ∀ k, k < m → StepX E.P ops j0 k0 d0 n kk ee B C V N T0 H0 k) {l : List Oper} (hl : ∀ j, l[j]? = ops[m + j]?) (hlen : m + l.length = ops.size) {T' : Tm} {H' : Heap} (htail : Steps E.P ops l (Tk ops V T0 m) (Hk N H0 m) T' H') (hQ : ∀ a' w', Rep E T' H' a' w' → Q .normal a' w') :
    ∀ (fuel : Nat) (us : List Nat) (listed : Array Bool) (a : Act) (w : World), (∀ j, j < m → listed.getD j false = false → j ∈ us) → us.length + l.length ≤ fuel → InvX E ops m j0 k0 d0 n kk ee B V N T0 H0 listed a w → wpAny E.P .any ops Q fuel listed a w := by
  have finish : ∀ (fuel : Nat) (listed : Array Bool) (a : Act) (w : World), (∀ j, j < m → listed.getD j false = true) → l.length ≤ fuel → InvX E ops m j0 k0 d0 n kk ee B V N T0 H0 listed a w → wpAny E.P .any ops Q fuel listed a w := by
    intro fuel listed a w hall hf hi
    refine tail_any hok hany htail m (Nat.le_refl _) hlen hl fuel listed hf hi.size (fun i his => ?_) a w ?_ hQ
    · rcases Nat.lt_or_ge i m with h | h
      · rw [hall i h]; simp [h]
      · rw [hi.late i h his]; simp; omega
    · obtain ⟨ρ, k1, k2, k3, k4, k5, k6, k7, k8⟩ := hi.ex
      refine ⟨ρ, k1, fun id hid => ?_, k2, fun t => ?_, k5, k6, k7⟩
      · cases hr : ρ id with
        | none => rfl
        | some x =>
          rcases k4 id x hr with h | ⟨j, h1, _, _, h2⟩
          · obtain ⟨r, hr⟩ := Hk_le (N := N) (H0 := H0) (Nat.zero_le m)
            simp only [Hk] at hr
            rw [hr] at hid
            simp at hid; omega
          · have := Hk_len (N := N) (H0 := H0) h1
            omega
      · rcases look_Tk (ops := ops) (V := V) (T0 := T0) t m with ⟨j, h1, h2, h3⟩ | ⟨h1, h2⟩
        · rw [h3]; exact (k3 t).1 j h1 (hall j h1) h2
        · rw [h2]; exact (k3 t).2 h1
  intro fuel
  induction fuel with
  | zero =>
    intro us listed a w hus hf hi
    refine finish 0 listed a w (fun j hj => ?_) (by omega) hi
    cases hb : listed.getD j false with
    | true => rfl
    | false => have := hus j hj hb; have := List.length_pos_of_mem this; omega
  | succ fuel ih =>
    intro us listed a w hus hf hi
    by_cases hall : ∀ j, j < m → listed.getD j false = true
    · exact finish _ listed a w hall (by omega) hi
    have hex : ∃ j, j < m ∧ listed.getD j false = false := by
      apply Classical.byContradiction
      intro hn
      refine hall fun j hj => ?_
      cases hb : listed.getD j false with
      | true => rfl
      | false => exact absurd ⟨j, hj, hb⟩ hn
    -- the least unlisted one is ready
    have hready : ∃ j, j ∈ Region.ready .any ops listed := by
      have hleast : ∀ n, (∃ j, j ≤ n ∧ j < m ∧ listed.getD j false = false) → ∃ j, j < m ∧ listed.getD j false = false ∧ ∀ i, i < j → listed.getD i false = true := by
        intro n
        induction n with
        | zero =>
          rintro ⟨j, h1, h2, h3⟩
          have : j = 0 := by omega
          subst this
          exact ⟨0, h2, h3, fun i hi => absurd hi (by omega)⟩
        | succ n ihn =>
          rintro ⟨j, h1, h2, h3⟩
          by_cases hh : ∃ j, j ≤ n ∧ j < m ∧ listed.getD j false = false
          · exact ihn hh
          · refine ⟨j, h2, h3, fun i hi => ?_⟩
            cases hb : listed.getD i false with
            | true => rfl
            | false => exact absurd ⟨i, by omega, by omega, hb⟩ hh
      obtain ⟨j0, h1, h2⟩ := hex
      obtain ⟨j, hj, hjf, hji⟩ := hleast j0 ⟨j0, Nat.le_refl _, h1, h2⟩
      have hjs : j < ops.size := by omega
      have ho : ops[j]? = some ops[j] := by simp [hjs]
      exact ⟨j, mem_ready.2 ⟨by simp [hi.size, hjs] at hjf ⊢; exact hjf, _, ho, fun e he hb => hji _ (anyOk_edge hany ho e he hb)⟩⟩
    refine ⟨fun hn => (by obtain ⟨j, hj⟩ := hready; rw [hn] at hj; cases hj), fun i hir => ?_⟩
    obtain ⟨hun, o, ho, hedges⟩ := mem_ready.1 hir
    have his : i < ops.size := (Array.getElem?_eq_some_iff.1 ho).1
    have hif : listed.getD i false = false := by simp [hi.size, his] at hun ⊢; exact hun
    have him : i < m := by
      rcases Nat.lt_or_ge i m with h | h
      · exact h
      · obtain ⟨j, h1, h2⟩ := hex
        have := reach_listed hany hi.closed i o j ho (anyOk_tail hany ho h j (by omega)) hedges
        rw [h2] at this; cases this
    obtain ⟨ρ, k1, k2, k3, k4, k5, k6, k7, k8⟩ := hi.ex
    have hso := hstep i him
    -- what it looks at is told
    have hlook : ∀ t, t ∈ o.looksAt ops → (look (Tk ops V T0 i) t).rep ρ (a.tmps.getD t undef) := by
      intro t ht
      rcases look_Tk (ops := ops) (V := V) (T0 := T0) t i with ⟨j, h1, h2, h3⟩ | ⟨h1, h2⟩
      · rw [h3]
        have hjs : j < ops.size := by omega
        have hp : ops[j]? = some ops[j] := by simp [hjs]
        have hd : ops[j].dst = some t := by rw [hp] at h2; simpa using h2
        have := (anyOk_head hany ho him (show j < m by omega) hp hd).2 ht
        exact (k3 t).1 j (by omega) (reach_listed hany hi.closed i o j ho this.2 hedges) h2
      · rw [h2]
        refine (k3 t).2 fun j hj hd => ?_
        by_cases hji : j < i
        · exact h1 j hji hd
        · have hjs : j < ops.size := by omega
          have hp : ops[j]? = some ops[j] := by simp [hjs]
          have hd' : ops[j].dst = some t := by rw [hp] at hd; simpa using hd
          have := (anyOk_head hany ho him hj hp hd').2 ht
          omega
    have hopk := regionOk_op hok ho
    have hopsrep : Ops o (Tk ops V T0 i) ρ a := by
      intro x hx
      simp only [opOk, Bool.and_eq_true, Array.all_eq_true_iff_forall_mem] at hopk
      cases x with
      | tmp t => exact hlook t (looksAt_op hx)
      | global g => trivial
      | func f => exact ⟨rfl, rfl⟩
      | const c =>
        have h := hopk.1.1 _ hx
        simp only [operandOk] at h
        unfold constOk at h
        split at h <;> first
          | (cases h; done)
          | exact rfl
          | exact ⟨rfl, rfl⟩
    have hdst : ∀ d, o.dst = some d → d < a.tmps.size := fun d hd => by rw [k5]; exact opOk_dst hopk d hd
    have hwant : ∀ c, Guard ops (Tk ops V T0 i) o c → Region.wanted o (yielded ops a.tmps) = c := fun c hg =>
      hg.wanted (ρ := ρ) fun j b t e1 e2 => ⟨hlook t (looksAt_guard e1 e2), by rw [k5]; exact regionOk_guard hok j t e2⟩
    have hW : ∀ b, w.heap.size ≤ b → E.W b := fun b hb => E.hW b (Nat.le_trans k7.size hb)
    obtain ⟨rest, hrest⟩ := Hk_le (N := N) (H0 := H0) (show i + 1 ≤ m by omega)
    have hrest' : Hk N H0 m = Hk N H0 i ++ ((N i).map some ++ rest) := by rw [hrest]; simp only [Hk, List.append_assoc]
    have hnone : ∀ i', i' < (N i).length → ρ ((Hk N H0 i).length + i') = none := by
      intro i' hi'
      cases hr : ρ ((Hk N H0 i).length + i') with
      | none => rfl
      | some x =>
        rcases k4 _ x hr with h | ⟨j, h1, h2, h3, h4⟩
        · obtain ⟨r, hr⟩ := Hk_le (N := N) (H0 := H0) (Nat.zero_le i)
          simp only [Hk] at hr
          rw [hr] at h; simp at h; omega
        · rcases Nat.lt_trichotomy i j with h5 | h5 | h5
          · have := Hk_len (N := N) (H0 := H0) h5; omega
          · subst h5; rw [hif] at h2; cases h2
          · have := Hk_len (N := N) (H0 := H0) h5; omega
    -- the step
    have hinv : ∀ (v' : Value) (w' : World) (ρ' : Rho), New ρ ρ' (Hk N H0 i).length (N i) w w' → (V i).rep ρ' v' → ((listed.setIfInBounds i true).getD j0 false = true → (listed.setIfInBounds i true).getD k0 false = false → Mine E d0 n kk ee B ρ' (a.put o.dst v') w') → InvX E ops m j0 k0 d0 n kk ee B V N T0 H0 (listed.setIfInBounds i true) (a.put o.dst v') w' := by
      intro v' w' ρ' hnew hv hmine
      have hset : ∀ j, j ≠ i → (listed.setIfInBounds i true).getD j false = listed.getD j false := fun j hj => getD_set_ne false (Ne.symm hj)
      have hseti : (listed.setIfInBounds i true).getD i false = true := by simp [hi.size, his]
      refine ⟨by simpa using hi.size, fun j p hp hjl e he hb => ?_, fun j h1 h2 => by rw [hset j (by omega)]; exact hi.late j h1 h2, ρ', k1.trans hnew.le, ?_, fun t => ?_, fun id x hx => ?_, (put_size _ _ _).trans k5, (by rw [put_defers]; exact k6.ext hnew.ext), k7.ext hnew.ext, hmine⟩
      · have keep : ∀ x, listed.getD x false = true → (listed.setIfInBounds i true).getD x false = true := fun x hx => getD_set_true hx
        by_cases hji : j = i
        · subst hji
          rw [ho] at hp
          cases hp
          exact keep _ (hedges e he hb)
        · rw [hset j hji] at hjl
          exact keep _ (hi.closed j p hp hjl e he hb)
      · refine k2.new' hW hnone (fun i' hi' => ?_) hnew
        rw [hrest', List.getElem?_append_right (by omega), Nat.add_sub_cancel_left, List.getElem?_append_left (by simpa using hi')]
        simp [hi']
      · have hslot : (a.put o.dst v').tmps.getD t undef = if o.dst = some t then v' else a.tmps.getD t undef := by
          cases hd : o.dst with
          | none => simp [Act.put]
          | some d =>
            simp only [Act.put]
            rw [getD_set _ _ _ _ (hdst d hd)]
            simp
        rw [hslot]
        refine ⟨fun j hj hlj hdj => ?_, fun hno => ?_⟩
        · by_cases hji : j = i
          · subst hji
            rw [ho] at hdj
            have hdj : o.dst = some t := by simpa using hdj
            rw [if_pos hdj]; exact hv
          · have hjs : j < ops.size := by omega
            have hp : ops[j]? = some ops[j] := by simp [hjs]
            have hd' : ops[j].dst = some t := by rw [hp] at hdj; simpa using hdj
            have h1 := (anyOk_head hany ho him hj hp hd').1
            rw [if_neg (h1.resolve_left hji)]
            rw [hset j hji] at hlj
            exact AV.rep_le hnew.le ((k3 t).1 j hj hlj hdj)
        · have : o.dst ≠ some t := by have := hno i him; rw [ho] at this; simpa using this
          rw [if_neg this]
          exact AV.rep_le hnew.le ((k3 t).2 hno)
      · obtain ⟨b, off⟩ := x
        rcases hnew.old id b off hx with h | ⟨h1, h2, _, _⟩
        · rcases k4 id _ h with h | ⟨j, h1, h2, h3⟩
          · exact .inl h
          · refine .inr ⟨j, h1, ?_, h3⟩
            by_cases hji : j = i
            · subst hji; exact hseti
            · rw [hset j hji]; exact h2
        · exact .inr ⟨i, him, hseti, h1, h2⟩
    have hus' : ∀ j, j < m → (listed.setIfInBounds i true).getD j false = false → j ∈ us.erase i := by
      intro j hj hjf
      by_cases hji : j = i
      · subst hji; simp [hi.size, his] at hjf
      · rw [getD_set_ne false (Ne.symm hji)] at hjf
        exact (List.mem_erase_of_ne hji).2 (hus j hj hjf)
    have hlen' : (us.erase i).length + l.length ≤ fuel := by
      have hmem := hus i him hif
      rw [List.length_erase_of_mem hmem]
      have := List.length_pos_of_mem hmem
      omega
    have hputo : ∀ (v' : Value) (t : Nat), o.dst ≠ some t → (a.put o.dst v').tmps.getD t undef = a.tmps.getD t undef := by
      intro v' t ht
      cases hd : o.dst with
      | none => simp [Act.put]
      | some d =>
        simp only [Act.put]
        rw [getD_set _ _ _ _ (hdst d hd), if_neg (fun e => ht (by rw [hd, e]))]
    unfold wpOp
    simp only [ho]
    rcases hso with ⟨hij, hik, o', ho', hso⟩ | ⟨rfl, hVj, hNj, o', ho', hod, hown⟩ | ⟨rfl, hVk, hNk, o', ho', hgo⟩
    · rw [ho] at ho'
      cases ho'
      have hkeep : ∀ (v' : Value) (w' : World) (ρ' : Rho), New ρ ρ' (Hk N H0 i).length (N i) w w' → ((listed.setIfInBounds i true).getD j0 false = true → (listed.setIfInBounds i true).getD k0 false = false → Mine E d0 n kk ee B ρ' (a.put o.dst v') w') := by
        intro v' w' ρ' hnew e1 e2
        rw [getD_set_ne false hij] at e1
        rw [getD_set_ne false hik] at e2
        obtain ⟨b, cap, m1, m2, m3, m4, m5, m6⟩ := k8 e1 e2
        have hj0s : j0 < ops.size := by omega
        have hp : ops[j0]? = some ops[j0] := by simp [hj0s]
        have hd0 : ops[j0].dst = some d0 := by
          rcases hstep j0 (by omega) with ⟨h1, _⟩ | ⟨_, _, _, o2, ho2, hod, _⟩ | ⟨h1, _⟩
          · exact absurd rfl h1
          · rw [hp] at ho2; cases ho2; exact hod
          · omega
        have hne : o.dst ≠ some d0 := ((anyOk_head hany ho him (show j0 < m by omega) hp hd0).1).resolve_left (fun e => hij e.symm)
        refine ⟨b, cap, by rw [hputo v' d0 hne]; exact m1, m2, by rw [hnew.ext.block b m5]; exact m3, m4, Nat.lt_of_lt_of_le m5 hnew.ext.size, fun id x hx => ?_⟩
        obtain ⟨b', o'⟩ := x
        rcases hnew.old id b' o' hx with h | ⟨_, _, h3, _⟩
        · exact m6 id _ h
        · show b' ≠ b
          omega
      rcases hso with ⟨hg, hh⟩ | ⟨hg, hv, hn⟩
      · rw [hwant _ hg]
        simp only [if_true]
        refine .inl (hh E.W ρ a w ((hrest' ▸ k2).sub_pre) hnone hopsrep _ Q ?_)
        rintro v' w' ⟨ρ', hnew, hv⟩
        exact ih (us.erase i) _ _ _ hus' hlen' (hinv v' w' ρ' hnew hv (hkeep v' w' ρ' hnew))
      · rw [hwant _ hg]
        simp only [Bool.false_eq_true, if_false]
        have hnw : New ρ ρ (Hk N H0 i).length (N i) w w := by rw [hn]; exact .nil (.refl _)
        refine ih (us.erase i) _ _ _ hus' hlen' (hinv undef w ρ hnw ?_ (hkeep undef w ρ hnw))
        rw [hv]; trivial
    · rw [ho] at ho'
      cases ho'
      rw [hwant _ (.free hown.1)]
      simp only [if_true]
      refine .inl (hown.2 E.W ρ a w ((hrest' ▸ k2).sub_pre) hopsrep _ Q fun cap hcap => ?_)
      have hex : Ext w (w.drew.alloc (.cells (rowOf kk B cap) ee)) := ext_drew _ _
      refine ih (us.erase i) _ _ _ hus' hlen' (hinv _ _ ρ (by rw [hNj]; exact .nil hex) (by rw [hVj]; trivial) fun _ _ => ?_)
      refine ⟨w.heap.size, cap, ?_, hcap, ?_, k7.size, (Array.getElem?_eq_some_iff.1 (heap_alloc_new w.drew (.cells (rowOf kk B cap) ee))).1, fun id x hx => ?_⟩
      · rw [hod]
        simp only [Act.put]
        rw [getD_set _ _ _ _ (hdst d0 hod), if_pos rfl]
      · exact heap_alloc_new w.drew _
      · have := k2.lt id x.1 x.2 hx
        omega
    · rw [ho] at ho'
      cases ho'
      rw [hwant _ (.free hgo.1)]
      simp only [if_true]
      have hjl : listed.getD j0 false = true := reach_listed hany hi.closed i o j0 ho hcon hedges
      obtain ⟨b, cap, m1, m2, m3, m4, m5, m6⟩ := k8 hjl hif
      have hN1 : ρ (Hk N H0 i).length = none := by
        have := hnone 0 (by rw [hNk]; simp)
        simpa using this
      have hHb : (Hk N H0 m)[(Hk N H0 i).length]? = some (some ⟨true, [.ints kk (n + C.length) (B ++ C)]⟩) := by
        rw [hrest', List.getElem?_append_right (Nat.le_refl _), Nat.sub_self, hNk]; rfl
      refine .inl (hgo.2 E.W ρ a w b cap ((hrest' ▸ k2).sub_pre) hopsrep m1 m2 m3 m6 _ Q fun b' cap' w' went => ?_)
      obtain ⟨q1, q2, q3, q4, q5, q6, q7⟩ := went
      have hWb : E.W b' := by
        rcases q4 with e | e
        · rw [e]; exact E.hW b m4
        · rw [e]; exact E.hW _ k7.size
      have hfr : Fr E.W w w' := ⟨q7.1, q7.2.1, q7.2.2, q5, fun j hj hnW => q6 j hj (fun e => hnW (by rw [e]; exact hWb)), fun j ob hj hc => by
        have hjs : j < w.heap.size := by
          rcases Nat.lt_or_ge j w.heap.size with h | h
          · exact h
          · rw [Array.getElem?_eq_none h] at hj; cases hj
        rw [q6 j hjs (fun e => by
          rcases q4 with e2 | e2
          · rw [e, e2, m3] at hj; cases hj; simp [Obj.isCells] at hc
          · omega)]
        exact hj⟩
      have hnb : ∀ id x, ρ id = some x → x.1 ≠ b' := fun id x hx => by
        rcases q4 with e | e
        · rw [e]; exact m6 id x hx
        · have := k2.lt id x.1 x.2 hx; omega
      have hle : Rle ρ (upd ρ (Hk N H0 i).length b') := upd_le hN1
      have hset : ∀ j, j ≠ i → (listed.setIfInBounds i true).getD j false = listed.getD j false := fun j hj => getD_set_ne false (Ne.symm hj)
      have hseti : (listed.setIfInBounds i true).getD i false = true := by simp [hi.size, his]
      refine ih (us.erase i) _ _ _ hus' hlen' ⟨by simpa using hi.size, fun j p hp hjl e he hb => ?_, fun j h1 h2 => by rw [hset j (by omega)]; exact hi.late j h1 h2, upd ρ (Hk N H0 i).length b', k1.trans hle, ?_, fun t => ?_, fun id x hx => ?_, (put_size _ _ _).trans k5, (by rw [put_defers]; exact k6.fr hfr), k7.trans hfr, fun _ e2 => by rw [hseti] at e2; cases e2⟩
      · by_cases hji : j = i
        · subst hji
          rw [ho] at hp
          cases hp
          exact getD_set_true (hedges e he hb)
        · rw [hset j hji] at hjl
          exact getD_set_true (hi.closed j p hp hjl e he hb)
      · refine ⟨fun id b2 o2 e => ?_, fun id b2 o2 q e e2 => ?_, fun id id' b2 o2 o2' q q' hne e e' e2 e2' => ?_⟩
        · by_cases hid : id = (Hk N H0 i).length
          · simp [upd, hid] at e; obtain ⟨rfl, rfl⟩ := e; exact q2
          · simp [upd, hid] at e; exact Nat.lt_of_lt_of_le (k2.lt _ _ _ e) q5
        · by_cases hid : id = (Hk N H0 i).length
          · subst hid
            simp [upd] at e; obtain ⟨rfl, rfl⟩ := e
            rw [hHb] at e2; cases e2
            obtain ⟨cells, tt', c1, c2⟩ := q3
            refine ⟨⟨cells, tt', (0, 0), c1, fun _ => rfl, fun j y hy => ?_⟩, fun _ => hWb⟩
            obtain ⟨hj, rfl⟩ := atS_ints1 hy
            exact ⟨_, by have := c2 j hj; simpa using this, rfl, rfl⟩
          · simp [upd, hid] at e
            have hr := k2.rep id b2 o2 q e e2
            refine ⟨(hr.1.world (q6 b2 (k2.lt _ _ _ e) (hnb id _ e))).le hle, hr.2⟩
        · by_cases hid : id = (Hk N H0 i).length <;> by_cases hid' : id' = (Hk N H0 i).length
          · exact absurd (hid.trans hid'.symm) hne
          · simp [upd, hid] at e; simp [upd, hid'] at e'; obtain ⟨rfl, rfl⟩ := e; exact absurd rfl (hnb id' _ e')
          · simp [upd, hid] at e; simp [upd, hid'] at e'; obtain ⟨rfl, rfl⟩ := e'; exact absurd rfl (hnb id _ e)
          · simp [upd, hid] at e; simp [upd, hid'] at e'; exact k2.apart id id' b2 o2 o2' q q' hne e e' e2 e2'
      · refine ⟨fun j hj hlj hdj => ?_, fun hno => ?_⟩
        · by_cases hji : j = i
          · subst hji
            rw [ho] at hdj
            have hdj : o.dst = some t := by simpa using hdj
            rw [hVk, hdj]
            simp only [Act.put]
            rw [getD_set _ _ _ _ (hdst t hdj), if_pos rfl]
            exact ⟨b', 0, cap', by simp [upd], rfl, q1⟩
          · have hjs : j < ops.size := by omega
            have hp : ops[j]? = some ops[j] := by simp [hjs]
            have hd' : ops[j].dst = some t := by rw [hp] at hdj; simpa using hdj
            have h1 := (anyOk_head hany ho him hj hp hd').1
            rw [hputo _ t (h1.resolve_left hji)]
            rw [hset j hji] at hlj
            exact AV.rep_le hle ((k3 t).1 j hj hlj hdj)
        · have : o.dst ≠ some t := by have := hno i him; rw [ho] at this; simpa using this
          rw [hputo _ t this]
          exact AV.rep_le hle ((k3 t).2 hno)
      · by_cases hid : id = (Hk N H0 i).length
        · subst hid; exact .inr ⟨i, him, hseti, Nat.le_refl _, by rw [hNk]; simp⟩
        · simp [upd, hid] at hx
          rcases k4 id _ hx with h | ⟨j, h1, h2, h3⟩
          · exact .inl h
          · refine .inr ⟨j, h1, ?_, h3⟩
            by_cases hji : j = i
            · subst hji; exact hseti
            · rw [hset j hji]; exact h2


theorem Rep.invX {j0 k0 d0 n : Nat} {kk : IntKind} {ee : TypeId} {B : List Int} {E : Env} {ops : Array Oper} {m : Nat} {V : Nat → AV} {N : Nat → List Blk} {T0 : Tm} {H0 : Heap} {a : Act} {w : World} (h : Rep E T0 H0 a w) : InvX E ops m j0 k0 d0 n kk ee B V N T0 H0 (Array.replicate ops.size false) a w := by
  obtain ⟨ρ, k1, k2, k3, k4, k5, k6, k7⟩ := h
  obtain ⟨r, hr⟩ := Hk_le (N := N) (H0 := H0) (Nat.zero_le m)
  simp only [Hk] at hr
  refine ⟨by simp, fun i o _ hi => (by rw [getD_rep_false] at hi; cases hi), fun i _ _ => getD_rep_false _ _, ρ, k1, ⟨k3.lt, fun id b o k h1 h2 => ?_, fun id id' b o o' k k' hne h1 h2 h3 h4 => ?_⟩, fun t => ⟨fun j _ hj => by (rw [getD_rep_false] at hj; cases hj), fun _ => k4 t⟩, fun id x hx => .inl ?_, k5, k6, k7, fun hj => by (rw [getD_rep_false] at hj; cases hj)⟩
  · have hid : id < H0.length := by
      rcases Nat.lt_or_ge id H0.length with h | h
      · exact h
      · rw [k2 id h] at h1; cases h1
    rw [hr, List.getElem?_append_left hid] at h2
    exact k3.rep id b o k h1 h2
  · have hid : id < H0.length := by
      rcases Nat.lt_or_ge id H0.length with h | h
      · exact h
      · rw [k2 id h] at h1; cases h1
    have hid' : id' < H0.length := by
      rcases Nat.lt_or_ge id' H0.length with h | h
      · exact h
      · rw [k2 id' h] at h2; cases h2
    rw [hr, List.getElem?_append_left hid] at h3
    rw [hr, List.getElem?_append_left hid'] at h4
    exact k3.apart id id' b o o' k k' hne h1 h2 h3 h4
  · rcases Nat.lt_or_ge id H0.length with h | h
    · exact h
    · rw [k2 id h] at hx; cases hx


/-- **A region that draws its order.** -/
theorem region_app {j0 k0 d0 n : Nat} {kk : IntKind} {ee : TypeId} {B C : List Int} {E : Env} {id : Nat} {ops : Array Oper} {Q : Exit → Act → World → Prop} {m : Nat} (hmix : E.P.follows .mixedOrders = true) (hok : regionOk E.n ops = true) (hany : anyOk ops m = true) {l1 l2 : List Oper} (hl : ops.toList = l1 ++ l2) (hm : l1.length = m)
    {T T1 T' : Tm} {H H1 H' : Heap} (hj0 : j0 < k0) (hk0 : k0 < m) (hcon : ((reach ops).getD k0 0).testBit j0 = true) (h1 : XSteps E.P ops j0 k0 d0 n kk ee B C l1 0 T H T1 H1) (h2 : Steps E.P ops l2 T1 H1 T' H') {a : Act} {w : World} (hr : Rep E T H a w) (hQ : ∀ a' w', Rep E T' H' a' w' → Q .normal a' w') : (Code.region id ops true).wp E.P Q a w := by
  have hsz : ops.size = m + l2.length := by rw [← Array.length_toList, hl]; simp [hm]
  have hget : ∀ j, ops[j]? = (l1 ++ l2)[j]? := fun j => by rw [← Array.getElem?_toList, hl]
  have htake : ∀ (j : Nat), j < m → l1[j]? = ops[j]? := fun j hj => by rw [hget, List.getElem?_append_left (by omega)]
  -- the trace wants a list that goes on as ops does: taken up to m
  obtain ⟨V, N, _, k2, k3, k4⟩ := traceX h1 T H (fun _ => .s .junk) (fun _ => []) (fun j hj => by rw [Nat.zero_add]; exact htake j (by omega)) rfl rfl
  rw [Nat.zero_add, hm] at k3 k4
  refine wp_region_any hmix ?_
  refine head_app (C := C) hok hany (by omega) hj0 hk0 hcon (fun k hk => k2 k (Nat.zero_le _) (by omega)) (l := l2) (fun j => ?_) (by omega) (k3 ▸ k4 ▸ h2) hQ ops.size (List.range m) _ a _ (fun j hj _ => List.mem_range.2 hj) (by simp; omega) hr.drew.invX
  rw [hget, List.getElem?_append_right (by omega), ← hm, Nat.add_sub_cancel_left]
end Go.Ab
