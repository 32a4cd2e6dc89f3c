/- A region that draws: ahead of 'm' in any order, from there on one behind the other. -/
import Derived.Test.YtffflnpidipheaaAb4
namespace Go.Ab

def Tk (ops : Array Oper) (V : Nat → AV) (T0 : Tm) : Nat → Tm
  | 0 => T0
  | k + 1 => put (Tk ops V T0 k) ((ops[k]?).bind (·.dst)) (V k)
def Hk (N : Nat → List Blk) (H0 : Heap) : Nat → Heap
  | 0 => H0
  | k + 1 => Hk N H0 k ++ (N k).map some

def StepOk (P : Program) (ops : Array Oper) (V : Nat → AV) (N : Nat → List Blk) (T0 : Tm) (H0 : Heap) (k : Nat) : Prop :=
  ∃ o, ops[k]? = some o ∧ ((Guard ops (Tk ops V T0 k) o true ∧ HOk P o (Tk ops V T0 k) (Hk N H0 k) (V k) (N k)) ∨ (Guard ops (Tk ops V T0 k) o false ∧ V k = .s .junk ∧ N k = []))

theorem Tk_congr {ops : Array Oper} {V V' : Nat → AV} {T0 : Tm} : ∀ {k : Nat}, (∀ j, j < k → V j = V' j) → Tk ops V T0 k = Tk ops V' T0 k
  | 0, _ => rfl
  | k + 1, h => by simp only [Tk]; rw [Tk_congr (fun j hj => h j (by omega)), h k (by omega)]
theorem Hk_congr {N N' : Nat → List Blk} {H0 : Heap} : ∀ {k : Nat}, (∀ j, j < k → N j = N' j) → Hk N H0 k = Hk N' H0 k
  | 0, _ => rfl
  | k + 1, h => by simp only [Hk]; rw [Hk_congr (fun j hj => h j (by omega)), h k (by omega)]

theorem trace' {P : Program} {ops : Array Oper} {l : List Oper} {T T' : Tm} {H H' : Heap} (hs : HSteps P ops l T H T' H') (T0 : Tm) (H0 : Heap) :
    ∀ (i : Nat) (V0 : Nat → AV) (N0 : Nat → List Blk), (∀ j, j < l.length → l[j]? = ops[i + j]?) → T = Tk ops V0 T0 i → H = Hk N0 H0 i →
      ∃ V N, (∀ j, j < i → V j = V0 j ∧ N j = N0 j) ∧ (∀ k, i ≤ k → k < i + l.length → StepOk P ops V N T0 H0 k) ∧ Tk ops V T0 (i + l.length) = T' ∧ Hk N H0 (i + l.length) = H' := by
  induction hs with
  | nil => exact fun i V0 N0 _ hT hH => ⟨V0, N0, fun _ _ => ⟨rfl, rfl⟩, fun k h1 h2 => by simp at h2; omega, hT.symm, hH.symm⟩
  | @cons o r T H v nb T' H' hg h _ ih =>
    intro i V0 N0 hl hT hH
    have h0 : ops[i]? = some o := by have := hl 0 (by simp); simpa using this.symm
    let V1 : Nat → AV := fun j => if j = i then v else V0 j
    let N1 : Nat → List Blk := fun j => if j = i then nb else N0 j
    have eT : Tk ops V1 T0 i = T := by rw [hT]; exact Tk_congr fun j hj => by simp [V1, show j ≠ i by omega]
    have eH : Hk N1 H0 i = H := by rw [hH]; exact Hk_congr fun j hj => by simp [N1, show j ≠ i by omega]
    obtain ⟨V, N, k1, k2, k3, k4⟩ := ih (i + 1) V1 N1 (fun j hj => by have := hl (j + 1) (by simpa using hj); simpa [Nat.add_assoc, Nat.add_comm 1 j] using this) (by simp only [Tk, eT, h0, Option.bind_some]; simp [V1]) (by simp only [Hk, eH]; simp [N1])
    have vi : V i = v := by rw [(k1 i (by omega)).1]; simp [V1]
    have ni : N i = nb := by rw [(k1 i (by omega)).2]; simp [N1]
    refine ⟨V, N, fun j hj => ?_, fun k h1 h2 => ?_, by rw [List.length_cons, ← k3]; congr 1; omega, by rw [List.length_cons, ← k4]; congr 1; omega⟩
    · have := k1 j (by omega)
      simpa [V1, N1, show j ≠ i by omega] using this
    · by_cases hk : k = i
      · subst hk
        refine ⟨o, h0, .inl ?_⟩
        have e1 : Tk ops V T0 k = T := by rw [← eT]; exact Tk_congr fun j hj => (k1 j (by omega)).1
        have e2 : Hk N H0 k = H := by rw [← eH]; exact Hk_congr fun j hj => (k1 j (by omega)).2
        rw [e1, e2, vi, ni]; exact ⟨hg, h⟩
      · exact k2 k (by omega) (by simp at h2; omega)
  | @skip o r T H T' H' hg _ ih =>
    intro i V0 N0 hl hT hH
    have h0 : ops[i]? = some o := by have := hl 0 (by simp); simpa using this.symm
    let V1 : Nat → AV := fun j => if j = i then .s .junk else V0 j
    let N1 : Nat → List Blk := fun j => if j = i then [] else N0 j
    have eT : Tk ops V1 T0 i = T := by rw [hT]; exact Tk_congr fun j hj => by simp [V1, show j ≠ i by omega]
    have eH : Hk N1 H0 i = H := by rw [hH]; exact Hk_congr fun j hj => by simp [N1, show j ≠ i by omega]
    obtain ⟨V, N, k1, k2, k3, k4⟩ := ih (i + 1) V1 N1 (fun j hj => by have := hl (j + 1) (by simpa using hj); simpa [Nat.add_assoc, Nat.add_comm 1 j] using this) (by simp only [Tk, eT, h0, Option.bind_some]; simp [V1]) (by simp only [Hk, eH]; simp [N1])
    have vi : V i = .s .junk := by rw [(k1 i (by omega)).1]; simp [V1]
    have ni : N i = [] := by rw [(k1 i (by omega)).2]; simp [N1]
    refine ⟨V, N, fun j hj => ?_, fun k h1 h2 => ?_, by rw [List.length_cons, ← k3]; congr 1; omega, by rw [List.length_cons, ← k4]; congr 1; omega⟩
    · have := k1 j (by omega)
      simpa [V1, N1, show j ≠ i by omega] using this
    · by_cases hk : k = i
      · subst hk
        refine ⟨o, h0, .inr ?_⟩
        have e1 : Tk ops V T0 k = T := by rw [← eT]; exact Tk_congr fun j hj => (k1 j (by omega)).1
        rw [e1, vi, ni]; exact ⟨hg, rfl, rfl⟩
      · exact k2 k (by omega) (by simp at h2; omega)

/-- What slot t holds at k: the last one's value that wrote it, or what it held. -/
theorem look_Tk {ops : Array Oper} {V : Nat → AV} {T0 : Tm} (t : Nat) : ∀ (k : Nat),
    (∃ j, j < k ∧ (ops[j]?).bind (·.dst) = some t ∧ look (Tk ops V T0 k) t = V j) ∨ ((∀ j, j < k → (ops[j]?).bind (·.dst) ≠ some t) ∧ look (Tk ops V T0 k) t = look T0 t)
  | 0 => .inr ⟨fun j hj => absurd hj (by omega), rfl⟩
  | k + 1 => by
    simp only [Tk]
    cases hd : (ops[k]?).bind (·.dst) with
    | none =>
      rcases look_Tk (ops := ops) (V := V) (T0 := T0) t k with ⟨j, h1, h2, h3⟩ | ⟨h1, h2⟩
      · exact .inl ⟨j, by omega, h2, h3⟩
      · refine .inr ⟨fun j hj => ?_, h2⟩
        by_cases hk : j = k
        · subst hk; rw [hd]; simp
        · exact h1 j (by omega)
    | some d =>
      simp only [put, look_cons]
      by_cases hdt : d = t
      · subst hdt
        exact .inl ⟨k, by omega, hd, by simp⟩
      · rw [if_neg hdt]
        rcases look_Tk (ops := ops) (V := V) (T0 := T0) t k with ⟨j, h1, h2, h3⟩ | ⟨h1, h2⟩
        · exact .inl ⟨j, by omega, h2, h3⟩
        · refine .inr ⟨fun j hj => ?_, h2⟩
          by_cases hk : j = k
          · subst hk; rw [hd]; simpa using hdt
          · exact h1 j (by omega)

theorem Hk_le {N : Nat → List Blk} {H0 : Heap} {k m : Nat} (h : k ≤ m) : ∃ r, Hk N H0 m = Hk N H0 k ++ r := by
  induction m with
  | zero => have : k = 0 := by omega
            subst this; exact ⟨[], by simp⟩
  | succ m ih =>
    by_cases hk : k = m + 1
    · subst hk; exact ⟨[], by simp⟩
    · obtain ⟨r, hr⟩ := ih (by omega)
      exact ⟨r ++ (N m).map some, by simp only [Hk, hr, List.append_assoc]⟩

theorem Hk_len {N : Nat → List Blk} {H0 : Heap} {k m : Nat} (h : k < m) : (Hk N H0 k).length + (N k).length ≤ (Hk N H0 m).length := by
  obtain ⟨r, hr⟩ := Hk_le (N := N) (H0 := H0) (show k + 1 ≤ m by omega)
  rw [hr]; simp [Hk]

theorem HRep.sub_pre {W : Nat → Prop} {ρ : Rho} {H r : Heap} {w : World} (h : HRep W ρ (H ++ r) w) : HRep W ρ H w :=
  h.sub fun id k hk => by
    have : id < H.length := by
      rcases Nat.lt_or_ge id H.length with h | h
      · exact h
      · rw [List.getElem?_eq_none h] at hk; cases hk
    rw [List.getElem?_append_left this]; exact hk

/-- New blocks, among others that are told already. -/
theorem HRep.new' {W : Nat → Prop} {ρ ρ' : Rho} {H : Heap} {n : Nat} {nb : List Blk} {w w' : World} (h : HRep W ρ H w) (hW : ∀ b, w.heap.size ≤ b → W b)
    (hn : ∀ i, i < nb.length → ρ (n + i) = none) (hH : ∀ i, i < nb.length → H[n + i]? = some nb[i]?) (k : New ρ ρ' n nb w w') : HRep W ρ' H w' := by
  have key : ∀ id b o, ρ' id = some (b, o) → (ρ id = some (b, o) ∧ b < w.heap.size) ∨ (n ≤ id ∧ id < n + nb.length ∧ w.heap.size ≤ b ∧ b < w'.heap.size) := by
    intro id b o e
    rcases k.old id b o e with h1 | h1
    · exact .inl ⟨h1, h.lt _ _ _ h1⟩
    · exact .inr h1
  refine ⟨fun id b o e => ?_, fun id b o q e e2 => ?_, fun id id' b o o' q q' hne e e' e2 e2' => ?_⟩
  · rcases key id b o e with ⟨_, h3⟩ | h3
    · exact Nat.lt_of_lt_of_le h3 k.ext.size
    · exact h3.2.2.2
  · rcases key id b o e with ⟨h1, h3⟩ | h3
    · have := h.rep id b o q h1 e2
      exact ⟨(this.1.ext k.ext).le k.le, this.2⟩
    · have h4 := hH (id - n) (by omega)
      rw [show n + (id - n) = id by omega, e2] at h4
      have h5 := k.rep (id - n) q (Option.some.inj h4).symm b o (by rw [show n + (id - n) = id by omega]; exact e)
      exact ⟨h5, fun _ => hW b h3.2.2.1⟩
  · rcases key id b o e with ⟨h1, h3⟩ | h3 <;> rcases key id' b o' e' with ⟨h1', h3'⟩ | h3'
    · exact h.apart id id' b o o' q q' hne h1 h1' e2 e2'
    · omega
    · omega
    · exact absurd (k.apart id id' b o o' h3.1 h3.2.1 h3'.1 h3'.2.1 e e') hne

structure Inv (E : Env) (ops : Array Oper) (m : Nat) (V : Nat → AV) (N : Nat → List Blk) (T0 : Tm) (H0 : Heap) (listed : Array Bool) (a : Act) (w : World) : Prop where
  size : listed.size = ops.size
  closed : Closed ops listed
  late : ∀ i, m ≤ i → i < ops.size → listed.getD i false = false
  ex : ∃ ρ, Rle E.ρ0 ρ ∧ HRep E.W ρ (Hk N H0 m) w ∧
    (∀ t, (∀ j, j < m → listed.getD j false = true → (ops[j]?).bind (·.dst) = some t → (V j).rep ρ (a.tmps.getD t undef)) ∧ ((∀ j, j < m → (ops[j]?).bind (·.dst) ≠ some t) → (look T0 t).rep ρ (a.tmps.getD t undef))) ∧
    (∀ id x, ρ id = some x → id < H0.length ∨ ∃ j, j < m ∧ listed.getD j false = true ∧ (Hk N H0 j).length ≤ id ∧ id < (Hk N H0 j).length + (N j).length) ∧
    a.tmps.size = E.n ∧ DefOk E.w0 a.defers w ∧ Fr E.W E.w0 w

theorem looksAt_op {ops : Array Oper} {o : Oper} {t : Nat} (h : Operand.tmp t ∈ o.op.operands) : t ∈ o.looksAt ops := by
  unfold Oper.looksAt
  refine List.mem_append.2 (.inl (List.mem_filterMap.2 ⟨.tmp t, by simpa using h, rfl⟩))
theorem looksAt_guard {ops : Array Oper} {o : Oper} {j t : Nat} {b : Bool} (h : o.guard = some (j, b)) (ht : (ops[j]?).bind (·.dst) = some t) : t ∈ o.looksAt ops := by
  unfold Oper.looksAt
  refine List.mem_append.2 (.inr ?_)
  simp [h, ht]

theorem head_any {E : Env} {ops : Array Oper} {Q : Exit → Act → World → Prop} {m : Nat} (hok : regionOk E.n ops = true) (hany : anyOk ops m = true) (hm : m ≤ ops.size) {V : Nat → AV} {N : Nat → List Blk} {T0 : Tm} {H0 : Heap}
    (hstep : ∀ k, k < m → StepOk E.P ops V N T0 H0 k) {l : List Oper} (hl : ∀ j, l[j]? = ops[m + j]?) (hlen : m + l.length = ops.size) {T' : Tm} {H' : Heap} (htail : Steps E.P ops l (Tk ops V T0 m) (Hk N H0 m) T' H') (hQ : ∀ a' w', Rep E T' H' a' w' → Q .normal a' w') :
    ∀ (fuel : Nat) (us : List Nat) (listed : Array Bool) (a : Act) (w : World), (∀ j, j < m → listed.getD j false = false → j ∈ us) → us.length + l.length ≤ fuel → Inv E ops m V N T0 H0 listed a w → wpAny E.P .any ops Q fuel listed a w := by
  have finish : ∀ (fuel : Nat) (listed : Array Bool) (a : Act) (w : World), (∀ j, j < m → listed.getD j false = true) → l.length ≤ fuel → Inv E ops m V N T0 H0 listed a w → wpAny E.P .any ops Q fuel listed a w := by
    intro fuel listed a w hall hf hi
    refine tail_any hok hany htail m (Nat.le_refl _) hlen hl fuel listed hf hi.size (fun i his => ?_) a w ?_ hQ
    · rcases Nat.lt_or_ge i m with h | h
      · rw [hall i h]; simp [h]
      · rw [hi.late i h his]; simp; omega
    · obtain ⟨ρ, k1, k2, k3, k4, k5, k6, k7⟩ := hi.ex
      refine ⟨ρ, k1, fun id hid => ?_, k2, fun t => ?_, k5, k6, k7⟩
      · cases hr : ρ id with
        | none => rfl
        | some x =>
          rcases k4 id x hr with h | ⟨j, h1, _, _, h2⟩
          · obtain ⟨r, hr⟩ := Hk_le (N := N) (H0 := H0) (Nat.zero_le m)
            simp only [Hk] at hr
            rw [hr] at hid
            simp at hid; omega
          · have := Hk_len (N := N) (H0 := H0) h1
            omega
      · rcases look_Tk (ops := ops) (V := V) (T0 := T0) t m with ⟨j, h1, h2, h3⟩ | ⟨h1, h2⟩
        · rw [h3]; exact (k3 t).1 j h1 (hall j h1) h2
        · rw [h2]; exact (k3 t).2 h1
  intro fuel
  induction fuel with
  | zero =>
    intro us listed a w hus hf hi
    refine finish 0 listed a w (fun j hj => ?_) (by omega) hi
    cases hb : listed.getD j false with
    | true => rfl
    | false => have := hus j hj hb; have := List.length_pos_of_mem this; omega
  | succ fuel ih =>
    intro us listed a w hus hf hi
    by_cases hall : ∀ j, j < m → listed.getD j false = true
    · exact finish _ listed a w hall (by omega) hi
    have hex : ∃ j, j < m ∧ listed.getD j false = false := by
      apply Classical.byContradiction
      intro hn
      refine hall fun j hj => ?_
      cases hb : listed.getD j false with
      | true => rfl
      | false => exact absurd ⟨j, hj, hb⟩ hn
    -- the least unlisted one is ready
    have hready : ∃ j, j ∈ Region.ready .any ops listed := by
      have hleast : ∀ n, (∃ j, j ≤ n ∧ j < m ∧ listed.getD j false = false) → ∃ j, j < m ∧ listed.getD j false = false ∧ ∀ i, i < j → listed.getD i false = true := by
        intro n
        induction n with
        | zero =>
          rintro ⟨j, h1, h2, h3⟩
          have : j = 0 := by omega
          subst this
          exact ⟨0, h2, h3, fun i hi => absurd hi (by omega)⟩
        | succ n ihn =>
          rintro ⟨j, h1, h2, h3⟩
          by_cases hh : ∃ j, j ≤ n ∧ j < m ∧ listed.getD j false = false
          · exact ihn hh
          · refine ⟨j, h2, h3, fun i hi => ?_⟩
            cases hb : listed.getD i false with
            | true => rfl
            | false => exact absurd ⟨i, by omega, by omega, hb⟩ hh
      obtain ⟨j0, h1, h2⟩ := hex
      obtain ⟨j, hj, hjf, hji⟩ := hleast j0 ⟨j0, Nat.le_refl _, h1, h2⟩
      have hjs : j < ops.size := by omega
      have ho : ops[j]? = some ops[j] := by simp [hjs]
      exact ⟨j, mem_ready.2 ⟨by simp [hi.size, hjs] at hjf ⊢; exact hjf, _, ho, fun e he hb => hji _ (anyOk_edge hany ho e he hb)⟩⟩
    refine ⟨fun hn => (by obtain ⟨j, hj⟩ := hready; rw [hn] at hj; cases hj), fun i hir => ?_⟩
    obtain ⟨hun, o, ho, hedges⟩ := mem_ready.1 hir
    have his : i < ops.size := (Array.getElem?_eq_some_iff.1 ho).1
    have hif : listed.getD i false = false := by simp [hi.size, his] at hun ⊢; exact hun
    have him : i < m := by
      rcases Nat.lt_or_ge i m with h | h
      · exact h
      · obtain ⟨j, h1, h2⟩ := hex
        have := reach_listed hany hi.closed i o j ho (anyOk_tail hany ho h j (by omega)) hedges
        rw [h2] at this; cases this
    obtain ⟨ρ, k1, k2, k3, k4, k5, k6, k7⟩ := hi.ex
    obtain ⟨o', ho', hso⟩ := hstep i him
    rw [ho] at ho'
    cases ho'
    -- what it looks at is told
    have hlook : ∀ t, t ∈ o.looksAt ops → (look (Tk ops V T0 i) t).rep ρ (a.tmps.getD t undef) := by
      intro t ht
      rcases look_Tk (ops := ops) (V := V) (T0 := T0) t i with ⟨j, h1, h2, h3⟩ | ⟨h1, h2⟩
      · rw [h3]
        have hjs : j < ops.size := by omega
        have hp : ops[j]? = some ops[j] := by simp [hjs]
        have hd : ops[j].dst = some t := by rw [hp] at h2; simpa using h2
        have := (anyOk_head hany ho him (show j < m by omega) hp hd).2 ht
        exact (k3 t).1 j (by omega) (reach_listed hany hi.closed i o j ho this.2 hedges) h2
      · rw [h2]
        refine (k3 t).2 fun j hj hd => ?_
        by_cases hji : j < i
        · exact h1 j hji hd
        · have hjs : j < ops.size := by omega
          have hp : ops[j]? = some ops[j] := by simp [hjs]
          have hd' : ops[j].dst = some t := by rw [hp] at hd; simpa using hd
          have := (anyOk_head hany ho him hj hp hd').2 ht
          omega
    have hopk := regionOk_op hok ho
    have hopsrep : Ops o (Tk ops V T0 i) ρ a := by
      intro x hx
      simp only [opOk, Bool.and_eq_true, Array.all_eq_true_iff_forall_mem] at hopk
      cases x with
      | tmp t => exact hlook t (looksAt_op hx)
      | global g => trivial
      | func f => exact ⟨rfl, rfl⟩
      | const c =>
        have h := hopk.1.1 _ hx
        simp only [operandOk] at h
        unfold constOk at h
        split at h <;> first
          | (cases h; done)
          | exact rfl
          | exact ⟨rfl, rfl⟩
    have hdst : ∀ d, o.dst = some d → d < a.tmps.size := fun d hd => by rw [k5]; exact opOk_dst hopk d hd
    have hwant : ∀ c, Guard ops (Tk ops V T0 i) o c → Region.wanted o (yielded ops a.tmps) = c := fun c hg =>
      hg.wanted (ρ := ρ) fun j b t e1 e2 => ⟨hlook t (looksAt_guard e1 e2), by rw [k5]; exact regionOk_guard hok j t e2⟩
    have hW : ∀ b, w.heap.size ≤ b → E.W b := fun b hb => E.hW b (Nat.le_trans k7.size hb)
    obtain ⟨rest, hrest⟩ := Hk_le (N := N) (H0 := H0) (show i + 1 ≤ m by omega)
    have hrest' : Hk N H0 m = Hk N H0 i ++ ((N i).map some ++ rest) := by rw [hrest]; simp only [Hk, List.append_assoc]
    have hnone : ∀ i', i' < (N i).length → ρ ((Hk N H0 i).length + i') = none := by
      intro i' hi'
      cases hr : ρ ((Hk N H0 i).length + i') with
      | none => rfl
      | some x =>
        rcases k4 _ x hr with h | ⟨j, h1, h2, h3, h4⟩
        · obtain ⟨r, hr⟩ := Hk_le (N := N) (H0 := H0) (Nat.zero_le i)
          simp only [Hk] at hr
          rw [hr] at h; simp at h; omega
        · rcases Nat.lt_trichotomy i j with h5 | h5 | h5
          · have := Hk_len (N := N) (H0 := H0) h5; omega
          · subst h5; rw [hif] at h2; cases h2
          · have := Hk_len (N := N) (H0 := H0) h5; omega
    -- the step
    have hinv : ∀ (v' : Value) (w' : World) (ρ' : Rho), New ρ ρ' (Hk N H0 i).length (N i) w w' → (V i).rep ρ' v' → Inv E ops m V N T0 H0 (listed.setIfInBounds i true) (a.put o.dst v') w' := by
      intro v' w' ρ' hnew hv
      have hset : ∀ j, j ≠ i → (listed.setIfInBounds i true).getD j false = listed.getD j false := fun j hj => getD_set_ne false (Ne.symm hj)
      have hseti : (listed.setIfInBounds i true).getD i false = true := by simp [hi.size, his]
      refine ⟨by simpa using hi.size, fun j p hp hjl e he hb => ?_, fun j h1 h2 => by rw [hset j (by omega)]; exact hi.late j h1 h2, ρ', k1.trans hnew.le, ?_, fun t => ?_, fun id x hx => ?_, (put_size _ _ _).trans k5, (by rw [put_defers]; exact k6.ext hnew.ext), k7.ext hnew.ext⟩
      · have keep : ∀ x, listed.getD x false = true → (listed.setIfInBounds i true).getD x false = true := fun x hx => getD_set_true hx
        by_cases hji : j = i
        · subst hji
          rw [ho] at hp
          cases hp
          exact keep _ (hedges e he hb)
        · rw [hset j hji] at hjl
          exact keep _ (hi.closed j p hp hjl e he hb)
      · refine k2.new' hW hnone (fun i' hi' => ?_) hnew
        rw [hrest', List.getElem?_append_right (by omega), Nat.add_sub_cancel_left, List.getElem?_append_left (by simpa using hi')]
        simp [hi']
      · have hslot : (a.put o.dst v').tmps.getD t undef = if o.dst = some t then v' else a.tmps.getD t undef := by
          cases hd : o.dst with
          | none => simp [Act.put]
          | some d =>
            simp only [Act.put]
            rw [getD_set _ _ _ _ (hdst d hd)]
            simp
        rw [hslot]
        refine ⟨fun j hj hlj hdj => ?_, fun hno => ?_⟩
        · by_cases hji : j = i
          · subst hji
            rw [ho] at hdj
            have hdj : o.dst = some t := by simpa using hdj
            rw [if_pos hdj]; exact hv
          · have hjs : j < ops.size := by omega
            have hp : ops[j]? = some ops[j] := by simp [hjs]
            have hd' : ops[j].dst = some t := by rw [hp] at hdj; simpa using hdj
            have h1 := (anyOk_head hany ho him hj hp hd').1
            rw [if_neg (h1.resolve_left hji)]
            rw [hset j hji] at hlj
            exact AV.rep_le hnew.le ((k3 t).1 j hj hlj hdj)
        · have : o.dst ≠ some t := by have := hno i him; rw [ho] at this; simpa using this
          rw [if_neg this]
          exact AV.rep_le hnew.le ((k3 t).2 hno)
      · obtain ⟨b, off⟩ := x
        rcases hnew.old id b off hx with h | ⟨h1, h2, _, _⟩
        · rcases k4 id _ h with h | ⟨j, h1, h2, h3⟩
          · exact .inl h
          · refine .inr ⟨j, h1, ?_, h3⟩
            by_cases hji : j = i
            · subst hji; exact hseti
            · rw [hset j hji]; exact h2
        · exact .inr ⟨i, him, hseti, h1, h2⟩
    have hus' : ∀ j, j < m → (listed.setIfInBounds i true).getD j false = false → j ∈ us.erase i := by
      intro j hj hjf
      by_cases hji : j = i
      · subst hji; simp [hi.size, his] at hjf
      · rw [getD_set_ne false (Ne.symm hji)] at hjf
        exact (List.mem_erase_of_ne hji).2 (hus j hj hjf)
    have hlen' : (us.erase i).length + l.length ≤ fuel := by
      have hmem := hus i him hif
      rw [List.length_erase_of_mem hmem]
      have := List.length_pos_of_mem hmem
      omega
    unfold wpOp
    simp only [ho]
    rcases hso with ⟨hg, hh⟩ | ⟨hg, hv, hn⟩
    · rw [hwant _ hg]
      simp only [if_true]
      refine .inl (hh E.W ρ a w ((hrest' ▸ k2).sub_pre) hnone hopsrep _ Q ?_)
      rintro v' w' ⟨ρ', hnew, hv⟩
      exact ih (us.erase i) _ _ _ hus' hlen' (hinv v' w' ρ' hnew hv)
    · rw [hwant _ hg]
      simp only [Bool.false_eq_true, if_false]
      refine ih (us.erase i) _ _ _ hus' hlen' (hinv undef w ρ ?_ ?_)
      · rw [hn]; exact .nil (.refl _)
      · rw [hv]; trivial

theorem getD_rep_false (n j : Nat) : (Array.replicate n false).getD j false = false := by
  simp only [Array.getD_eq_getD_getElem?, Array.getElem?_replicate]
  split <;> rfl

theorem Rep.inv {E : Env} {ops : Array Oper} {m : Nat} {V : Nat → AV} {N : Nat → List Blk} {T0 : Tm} {H0 : Heap} {a : Act} {w : World} (h : Rep E T0 H0 a w) : Inv E ops m V N T0 H0 (Array.replicate ops.size false) a w := by
  obtain ⟨ρ, k1, k2, k3, k4, k5, k6, k7⟩ := h
  obtain ⟨r, hr⟩ := Hk_le (N := N) (H0 := H0) (Nat.zero_le m)
  simp only [Hk] at hr
  refine ⟨by simp, fun i o _ hi => (by rw [getD_rep_false] at hi; cases hi), fun i _ _ => getD_rep_false _ _, ρ, k1, ⟨k3.lt, fun id b o k h1 h2 => ?_, fun id id' b o o' k k' hne h1 h2 h3 h4 => ?_⟩, fun t => ⟨fun j _ hj => by (rw [getD_rep_false] at hj; cases hj), fun _ => k4 t⟩, fun id x hx => .inl ?_, k5, k6, k7⟩
  · have hid : id < H0.length := by
      rcases Nat.lt_or_ge id H0.length with h | h
      · exact h
      · rw [k2 id h] at h1; cases h1
    rw [hr, List.getElem?_append_left hid] at h2
    exact k3.rep id b o k h1 h2
  · have hid : id < H0.length := by
      rcases Nat.lt_or_ge id H0.length with h | h
      · exact h
      · rw [k2 id h] at h1; cases h1
    have hid' : id' < H0.length := by
      rcases Nat.lt_or_ge id' H0.length with h | h
      · exact h
      · rw [k2 id' h] at h2; cases h2
    rw [hr, List.getElem?_append_left hid] at h3
    rw [hr, List.getElem?_append_left hid'] at h4
    exact k3.apart id id' b o o' k k' hne h1 h2 h3 h4
  · rcases Nat.lt_or_ge id H0.length with h | h
    · exact h
    · rw [k2 id h] at hx; cases hx

/-- **A region that draws its order.** -/
theorem region_any {E : Env} {id : Nat} {ops : Array Oper} {Q : Exit → Act → World → Prop} {m : Nat} (hmix : E.P.follows .mixedOrders = true) (hok : regionOk E.n ops = true) (hany : anyOk ops m = true) {l1 l2 : List Oper} (hl : ops.toList = l1 ++ l2) (hm : l1.length = m)
    {T T1 T' : Tm} {H H1 H' : Heap} (h1 : HSteps E.P ops l1 T H T1 H1) (h2 : Steps E.P ops l2 T1 H1 T' H') {a : Act} {w : World} (hr : Rep E T H a w) (hQ : ∀ a' w', Rep E T' H' a' w' → Q .normal a' w') : (Code.region id ops true).wp E.P Q a w := by
  have hsz : ops.size = m + l2.length := by rw [← Array.length_toList, hl]; simp [hm]
  have hget : ∀ j, ops[j]? = (l1 ++ l2)[j]? := fun j => by rw [← Array.getElem?_toList, hl]
  have htake : ∀ (j : Nat), j < m → l1[j]? = ops[j]? := fun j hj => by rw [hget, List.getElem?_append_left (by omega)]
  -- the trace wants a list that goes on as ops does: taken up to m
  obtain ⟨V, N, _, k2, k3, k4⟩ := trace' h1 T H 0 (fun _ => .s .junk) (fun _ => []) (fun j hj => by rw [Nat.zero_add]; exact htake j (by omega)) rfl rfl
  rw [Nat.zero_add, hm] at k3 k4
  refine wp_region_any hmix ?_
  refine head_any hok hany (by omega) (fun k hk => k2 k (Nat.zero_le _) (by omega)) (l := l2) (fun j => ?_) (by omega) (k3 ▸ k4 ▸ h2) hQ ops.size (List.range m) _ a _ (fun j hj _ => List.mem_range.2 hj) (by simp; omega) hr.drew.inv
  rw [hget, List.getElem?_append_right (by omega), ← hm, Nat.add_sub_cancel_left]
end Go.Ab
