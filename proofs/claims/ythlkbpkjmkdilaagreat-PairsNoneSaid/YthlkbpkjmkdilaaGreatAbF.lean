/- A part of the proofs of this claim: AbF (Ab36, Ab37, Ab38, Ab39, Ab40). No conditions. -/
import Derived.Test.YthlkbpkjmkdilaaGreatAbE
import Derived.Test.YthlkbpkjmkdilaaGreatAbB
import Derived.Test.YthlkbpkjmkdilaaGreatAbD
import Derived.Lib.AppendZerosOnto
import Derived.Laws.IdiomStrings
set_option linter.unusedVariables false
set_option linter.unusedSimpArgs false
section
/- What is literal is what it says: two operands, both literal, and what the model makes of them. No program. -/
namespace Go.Ab
def SV.lit : SV → Option Value
  | .int k n => some (.int k n)
  | .bool b => some (.bool b)
  | .nilp => some (.pointer none)
  | .nils => some (.slice none 0 0)
  | .val u => some u
  | _ => none
def litS : List Seg → Option (List Value)
  | [] => some []
  | .one v :: r => match v.lit, litS r with
    | some x, some l => some (x :: l)
    | _, _ => none
  | .ints k n l :: r => match litS r with
    | some q => some ((List.range n).map (fun i => Value.int k (l.getD i 0)) ++ q)
    | none => none
  | .svs .. :: _ => none
def AV.lit : AV → Option Value
  | .s v => v.lit
  | .agg l => (litS l).map fun c => .agg c.toArray
  | .tup _ => none
theorem SV.lit_eq {ρ : Rho} {x : SV} {u v : Value} (h : x.lit = some u) (hr : x.rep ρ v) : v = u := by
  cases x <;> simp only [SV.lit, Option.some.injEq, reduceCtorEq] at h <;> subst h <;> first | exact hr | exact hr.1
theorem litS_at : ∀ {l : List Seg} {c : List Value}, litS l = some c → c.length = sizeS l ∧ ∀ (i : Nat), i < sizeS l → ∃ x u, atS l i = some x ∧ x.lit = some u ∧ c[i]? = some u
  | [], c, h => by
    simp only [litS, Option.some.injEq] at h
    subst h
    exact ⟨rfl, fun i hi => absurd hi (Nat.not_lt_zero i)⟩
  | .one v :: r, c, h => by
    simp only [litS] at h
    split at h
    · rename_i x l hx hl
      simp only [Option.some.injEq] at h
      subst h
      obtain ⟨h1, h2⟩ := litS_at hl
      refine ⟨by simp [sizeS, Seg.size, h1]; omega, fun i hi => ?_⟩
      match i with
      | 0 => exact ⟨v, x, by simp [atS, Seg.size, Seg.at], hx, rfl⟩
      | i + 1 =>
        obtain ⟨y, u, k1, k2, k3⟩ := h2 i (by simp only [sizeS, Seg.size] at hi; omega)
        exact ⟨y, u, by simp [atS, Seg.size, k1], k2, by simpa using k3⟩
    · simp at h
  | .ints k n l :: r, c, h => by
    simp only [litS] at h
    split at h
    · rename_i q hl
      simp only [Option.some.injEq] at h
      subst h
      obtain ⟨h1, h2⟩ := litS_at hl
      refine ⟨by simp [sizeS, Seg.size, h1], fun i hi => ?_⟩
      have hs : (Seg.ints k n l).size = n := rfl
      by_cases h3 : i < n
      · exact ⟨.int k (l.getD i 0), .int k (l.getD i 0), by rw [atS, hs, if_pos h3]; rfl, rfl, by rw [List.getElem?_append_left (by simpa using h3)]; simp [h3]⟩
      · obtain ⟨y, u, k1, k2, k3⟩ := h2 (i - n) (by simp only [sizeS, hs] at hi; omega)
        exact ⟨y, u, by rw [atS, hs, if_neg h3]; exact k1, k2, by rw [List.getElem?_append_right (by simp; omega)]; simpa using k3⟩
    · simp at h
  | .svs .. :: r, c, h => by simp [litS] at h
theorem AV.lit_eq {ρ : Rho} {x : AV} {u v : Value} (h : x.lit = some u) (hr : x.rep ρ v) : v = u := by
  cases x with
  | s x => exact SV.lit_eq h hr
  | agg l =>
    simp only [AV.lit, Option.map_eq_some_iff] at h
    obtain ⟨c, hc, rfl⟩ := h
    obtain ⟨h1, h2⟩ := litS_at hc
    obtain ⟨cs, rfl, hs, hr⟩ := hr
    congr 1
    apply Array.ext_getElem?
    intro i
    by_cases hi : i < sizeS l
    · obtain ⟨x, u, k1, k2, k3⟩ := h2 i hi
      obtain ⟨y, k4, k5⟩ := hr i x k1
      have := SV.lit_eq k2 k5.1
      subst this
      simp only at k4
      rw [k4, List.getElem?_toArray, k3]
    · rw [Array.getElem?_eq_none (by omega), List.getElem?_toArray, List.getElem?_eq_none (by omega)]
  | tup l => simp [AV.lit] at h
section rules
variable {P : Program} {T : Tm} {H : Heap} {d : Option Tmp} {ty : TypeId} {pos : String} {af : Array Edge} {g : Option (Nat × Bool)}
/-- Both operands literal. -/
theorem h_litb {op : BinOp} {t tyy : TypeId} {x y : Operand} {a b : AV} {u v : Value} {r : SV} {z : Value} (hx : ev T x = a) (hy : ev T y = b) (hu : a.lit = some u) (hv : b.lit = some v)
    (hg : ∀ w, (eqGuard op t x y u v).run P w = .ok () w) (hr : ∀ w, (binOp op t u v).run P w = .ok z w) (hz : r.lit = some z) (ho : z.oneCell' = true) : HOk P ⟨d, .binOp op t x y tyy, ty, pos, af, g⟩ T H (.s r) [] :=
  .pure fun W ρ ac w _ hop => by
    obtain ⟨h1, h2⟩ := two (op := .binOp op t x y tyy) rfl hop hx hy
    have h1 := AV.lit_eq hu h1
    have h2 := AV.lit_eq hv h2
    refine ⟨z, by simp [execOp, h1, h2, Sem.run_bind, hg, hr], ?_⟩
    cases r <;> simp only [SV.lit, Option.some.injEq, reduceCtorEq] at hz <;> subst hz <;> first | rfl | exact ⟨rfl, ho⟩
end rules
end Go.Ab
end

section
/- A region that draws its order, in which a block is made and then filled, by one operation behind the other, and which no other one looks at. No program. -/
namespace Go.Ab
theorem Hk_lenN {N N' : Nat → List Blk} (h : ∀ j, (N j).length = (N' j).length) (H0 : Heap) (k : Nat) : (Hk N H0 k).length = (Hk N' H0 k).length := by
  induction k with
  | zero => rfl
  | succ k ih => simp [Hk, ih, h k]
theorem Hk_app2 {N N' : Nat → List Blk} {k m : Nat} (h : k ≤ m) (hN : ∀ j, k ≤ j → N' j = N j) (X : Heap) : ∃ r, Hk N X m = Hk N X k ++ r ∧ Hk N' X m = Hk N' X k ++ r := by
  induction m with
  | zero => have : k = 0 := by omega
            subst this; exact ⟨[], by simp, by simp⟩
  | succ m ih =>
    by_cases hk : k = m + 1
    · subst hk; exact ⟨[], by simp, by simp⟩
    · obtain ⟨r, h1, h2⟩ := ih (by omega)
      exact ⟨r ++ (N m).map some, by simp only [Hk, h1, List.append_assoc], by simp only [Hk, h2, hN m (by omega), List.append_assoc]⟩
/-- What is hidden is told to be nothing. -/
def HideN (Nv N : Nat → List Blk) : Prop := ∀ j, (Nv j).length = (N j).length ∧ ∀ (i : Nat) (k : Blk), (Nv j)[i]? = some k → (N j)[i]? = some k ∨ ((∃ q, (N j)[i]? = some q) ∧ k = ⟨false, []⟩)
theorem Hk_hide {Nv N : Nat → List Blk} (h : HideN Nv N) (H0 : Heap) (m : Nat) : ∀ (id : Nat) (k : Blk), (Hk Nv H0 m)[id]? = some (some k) → (Hk N H0 m)[id]? = some (some k) ∨ ((∃ q, (Hk N H0 m)[id]? = some (some q)) ∧ k = ⟨false, []⟩) := by
  induction m with
  | zero => exact fun id k hk => .inl hk
  | succ m ih =>
    intro id k hk
    have hl := Hk_lenN (fun j => (h j).1) H0 m
    simp only [Hk] at hk ⊢
    by_cases hid : id < (Hk N H0 m).length
    · rw [List.getElem?_append_left (by omega)] at hk
      rw [List.getElem?_append_left hid]
      exact ih id k hk
    · rw [List.getElem?_append_right (by omega), hl, List.getElem?_map, Option.map_eq_some_iff] at hk
      obtain ⟨q, hq, e⟩ := hk
      cases e
      rw [List.getElem?_append_right (by omega), List.getElem?_map]
      rcases (h m).2 _ _ hq with e | ⟨⟨p, e⟩, e2⟩
      · exact .inl (by rw [e]; rfl)
      · exact .inr ⟨⟨p, by rw [e]; rfl⟩, e2⟩
theorem HRep.weak {W : Nat → Prop} {ρ : Rho} {H H' : Heap} {w : World} (h : HRep W ρ H w) (hs : ∀ (id : Nat) (k : Blk), H'[id]? = some (some k) → H[id]? = some (some k) ∨ ((∃ q, H[id]? = some (some q)) ∧ k = ⟨false, []⟩)) : HRep W ρ H' w := by
  refine ⟨h.lt, fun id b o k e e2 => ?_, fun id id' b o o' k k' hne e e' e2 e2' => ?_⟩
  · rcases hs id k e2 with h1 | ⟨⟨q, h1⟩, rfl⟩
    · exact h.rep id b o k e h1
    · obtain ⟨cells, t, fr, g1, g2, g3⟩ := (h.rep id b o q e h1).1
      exact ⟨⟨cells, t, fr, g1, fun e => (by cases e), fun i x hx => by simp [atS] at hx⟩, fun e => (by cases e)⟩
  · rcases hs id k e2 with h1 | ⟨⟨q, h1⟩, rfl⟩ <;> rcases hs id' k' e2' with h1' | ⟨⟨q', h1'⟩, rfl⟩
    · exact h.apart id id' b o o' k k' hne e e' h1 h1'
    · exact ⟨(h.apart id id' b o o' k q' hne e e' h1 h1').1, rfl⟩
    · exact ⟨rfl, (h.apart id id' b o o' q k' hne e e' h1 h1').2⟩
    · exact ⟨rfl, rfl⟩
def StepS (P : Program) (ops : Array Oper) (V : Nat → AV) (N N' : Nat → List Blk) (T0 : Tm) (H0 : Heap) (k : Nat) : Prop :=
  ∃ (o : Oper) (hs : List Nat), ops[k]? = some o ∧ N k = [] ∧ Guard ops (Tk ops V T0 k) o true ∧ (∀ x ∈ o.op.operands, (ev (Tk ops V T0 k) x).lowB (Hk N H0 k).length = true) ∧ (V k).lowB 0 = true ∧ (Hk N H0 k).all (fun | none => true | some q => q.segs.all (Seg.lowB (Hk N H0 k).length)) = true ∧ (Own hs (Hk N H0 k) (Hk N' H0 k) ∧ MOk P o (Tk ops V T0 k) (roH hs (Hk N H0 k)) (V k) (roH hs (Hk N' H0 k)))
def StepV (P : Program) (ops : Array Oper) (V : Nat → AV) (N Nv : Nat → List Blk) (T0 : Tm) (H0 : Heap) (k : Nat) : Prop :=
  ∃ o, ops[k]? = some o ∧ ((Guard ops (Tk ops V T0 k) o true ∧ HOk P o (Tk ops V T0 k) (Hk Nv H0 k) (V k) (N k)) ∨ (Guard ops (Tk ops V T0 k) o false ∧ V k = .s .junk ∧ N k = []))
structure InvS (E : Env) (ops : Array Oper) (m k0 : Nat) (V : Nat → AV) (N N' : Nat → List Blk) (T0 : Tm) (H0 : Heap) (listed : Array Bool) (a : Act) (w : World) : Prop where
  size : listed.size = ops.size
  closed : Closed ops listed
  late : ∀ i, m ≤ i → i < ops.size → listed.getD i false = false
  ex : ∃ ρ, Rle E.ρ0 ρ ∧ HRep E.W ρ (Hk (bif listed.getD k0 false then N' else N) H0 m) w ∧
    (∀ t, (∀ j, j < m → listed.getD j false = true → (ops[j]?).bind (·.dst) = some t → (V j).rep ρ (a.tmps.getD t undef)) ∧ ((∀ j, j < m → (ops[j]?).bind (·.dst) ≠ some t) → (look T0 t).rep ρ (a.tmps.getD t undef))) ∧
    (∀ id x, ρ id = some x → id < H0.length ∨ ∃ j, j < m ∧ listed.getD j false = true ∧ (Hk N H0 j).length ≤ id ∧ id < (Hk N H0 j).length + (N j).length) ∧
    a.tmps.size = E.n ∧ DefOk E.w0 a.defers w ∧ Fr E.W E.w0 w
theorem head_anyS {E : Env} {ops : Array Oper} {Q : Exit → Act → World → Prop} {m k0 q1 : Nat} (hok : regionOk E.n ops = true) (hany : anyOk ops m = true) (hm : m ≤ ops.size) {V : Nat → AV} {N N' Nv : Nat → List Blk} {T0 : Tm} {H0 : Heap} (hk0 : k0 < m) (hq1 : q1 < k0) (hN : ∀ j, j ≠ q1 → N' j = N j) (hNl : (N' q1).length = (N q1).length) (hv0 : HideN Nv N) (hv1 : HideN Nv N') {o1 os : Oper} {d1 : Nat} (ho1 : ops[q1]? = some o1) (hd1 : o1.dst = some d1) (hos : ops[k0]? = some os) (hdep : Operand.tmp d1 ∈ os.op.operands)
    (hstep : ∀ k, k < m → k ≠ k0 → StepV E.P ops V N Nv T0 H0 k) (hmut : StepS E.P ops V N N' T0 H0 k0) {l : List Oper} (hl : ∀ j, l[j]? = ops[m + j]?) (hlen : m + l.length = ops.size) {T' : Tm} {H' : Heap} (htail : Steps E.P ops l (Tk ops V T0 m) (Hk N' H0 m) T' H') (hQ : ∀ a' w', Rep E T' H' a' w' → Q .normal a' w') :
    ∀ (fuel : Nat) (us : List Nat) (listed : Array Bool) (a : Act) (w : World), (∀ j, j < m → listed.getD j false = false → j ∈ us) → us.length + l.length ≤ fuel → InvS E ops m k0 V N N' T0 H0 listed a w → wpAny E.P .any ops Q fuel listed a w := by
  have hNN : ∀ j, (N j).length = (N' j).length := fun j => by
    by_cases h : j = q1
    · subst h; exact hNl.symm
    · rw [hN j h]
  have finish : ∀ (fuel : Nat) (listed : Array Bool) (a : Act) (w : World), (∀ j, j < m → listed.getD j false = true) → l.length ≤ fuel → InvS E ops m k0 V N N' T0 H0 listed a w → wpAny E.P .any ops Q fuel listed a w := by
    intro fuel listed a w hall hf hi
    refine tail_any hok hany htail m (Nat.le_refl _) hlen hl fuel listed hf hi.size (fun i his => ?_) a w ?_ hQ
    · rcases Nat.lt_or_ge i m with h | h
      · rw [hall i h]; simp [h]
      · rw [hi.late i h his]; simp; omega
    · obtain ⟨ρ, k1, k2, k3, k4, k5, k6, k7⟩ := hi.ex
      rw [hall k0 hk0] at k2
      refine ⟨ρ, k1, fun id hid => ?_, k2, fun t => ?_, k5, k6, k7⟩
      · cases hr : ρ id with
        | none => rfl
        | some x =>
          rcases k4 id x hr with h | ⟨j, h1, _, _, h2⟩
          · obtain ⟨r, hr⟩ := Hk_le (N := N') (H0 := H0) (Nat.zero_le m)
            simp only [Hk] at hr
            rw [hr] at hid
            simp at hid; omega
          · have := Hk_len (N := N) (H0 := H0) h1
            have := Hk_lenN hNN H0 m
            omega
      · rcases look_Tk (ops := ops) (V := V) (T0 := T0) t m with ⟨j, h1, h2, h3⟩ | ⟨h1, h2⟩
        · rw [h3]; exact (k3 t).1 j h1 (hall j h1) h2
        · rw [h2]; exact (k3 t).2 h1
  intro fuel
  induction fuel with
  | zero =>
    intro us listed a w hus hf hi
    refine finish 0 listed a w (fun j hj => ?_) (by omega) hi
    cases hb : listed.getD j false with
    | true => rfl
    | false => have := hus j hj hb; have := List.length_pos_of_mem this; omega
  | succ fuel ih =>
    intro us listed a w hus hf hi
    by_cases hall : ∀ j, j < m → listed.getD j false = true
    · exact finish _ listed a w hall (by omega) hi
    have hex : ∃ j, j < m ∧ listed.getD j false = false := by
      apply Classical.byContradiction
      intro hn
      refine hall fun j hj => ?_
      cases hb : listed.getD j false with
      | true => rfl
      | false => exact absurd ⟨j, hj, hb⟩ hn
    -- the least unlisted one is ready
    have hready : ∃ j, j ∈ Region.ready .any ops listed := by
      have hleast : ∀ n, (∃ j, j ≤ n ∧ j < m ∧ listed.getD j false = false) → ∃ j, j < m ∧ listed.getD j false = false ∧ ∀ i, i < j → listed.getD i false = true := by
        intro n
        induction n with
        | zero =>
          rintro ⟨j, h1, h2, h3⟩
          have : j = 0 := by omega
          subst this
          exact ⟨0, h2, h3, fun i hi => absurd hi (by omega)⟩
        | succ n ihn =>
          rintro ⟨j, h1, h2, h3⟩
          by_cases hh : ∃ j, j ≤ n ∧ j < m ∧ listed.getD j false = false
          · exact ihn hh
          · refine ⟨j, h2, h3, fun i hi => ?_⟩
            cases hb : listed.getD i false with
            | true => rfl
            | false => exact absurd ⟨i, by omega, by omega, hb⟩ hh
      obtain ⟨j0, h1, h2⟩ := hex
      obtain ⟨j, hj, hjf, hji⟩ := hleast j0 ⟨j0, Nat.le_refl _, h1, h2⟩
      have hjs : j < ops.size := by omega
      have ho : ops[j]? = some ops[j] := by simp [hjs]
      exact ⟨j, mem_ready.2 ⟨by simp [hi.size, hjs] at hjf ⊢; exact hjf, _, ho, fun e he hb => hji _ (anyOk_edge hany ho e he hb)⟩⟩
    refine ⟨fun hn => (by obtain ⟨j, hj⟩ := hready; rw [hn] at hj; cases hj), fun i hir => ?_⟩
    obtain ⟨hun, o, ho, hedges⟩ := mem_ready.1 hir
    have his : i < ops.size := (Array.getElem?_eq_some_iff.1 ho).1
    have hif : listed.getD i false = false := by simp [hi.size, his] at hun ⊢; exact hun
    have him : i < m := by
      rcases Nat.lt_or_ge i m with h | h
      · exact h
      · obtain ⟨j, h1, h2⟩ := hex
        have := reach_listed hany hi.closed i o j ho (anyOk_tail hany ho h j (by omega)) hedges
        rw [h2] at this; cases this
    obtain ⟨ρ, k1, k2, k3, k4, k5, k6, k7⟩ := hi.ex
    -- what it looks at is told
    have hlook : ∀ t, t ∈ o.looksAt ops → (look (Tk ops V T0 i) t).rep ρ (a.tmps.getD t undef) := by
      intro t ht
      rcases look_Tk (ops := ops) (V := V) (T0 := T0) t i with ⟨j, h1, h2, h3⟩ | ⟨h1, h2⟩
      · rw [h3]
        have hjs : j < ops.size := by omega
        have hp : ops[j]? = some ops[j] := by simp [hjs]
        have hd : ops[j].dst = some t := by rw [hp] at h2; simpa using h2
        have := (anyOk_head hany ho him (show j < m by omega) hp hd).2 ht
        exact (k3 t).1 j (by omega) (reach_listed hany hi.closed i o j ho this.2 hedges) h2
      · rw [h2]
        refine (k3 t).2 fun j hj hd => ?_
        by_cases hji : j < i
        · exact h1 j hji hd
        · have hjs : j < ops.size := by omega
          have hp : ops[j]? = some ops[j] := by simp [hjs]
          have hd' : ops[j].dst = some t := by rw [hp] at hd; simpa using hd
          have := (anyOk_head hany ho him hj hp hd').2 ht
          omega
    have hopk := regionOk_op hok ho
    have hopsrep : Ops o (Tk ops V T0 i) ρ a := by
      intro x hx
      simp only [opOk, Bool.and_eq_true, Array.all_eq_true_iff_forall_mem] at hopk
      cases x with
      | tmp t => exact hlook t (looksAt_op hx)
      | global g => trivial
      | func f => exact ⟨rfl, rfl⟩
      | const c =>
        have h := hopk.1.1 _ hx
        simp only [operandOk] at h
        unfold constOk at h
        split at h <;> first
          | (cases h; done)
          | exact rfl
          | exact ⟨rfl, rfl⟩
    have hdst : ∀ d, o.dst = some d → d < a.tmps.size := fun d hd => by rw [k5]; exact opOk_dst hopk d hd
    have hwant : ∀ c, Guard ops (Tk ops V T0 i) o c → Region.wanted o (yielded ops a.tmps) = c := fun c hg =>
      hg.wanted (ρ := ρ) fun j b t e1 e2 => ⟨hlook t (looksAt_guard e1 e2), by rw [k5]; exact regionOk_guard hok j t e2⟩
    have hW : ∀ b, w.heap.size ≤ b → E.W b := fun b hb => E.hW b (Nat.le_trans k7.size hb)
    have hnone : ∀ i', i' < (N i).length → ρ ((Hk N H0 i).length + i') = none := by
      intro i' hi'
      cases hr : ρ ((Hk N H0 i).length + i') with
      | none => rfl
      | some x =>
        rcases k4 _ x hr with h | ⟨j, h1, h2, h3, h4⟩
        · obtain ⟨r, hr⟩ := Hk_le (N := N) (H0 := H0) (Nat.zero_le i)
          simp only [Hk] at hr
          rw [hr] at h; simp at h; omega
        · rcases Nat.lt_trichotomy i j with h5 | h5 | h5
          · have := Hk_len (N := N) (H0 := H0) h5; omega
          · subst h5; rw [hif] at h2; cases h2
          · have := Hk_len (N := N) (H0 := H0) h5; omega
    -- the step
    have hinv : ∀ (v' : Value) (w' : World) (ρ' : Rho), Rle ρ ρ' → HRep E.W ρ' (Hk (bif (listed.setIfInBounds i true).getD k0 false then N' else N) H0 m) w' → (∀ id x, ρ' id = some x → ρ id = some x ∨ ((Hk N H0 i).length ≤ id ∧ id < (Hk N H0 i).length + (N i).length)) → Fr E.W w w' → (V i).rep ρ' v' → InvS E ops m k0 V N N' T0 H0 (listed.setIfInBounds i true) (a.put o.dst v') w' := by
      intro v' w' ρ' hrle hheap hold hfr hv
      have hset : ∀ j, j ≠ i → (listed.setIfInBounds i true).getD j false = listed.getD j false := fun j hj => getD_set_ne false (Ne.symm hj)
      have hseti : (listed.setIfInBounds i true).getD i false = true := by simp [hi.size, his]
      refine ⟨by simpa using hi.size, fun j p hp hjl e he hb => ?_, fun j h1 h2 => by rw [hset j (by omega)]; exact hi.late j h1 h2, ρ', k1.trans hrle, hheap, fun t => ?_, fun id x hx => ?_, (put_size _ _ _).trans k5, (by rw [put_defers]; exact k6.fr hfr), k7.trans hfr⟩
      · have keep : ∀ x, listed.getD x false = true → (listed.setIfInBounds i true).getD x false = true := fun x hx => getD_set_true hx
        by_cases hji : j = i
        · subst hji
          rw [ho] at hp
          cases hp
          exact keep _ (hedges e he hb)
        · rw [hset j hji] at hjl
          exact keep _ (hi.closed j p hp hjl e he hb)
      · have hslot : (a.put o.dst v').tmps.getD t undef = if o.dst = some t then v' else a.tmps.getD t undef := by
          cases hd : o.dst with
          | none => simp [Act.put]
          | some d =>
            simp only [Act.put]
            rw [getD_set _ _ _ _ (hdst d hd)]
            simp
        rw [hslot]
        refine ⟨fun j hj hlj hdj => ?_, fun hno => ?_⟩
        · by_cases hji : j = i
          · subst hji
            rw [ho] at hdj
            have hdj : o.dst = some t := by simpa using hdj
            rw [if_pos hdj]; exact hv
          · have hjs : j < ops.size := by omega
            have hp : ops[j]? = some ops[j] := by simp [hjs]
            have hd' : ops[j].dst = some t := by rw [hp] at hdj; simpa using hdj
            have h1 := (anyOk_head hany ho him hj hp hd').1
            rw [if_neg (h1.resolve_left hji)]
            rw [hset j hji] at hlj
            exact AV.rep_le hrle ((k3 t).1 j hj hlj hdj)
        · have : o.dst ≠ some t := by have := hno i him; rw [ho] at this; simpa using this
          rw [if_neg this]
          exact AV.rep_le hrle ((k3 t).2 hno)
      · rcases hold id x hx with h | ⟨h1, h2⟩
        · rcases k4 id _ h with h | ⟨j, h1, h2, h3⟩
          · exact .inl h
          · refine .inr ⟨j, h1, ?_, h3⟩
            by_cases hji : j = i
            · subst hji; exact hseti
            · rw [hset j hji]; exact h2
        · exact .inr ⟨i, him, hseti, h1, h2⟩
    have hus' : ∀ j, j < m → (listed.setIfInBounds i true).getD j false = false → j ∈ us.erase i := by
      intro j hj hjf
      by_cases hji : j = i
      · subst hji; simp [hi.size, his] at hjf
      · rw [getD_set_ne false (Ne.symm hji)] at hjf
        exact (List.mem_erase_of_ne hji).2 (hus j hj hjf)
    have hlen' : (us.erase i).length + l.length ≤ fuel := by
      have hmem := hus i him hif
      rw [List.length_erase_of_mem hmem]
      have := List.length_pos_of_mem hmem
      omega
    have hBl : ∀ j, ((bif listed.getD k0 false then N' else N) j).length = (N j).length := fun j => by cases listed.getD k0 false <;> simp [hNN]
    have hhide : HideN Nv (bif listed.getD k0 false then N' else N) := by cases listed.getD k0 false <;> assumption
    have hsubv : HRep E.W ρ (Hk Nv H0 i) w := by
      obtain ⟨r, hr⟩ := Hk_le (N := Nv) (H0 := H0) (show i ≤ m by omega)
      refine HRep.sub_pre (r := r) ?_
      rw [← hr]
      exact k2.weak (Hk_hide hhide H0 m)
    unfold wpOp
    simp only [ho]
    by_cases hik : i = k0
    · subst hik
      obtain ⟨o', hs, ho', hNi, hg, hlow, hvl, hlH, hmut⟩ := hmut
      rw [ho] at ho'
      cases ho'
      rw [hwant _ hg]
      simp only [if_true]
      rw [hif] at k2
      simp only [cond_false] at k2
      refine .inl ?_
      obtain ⟨R, hR, hR'⟩ := Hk_app2 (N := N) (N' := N') (show i ≤ m by omega) (fun j hj => hN j (by omega)) H0
      refine mut_step (R := R) hs (Hk_lenN (fun j => (hNN j).symm) H0 i) hmut (by rw [← hR]; exact k2) hW hopsrep hlow hvl hlH (fun id x hx => ?_) _ Q ?_
      · rcases k4 id x hx with h | ⟨j, h1, h2, h3, h4⟩
        · obtain ⟨r, hr⟩ := Hk_le (N := N) (H0 := H0) (Nat.zero_le m)
          simp only [Hk] at hr
          rw [← hR, hr]; simp; omega
        · have := Hk_len (N := N) (H0 := H0) h1
          rw [← hR]; omega
      · rintro v' w' ⟨hheap, hfr, hv⟩
        refine ih (us.erase i) _ _ _ hus' hlen' (hinv v' w' ρ (.refl _) ?_ (fun id x hx => .inl hx) hfr hv)
        simp only [show (listed.setIfInBounds i true).getD i false = true by simp [hi.size, his], cond_true]
        rw [hR']; exact hheap
    · obtain ⟨o', ho', hso⟩ := hstep i him hik
      rw [ho] at ho'
      cases ho'
      have hsk : (listed.setIfInBounds i true).getD k0 false = listed.getD k0 false := getD_set_ne false hik
      have hlv := Hk_lenN (fun j => (hv0 j).1) H0 i
      have hBi := Hk_lenN hBl H0 i
      have hNi : (bif listed.getD k0 false then N' else N) i = N i := by
        cases hb : listed.getD k0 false with
        | false => rfl
        | true =>
          by_cases h : i = q1
          · subst h
            have hreach := (anyOk_head hany hos hk0 him ho1 hd1).2 (looksAt_op hdep)
            have := reach_listed hany hi.closed k0 os i hos hreach.2 (fun e he hb2 => hi.closed k0 os hos hb e he hb2)
            rw [hif] at this; cases this
          · exact hN i h
      rcases hso with ⟨hg, hh⟩ | ⟨hg, hv, hn⟩
      · rw [hwant _ hg]
        simp only [if_true]
        refine .inl (hh E.W ρ a w hsubv (fun i' hi' => by rw [hlv]; exact hnone i' hi') hopsrep _ Q ?_)
        rintro v' w' ⟨ρ', hnew, hv⟩
        rw [hlv] at hnew
        refine ih (us.erase i) _ _ _ hus' hlen' (hinv v' w' ρ' hnew.le ?_ (fun id x hx => ?_) (hnew.ext.fr _) hv)
        · rw [hsk]
          refine k2.new' hW hnone (fun i' hi' => ?_) hnew
          obtain ⟨r, hr⟩ := Hk_le (N := bif listed.getD k0 false then N' else N) (H0 := H0) (show i + 1 ≤ m by omega)
          rw [hr]
          simp only [Hk, hNi]
          rw [List.append_assoc, List.getElem?_append_right (by omega), ← hBi, Nat.add_sub_cancel_left, List.getElem?_append_left (by simpa using hi')]
          simp [hi']
        · obtain ⟨b, off⟩ := x
          rcases hnew.old id b off hx with h | ⟨h1, h2, _, _⟩
          · exact .inl h
          · exact .inr ⟨h1, h2⟩
      · rw [hwant _ hg]
        simp only [Bool.false_eq_true, if_false]
        refine ih (us.erase i) _ _ _ hus' hlen' (hinv undef w ρ (.refl _) (by rw [hsk]; exact k2) (fun id x hx => .inl hx) (.refl _ _) ?_)
        rw [hv]; trivial
theorem Rep.invS {E : Env} {ops : Array Oper} {m k0 : Nat} {V : Nat → AV} {N N' : Nat → List Blk} {T0 : Tm} {H0 : Heap} {a : Act} {w : World} (h : Rep E T0 H0 a w) : InvS E ops m k0 V N N' T0 H0 (Array.replicate ops.size false) a w := by
  obtain ⟨s1, s2, s3, ρ, k1, k2, k3⟩ := (h.inv : Inv E ops m V N T0 H0 (Array.replicate ops.size false) a w)
  exact ⟨s1, s2, s3, ρ, k1, by rw [getD_rep_false]; exact k2, k3⟩
/-- **A region that draws its order**, in which a block is made and then filled. -/
theorem region_anyS {E : Env} {id : Nat} {ops : Array Oper} {Q : Exit → Act → World → Prop} {m k0 q1 : Nat} (hmix : E.P.follows .mixedOrders = true) (hok : regionOk E.n ops = true) (hany : anyOk ops m = true) {la lb l2 : List Oper} {o1 o : Oper} {d1 : Nat} (hl : ops.toList = la ++ o1 :: o :: (lb ++ l2)) (hk1 : la.length = q1) (hk : k0 = q1 + 1) (hm : q1 + 2 + lb.length = m)
    {T Ta Tb T' : Tm} {H Ha Hb H' : Heap} {v1 v : AV} {b0 b1 : Blk} (hs : List Nat) (hA : HSteps E.P ops la T H Ta Ha) (hg1 : Guard ops Ta o1 true) (h1 : HOk E.P o1 Ta Ha v1 [b0]) (hd1 : o1.dst = some d1) (hdep : Operand.tmp d1 ∈ o.op.operands)
    (own : Own hs (Ha ++ [some b0]) (Ha ++ [some b1])) (hg : Guard ops (put Ta o1.dst v1) o true) (hlow : ∀ x ∈ o.op.operands, (ev (put Ta o1.dst v1) x).lowB (Ha ++ [some b0]).length = true) (hvl : v.lowB 0 = true) (hlH : (Ha ++ [some b0]).all (fun | none => true | some k => k.segs.all (Seg.lowB (Ha ++ [some b0]).length)) = true)
    (hM : MOk E.P o (put Ta o1.dst v1) (roH hs (Ha ++ [some b0])) v (roH hs (Ha ++ [some b1])))
    (hB : HSteps E.P ops lb (put (put Ta o1.dst v1) o.dst v) (Ha ++ [some ⟨false, []⟩]) Tb Hb) (h2 : Steps E.P ops l2 Tb ((Ha ++ [some b1]) ++ Hb.drop (Ha.length + 1)) T' H') {a : Act} {w : World} (hr : Rep E T H a w) (hQ : ∀ a' w', Rep E T' H' a' w' → Q .normal a' w') : (Code.region id ops true).wp E.P Q a w := by
  subst hk
  have hsz : ops.size = m + l2.length := by rw [← Array.length_toList, hl]; simp; omega
  have hget : ∀ j, ops[j]? = (la ++ o1 :: o :: (lb ++ l2))[j]? := fun j => by rw [← Array.getElem?_toList, hl]
  have ho1 : ops[q1]? = some o1 := by rw [hget, ← hk1]; simp
  have ho : ops[q1 + 1]? = some o := by rw [hget, List.getElem?_append_right (by omega), show q1 + 1 - la.length = 1 by omega]; rfl
  have gA : ∀ j, j < la.length → la[j]? = ops[0 + j]? := fun j hj => by rw [Nat.zero_add, hget, List.getElem?_append_left hj]
  have gB : ∀ j, j < lb.length → lb[j]? = ops[q1 + 1 + 1 + j]? := fun j hj => by
    rw [hget, List.getElem?_append_right (by omega), show q1 + 1 + 1 + j - la.length = j + 1 + 1 by omega, List.getElem?_cons_succ, List.getElem?_cons_succ, List.getElem?_append_left hj]
  obtain ⟨V1, N1, _, a2, a3, a4⟩ := trace' hA T H 0 (fun _ => .s .junk) (fun _ => []) gA rfl rfl
  rw [Nat.zero_add, hk1] at a3 a4
  let V2 : Nat → AV := fun j => if j = q1 + 1 then v else if j = q1 then v1 else V1 j
  let N2 : Nat → List Blk := fun j => if j = q1 + 1 then [] else if j = q1 then [⟨false, []⟩] else N1 j
  have eT : Tk ops V2 T q1 = Ta := by rw [← a3]; exact Tk_congr fun j hj => by simp [V2, show j ≠ q1 + 1 by omega, show j ≠ q1 by omega]
  have eH : Hk N2 H q1 = Ha := by rw [← a4]; exact Hk_congr fun j hj => by simp [N2, show j ≠ q1 + 1 by omega, show j ≠ q1 by omega]
  obtain ⟨V, Nv, c1, c2, c3, c4⟩ := trace' hB T H (q1 + 1 + 1) V2 N2 gB (by simp only [Tk, eT, ho, ho1, Option.bind_some]; simp [V2]) (by simp only [Hk, eH]; simp [N2])
  rw [show q1 + 1 + 1 + lb.length = m by omega] at c3 c4
  have eTk : ∀ k, k ≤ q1 → Tk ops V T k = Tk ops V1 T k := fun k hk' => Tk_congr fun j hj => by rw [(c1 j (by omega)).1]; simp [V2, show j ≠ q1 + 1 by omega, show j ≠ q1 by omega]
  have eHk : ∀ k, k ≤ q1 → Hk Nv H k = Hk N1 H k := fun k hk' => Hk_congr fun j hj => by rw [(c1 j (by omega)).2]; simp [N2, show j ≠ q1 + 1 by omega, show j ≠ q1 by omega]
  have eN : ∀ j, j < q1 → Nv j = N1 j := fun j hj => by rw [(c1 j (by omega)).2]; simp [N2, show j ≠ q1 + 1 by omega, show j ≠ q1 by omega]
  have eV : ∀ j, j < q1 → V j = V1 j := fun j hj => by rw [(c1 j (by omega)).1]; simp [V2, show j ≠ q1 + 1 by omega, show j ≠ q1 by omega]
  have hNq : Nv q1 = [⟨false, []⟩] := by rw [(c1 q1 (by omega)).2]; simp [N2]
  have hVq : V q1 = v1 := by rw [(c1 q1 (by omega)).1]; simp [V2]
  have hVk : V (q1 + 1) = v := by rw [(c1 (q1 + 1) (by omega)).1]; simp [V2]
  have hNk : Nv (q1 + 1) = [] := by rw [(c1 (q1 + 1) (by omega)).2]; simp [N2]
  have eTa : Tk ops V T q1 = Ta := by rw [eTk q1 (Nat.le_refl _), a3]
  have eHa : Hk Nv H q1 = Ha := by rw [eHk q1 (Nat.le_refl _), a4]
  let N : Nat → List Blk := fun j => if j = q1 then [b0] else Nv j
  let N' : Nat → List Blk := fun j => if j = q1 then [b1] else Nv j
  have eNa : Hk N H q1 = Ha := by rw [← eHa]; exact Hk_congr fun j hj => by simp [N, show j ≠ q1 by omega]
  have eNa' : Hk N' H q1 = Ha := by rw [← eHa]; exact Hk_congr fun j hj => by simp [N', show j ≠ q1 by omega]
  have eN1 : Hk N H (q1 + 1) = Ha ++ [some b0] := by simp only [Hk, eNa]; simp [N]
  have eN1' : Hk N' H (q1 + 1) = Ha ++ [some b1] := by simp only [Hk, eNa']; simp [N']
  have eT1 : Tk ops V T (q1 + 1) = put Ta o1.dst v1 := by simp only [Tk, eTa, ho1, Option.bind_some, hVq]
  have hide : ∀ b : Blk, HideN Nv (fun j => if j = q1 then [b] else Nv j) := fun b j => by
    by_cases h : j = q1
    · subst h
      simp only [↓reduceIte]
      refine ⟨by rw [hNq]; rfl, fun i k hk => ?_⟩
      rw [hNq] at hk
      match i, hk with
      | 0, hk => simp at hk; exact .inr ⟨⟨b, rfl⟩, hk.symm⟩
      | i + 1, hk => simp at hk
    · simp only [h, ↓reduceIte]
      exact by constructor; trivial; exact fun i k hk => .inl hk
  have hstep : ∀ k, k < m → k ≠ q1 + 1 → StepV E.P ops V N Nv T H k := by
    intro k hk2 hk3
    rcases Nat.lt_trichotomy k q1 with h | h | h
    · have := a2 k (Nat.zero_le _) (by omega)
      unfold StepOk at this
      unfold StepV
      rw [eTk k (by omega), eHk k (by omega), eV k h, show N k = N1 k by simp [N, show k ≠ q1 by omega, eN k h]]
      exact this
    · subst h
      exact ⟨o1, ho1, .inl (by rw [eTa, eHa, hVq, show N k = [b0] by simp [N]]; exact ⟨hg1, h1⟩)⟩
    · have := c2 k (by omega) (by omega)
      unfold StepOk at this
      unfold StepV
      rw [show N k = Nv k by simp [N, show k ≠ q1 by omega]]
      exact this
  have hstepM : StepS E.P ops V N N' T H (q1 + 1) := ⟨o, hs, ho, by simp [N, hNk], by rw [eT1]; exact hg, by rw [eT1, eN1]; exact hlow, by rw [hVk]; exact hvl, by rw [eN1]; exact hlH, by rw [eN1, eN1']; exact own, by rw [eT1, eN1, eN1', hVk]; exact hM⟩
  have hHb : Hk N' H m = (Ha ++ [some b1]) ++ Hb.drop (Ha.length + 1) := by
    obtain ⟨R, hR, hR'⟩ := Hk_app2 (N := Nv) (N' := N') (show q1 + 1 ≤ m by omega) (fun j hj => by simp [N', show j ≠ q1 by omega]) H
    have e : Hk Nv H (q1 + 1) = Ha ++ [some ⟨false, []⟩] := by simp only [Hk, eHa, hNq]; rfl
    rw [hR', eN1', ← c4, hR, e, show Ha.length + 1 = (Ha ++ [some (⟨false, []⟩ : Blk)]).length by simp, List.drop_left]
  refine wp_region_any hmix ?_
  refine head_anyS (k0 := q1 + 1) (q1 := q1) hok hany (by omega) (V := V) (N := N) (N' := N') (Nv := Nv) (by omega) (by omega) (fun j hj => by simp [N, N', hj]) (by simp [N, N']) (hide b0) (hide b1) ho1 hd1 ho hdep hstep hstepM (l := l2) (fun j => ?_) (by omega) (by rw [c3, hHb]; exact h2) hQ ops.size (List.range m) _ a _ (fun j hj _ => List.mem_range.2 hj) (by simp; omega) hr.drew.invS
  rw [hget, List.getElem?_append_right (by omega), show m + j - la.length = (lb.length + j) + 1 + 1 by omega, List.getElem?_cons_succ, List.getElem?_cons_succ, List.getElem?_append_right (by omega), Nat.add_sub_cancel_left]
def ownNew (b0 b1 : Blk) : Bool := b0.rw && b1.rw && b1.segs.all (Seg.lowB 0)
theorem own_new {Ha : Heap} {b0 b1 : Blk} (h : ownNew b0 b1 = true) : Own [Ha.length] (Ha ++ [some b0]) (Ha ++ [some b1]) := by
  simp only [ownNew, Bool.and_eq_true] at h
  refine ⟨fun id hid => ?_, fun id hid => ?_, fun id hid => ?_⟩
  · obtain rfl := List.mem_singleton.1 hid
    exact ⟨b0, by simp, h.1.1⟩
  · obtain rfl := List.mem_singleton.1 hid
    exact ⟨b1, by simp, h.1.2, h.2⟩
  · have : id ≠ Ha.length := fun e => hid (by simp [e])
    by_cases h : id < Ha.length
    · rw [List.getElem?_append_left h, List.getElem?_append_left h]
    · rw [List.getElem?_eq_none (by simp; omega), List.getElem?_eq_none (by simp; omega)]
theorem c_anyS {E : Env} {T : Tm} {H : Heap} {Q : Exit → Tm → Heap → Prop} {id : Nat} {ops : Array Oper} (m q1 : Nat) {la lb l2 : List Oper} {d1 : Nat} {op1 op : Op} {ty1 ty : TypeId} {pos1 pos : String} {af1 af : Array Edge} (hmix : E.P.follows .mixedOrders = true) (hok : regionOk E.n ops = true) (hany : anyOk ops m = true)
    (hla : ops.toList.take q1 = la) (ho1 : ops[q1]? = some ⟨some d1, op1, ty1, pos1, af1, none⟩) (ho : ops[q1 + 1]? = some ⟨none, op, ty, pos, af, none⟩) (hlb : (ops.toList.drop (q1 + 2)).take (m - q1 - 2) = lb) (hl2 : ops.toList.drop m = l2) (hkm : Nat.blt (q1 + 1) m = true) (hms : Nat.ble m ops.size = true) (hdep : Operand.tmp d1 ∈ op.operands)
    (h : TG E.P ops la T H fun Ta Ha => ∃ (v1 : AV) (b0 b1 : Blk) (Hr H1r H1 : Heap), HOk E.P ⟨some d1, op1, ty1, pos1, af1, none⟩ Ta Ha v1 [b0] ∧ ownNew b0 b1 = true ∧ (op.operands.toList.all fun x => (ev ((d1, v1) :: Ta) x).lowB (Ha ++ [some b0]).length) = true ∧ (Ha ++ [some b0]).all (fun | none => true | some k => k.segs.all (Seg.lowB (Ha ++ [some b0]).length)) = true ∧
      roH [Ha.length] (Ha ++ [some b0]) = Hr ∧ roH [Ha.length] (Ha ++ [some b1]) = H1r ∧ Ha ++ [some b1] = H1 ∧ MOk E.P ⟨none, op, ty, pos, af, none⟩ ((d1, v1) :: Ta) Hr (.s .junk) H1r ∧
      TG E.P ops lb ((d1, v1) :: Ta) (Ha ++ [some ⟨false, []⟩]) fun Tb Hb => SK E.P ops l2 Tb (H1 ++ Hb.drop (Ha.length + 1)) (Q .normal)) : Wp E (.region id ops true) T H Q := by
  intro a w hr
  obtain ⟨Ta, Ha, hA, v1, b0, b1, Hr, H1r, H1, hv1, hown, hlow, hlH, e1, e2, e3, hM, Tb, Hb, hB, T', H', hS, hK⟩ := h
  subst e1; subst e2; subst e3
  have h1 : q1 + 1 < m := Nat.blt_eq.mp hkm
  have h2 : m ≤ ops.toList.length := by rw [Array.length_toList]; exact Nat.le_of_ble_eq_true hms
  have cut : ∀ (k : Nat) (o : Oper), ops[k]? = some o → ops.toList.drop k = o :: ops.toList.drop (k + 1) := fun k o e => by
    have hk : k < ops.toList.length := by rw [Array.length_toList]; exact (Array.getElem?_eq_some_iff.1 e).1
    rw [List.drop_eq_getElem_cons hk]
    congr 1
    have : ops.toList[k]? = some o := by rw [Array.getElem?_toList]; exact e
    exact (List.getElem?_eq_some_iff.1 this).2
  have hd1 := cut _ _ ho1
  have hd2 := cut _ _ ho
  have hsp : ops.toList.drop (q1 + 1 + 1) = lb ++ l2 := by
    rw [← hlb, ← hl2]
    have := (List.take_append_drop (m - q1 - 2) (ops.toList.drop (q1 + 2))).symm
    rw [List.drop_drop, show q1 + 2 + (m - q1 - 2) = m by omega] at this
    exact this
  refine region_anyS (k0 := q1 + 1) (q1 := q1) hmix hok hany (la := la) (lb := lb) (l2 := l2) (by rw [← hsp, ← hd2, ← hd1, ← hla, List.take_append_drop]) (by rw [← hla, List.length_take]; omega) rfl (by rw [← hlb, List.length_take, List.length_drop]; omega) _ hA (.free rfl) hv1 rfl hdep (own_new hown) (.free rfl) (fun x hx => ?_) (v := .s .junk) rfl hlH (by simpa [put] using hM) (by simpa [put] using hB) hS hr fun _ _ hr' => ⟨T', H', hK, hr'⟩
  have := List.all_eq_true.1 hlow x (by simpa using hx)
  simpa [put] using this
end Go.Ab
end

section
/- Any struct of numbers, arrays of numbers and single cells, opened cell by cell. No program. -/
namespace Go.Ab
section
variable {P : Program} {w : World}
theorem okWide_one {r : Reach} {b0 : Nat} {t : TypeId} {v : Value} (h : Cell.okWide P w r b0 t v) : v.oneCell' = true := by
  cases v <;> first
    | rfl
    | (simp only [Cell.okWide] at h
       split at h <;> first
         | (rename_i e; cases e; done)
         | (simp only [Cell.ok] at h
            split at h <;> first | (rename_i e; cases e; done) | exact h.elim)
         | exact h.elim)
theorem okWide_int {r : Reach} {b0 : Nat} {t : TypeId} {k : IntKind} {v : Value} (ht : P.underlying t = some (.int k)) (h : Cell.okWide P w r b0 t v) : ∃ n, v = .int k n := by
  cases v <;> simp [Cell.okWide, Cell.ok, ht] at h
  obtain ⟨rfl, _⟩ := h
  exact ⟨_, rfl⟩
def CellsOk (P : Program) (w : World) (r : Reach) (b0 : Nat) (ts : List TypeId) (L : List Value) : Prop := L.length = ts.length ∧ ∀ (i : Nat) (u : Value), L[i]? = some u → ∃ q, ts[i]? = some q ∧ Cell.okWide P w r b0 q u
theorem row_cells {r : Reach} {b0 : Nat} {t : TypeId} {v : Value} {fs : Array Field} {ts : List TypeId} (ht : P.underlying t = some (.struct fs)) (hts : P.cellTypes P.depth t = some ts) (hc : P.cellsOf t = ts.length) (hval : Value.okWide P w r b0 t v) :
    ∃ L : List Value, v = .agg L.toArray ∧ CellsOk P w r b0 ts L := by
  simp only [Value.okWide, ht] at hval
  obtain ⟨cs, rfl, hsz, ts', hts', _, hcells⟩ := hval
  rw [hts] at hts'
  cases hts'
  refine ⟨cs.toList, by simp, by simp [hsz, hc], fun i u hu => ?_⟩
  have hi : i < ts.length := by
    have := (List.getElem?_eq_some_iff.1 hu).1
    simp at this; omega
  obtain ⟨q, h1, h2⟩ := hcells i u (by simpa using hu)
  rw [Nat.mod_eq_of_lt hi] at h1
  exact ⟨q, h1, h2⟩
theorem drop_split (L : List Value) (a n : Nat) : L.drop a = (L.drop a).take n ++ L.drop (a + n) := by
  rw [← List.drop_drop]; exact (List.take_append_drop n (L.drop a)).symm
theorem ints_of : ∀ (M : List Value) (k : IntKind), (∀ (i : Nat) (u : Value), M[i]? = some u → ∃ n, u = .int k n) → ∃ l : List Int, l.length = M.length ∧ M = l.map (Value.int k)
  | [], k, _ => ⟨[], rfl, rfl⟩
  | x :: r, k, h => by
    obtain ⟨n, rfl⟩ := h 0 x rfl
    obtain ⟨l, h1, h2⟩ := ints_of r k (fun i u hu => h (i + 1) u hu)
    exact ⟨n :: l, by simp [h1], by simp [← h2]⟩
theorem chunk_ints {r : Reach} {b0 : Nat} {ts : List TypeId} {L : List Value} (h : CellsOk P w r b0 ts L) (a n : Nat) {t : TypeId} {k : IntKind} (hu : P.underlying t = some (.int k)) (ht : ((List.range n).all fun i => ts[a + i]? == some t) = true) :
    ∃ l : List Int, l.length = n ∧ (L.drop a).take n = l.map (Value.int k) := by
  have hn : a + n ≤ L.length ∨ n = 0 := by
    rcases Nat.eq_zero_or_pos n with h0 | h0
    · exact .inr h0
    · have := List.all_eq_true.1 ht (n - 1) (List.mem_range.2 (by omega))
      have := (List.getElem?_eq_some_iff.1 (beq_iff_eq.1 this)).1
      rw [h.1]; exact .inl (by omega)
  obtain ⟨l, h1, h2⟩ := ints_of ((L.drop a).take n) k (fun i u hi => by
    have hin : i < n := by
      have := (List.getElem?_eq_some_iff.1 hi).1
      simp at this; omega
    rw [List.getElem?_take_of_lt hin, List.getElem?_drop] at hi
    obtain ⟨q, h3, h4⟩ := h.2 _ u hi
    have := beq_iff_eq.1 (List.all_eq_true.1 ht i (List.mem_range.2 hin))
    rw [h3] at this
    cases this
    exact okWide_int hu h4)
  refine ⟨l, ?_, h2⟩
  rw [h1, List.length_take, List.length_drop]
  omega
theorem chunk_int {r : Reach} {b0 : Nat} {ts : List TypeId} {L : List Value} (h : CellsOk P w r b0 ts L) (a : Nat) {t : TypeId} {k : IntKind} (hu : P.underlying t = some (.int k)) (ht : ts[a]? = some t) : ∃ n : Int, (L.drop a).take 1 = [.int k n] := by
  obtain ⟨l, h1, h2⟩ := chunk_ints h a 1 hu (by simp [ht])
  match l, h1 with
  | [n], _ => exact ⟨n, h2⟩
theorem chunk_any {r : Reach} {b0 : Nat} {ts : List TypeId} {L : List Value} (h : CellsOk P w r b0 ts L) (a : Nat) (ht : a < ts.length) : ∃ u : Value, (L.drop a).take 1 = [u] ∧ u.oneCell' = true := by
  have hl : a < L.length := by rw [h.1]; exact ht
  refine ⟨L[a], ?_, ?_⟩
  · rw [List.drop_eq_getElem_cons hl]; rfl
  · obtain ⟨q, _, h4⟩ := h.2 a L[a] (by simp [hl])
    exact okWide_one h4
end
end Go.Ab
end

section
/- Slices of at least so much room: appending zeros where there is none, appending where there is room, cutting. No program. -/
namespace Go.Ab
section rules
variable {P : Program} {T : Tm} {H : Heap} {d : Option Tmp} {ty : TypeId} {pos : String} {af : Array Edge} {g : Option (Nat × Bool)}
theorem h_len_slf {x : Operand} {id base idx len q : Nat} {t : TypeId} {e : TypeId} {rt : TypeId} (hx : ev T x = .s (.slf id base idx len q)) (hu : P.underlying t = some (.slice e)) : HOk P ⟨d, .call ⟨.builtin .len, #[x], #[t]⟩, rt, pos, af, g⟩ T H (.s (.int .i64 len)) [] :=
  .pure fun W ρ a w _ ho => by
    have h1 : (ev T x).rep ρ (a.eval x) := ho x (by simp [Op.operands, Call.operands])
    rw [hx] at h1
    obtain ⟨b, o, cap, hρ, h1, _⟩ := h1
    refine ⟨.int .i64 len, ?_, rfl⟩
    simp only [execOp, resolve, invoke, builtin, List.map_toArray, List.map_cons, List.map_nil, h1]
    simp [Sem.run_bind, Builtin.len_, run_underlying hu, goInt]
theorem h_cap_sl {x : Operand} {id base idx len cap : Nat} {t : TypeId} {e : TypeId} {rt : TypeId} (hx : ev T x = .s (.slice id base idx len cap)) (hu : P.underlying t = some (.slice e)) : HOk P ⟨d, .call ⟨.builtin .cap, #[x], #[t]⟩, rt, pos, af, g⟩ T H (.s (.int .i64 cap)) [] :=
  .pure fun W ρ a w _ ho => by
    have h1 : (ev T x).rep ρ (a.eval x) := ho x (by simp [Op.operands, Call.operands])
    rw [hx] at h1
    obtain ⟨b, o, hρ, h1⟩ := h1
    refine ⟨.int .i64 cap, ?_, rfl⟩
    simp only [execOp, resolve, invoke, builtin, List.map_toArray, List.map_cons, List.map_nil, h1]
    simp [Sem.run_bind, Builtin.cap_, run_underlying hu, goInt]
/-- So many zeros behind a slice that has no room for them. -/
theorem h_appz {x y : Operand} {t tn e rt : TypeId} {id base idx len cap m2 m n0 q : Nat} {k kq kn : IntKind} {bk : Blk} {ys B : List Int} {inf : TypeInfo} (hx : ev T x = .s (.slice id base idx len cap)) (hy : ev T y = .s (.int kq (m : Nat))) (hb2 : H[id]? = some (some bk)) (hs2 : segAt bk.segs base = some (.ints k m2 ys)) (hl2 : ys.length = m2) (hfit2 : idx + len ≤ m2) (hB : (ys.drop idx).take len = B)
    (h0 : 0 < m) (hg : cap < len + m) (hm : len + m ≤ 1000000) (hu : P.underlying t = some (.slice e)) (hun : P.underlying tn = some (.int kn)) (hi : P.info? e = some inf) (hsz : inf.size = 1) (hz : inf.zero = some (.int k 0)) (hby : inf.bytes ≤ 8) (hn : H.length = n0) (hq : len + m = q) :
    HOk P ⟨d, .call ⟨.builtin .append, #[x, y], #[t, tn]⟩, rt, pos, af, g⟩ T H (.s (.slf n0 0 0 q q)) [⟨true, [.ints k q (B ++ List.replicate m 0)]⟩] := by
  subst hn; subst hB; subst hq
  intro W ρ a w hH hf ho next Q hQ
  have h1 : (ev T x).rep ρ (a.eval x) := ho x (by simp [Op.operands, Call.operands])
  have h2 : (ev T y).rep ρ (a.eval y) := ho y (by simp [Op.operands, Call.operands])
  rw [hx] at h1
  rw [hy] at h2
  obtain ⟨ad, e2, hl, hcell⟩ := src_cells hH h1 hb2 hs2 hfit2 hl2
  have e3 : a.eval y = .int kq (m : Nat) := h2
  generalize hBe : (ys.drop idx).take len = B at *
  have hBl : B.length = len := by simpa using hl
  have hold : (Builtin.firstCells inf.size len (.slice (some ad) len cap)).run P w.drew = .ok (B.map (Value.int k)).toArray w.drew := by
    rw [hsz]
    refine run_firstCells_some w.drew 1 len ad len cap _ (by simp [hBl]) fun j v hj => ?_
    exact hcell j v hj
  have hr := Go.Lib.run_append_grow_zeros (P := P) w t tn rt e inf _ kq kn hu hun hi hz (some ad) len cap (B.map (Value.int k)) hold m h0 (by omega) hg (by omega) (Nat.le_trans (Nat.mul_le_mul (show m ≤ 1000000 by omega) hby) (by omega)) (growslice_fits hg (Nat.le_trans (Nat.mul_le_mul hm hby) (by omega)))
  have hc := grownCap_ge w (len + m) cap e
  have hN : ρ H.length = none := by have := hf 0 (by simp); simpa using this
  have hrun : (execOp a.eval ⟨d, .call ⟨.builtin .append, #[x, y], #[t, tn]⟩, rt, pos, af, g⟩).run P w = .ok (.value (.slice (some ⟨w.heap.size, 0, none⟩) (len + m) (grownCap w (len + m) cap e))) (w.drew.alloc (.cells ((B.map (Value.int k)).toArray ++ Builtin.zeroCells (Value.int k 0).cells m ++ Builtin.zeroCells (Value.int k 0).cells (grownCap w (len + m) cap e - (len + m))) e)) := by
    simp only [execOp, resolve, invoke, builtin, List.map_toArray, List.map_cons, List.map_nil, e2, e3]
    simp [Sem.run_bind, hr]
  rw [hrun]
  refine hQ _ _ ⟨_, New.drew hN fun ρ' _ i z hz => ?_, w.heap.size, 0, _, by simp [upd], rfl, hc, hc⟩
  obtain ⟨hi', rfl⟩ := atS_ints1 hz
  refine ⟨_, ?_, rfl, rfl⟩
  have e1 : (Value.int k 0).cells = #[Value.int k 0] := rfl
  rw [e1, zeroCells_rep]
  have hil : i < (B ++ List.replicate m (0 : Int)).length := by simp [hBl]; omega
  have e4 : (B.map (Value.int k)).toArray ++ (List.replicate m (Value.int k 0)).toArray = ((B ++ List.replicate m 0).map (Value.int k)).toArray := by simp
  simp only []
  rw [e4, Array.getElem?_append_left (by simpa using hil), List.getElem?_toArray, List.getElem?_map, List.getD_eq_getElem?_getD, List.getElem?_eq_getElem hil]
  rfl
theorem h_slf_h {t e : TypeId} {x i : Operand} {id base idx len q h : Nat} {k : IntKind} {n : Int} (hx : ev T x = .s (.slf id base idx len q)) (hi : ev T i = .s (.int k n)) (hn : n = (h : Int)) (hu : P.underlying t = some (.slice e)) (hs : ∀ w, (sizeOf e).run P w = .ok 1 w) (h1 : h ≤ len) :
    HOk P ⟨d, .slice t x none (some i) none, ty, pos, af, g⟩ T H (.s (.slf id base idx h q)) [] :=
  .pure fun W ρ a w _ ho => by
    subst hn
    have k1 := ho x (by simp [Op.operands])
    have k2 := ho i (by simp [Op.operands])
    rw [hx] at k1
    rw [hi] at k2
    simp only [AV.rep, SV.rep] at k2
    obtain ⟨b, o, cap, hρ, he, hq, hl⟩ := k1
    obtain ⟨ad, e1, e2⟩ := sliced_rep (ρ := ρ) (id := id) (base := base) (idx := idx) (len := len) (cap := cap) (l := 0) (h := h) (m := cap) ⟨b, o, hρ, he⟩
    have hr := sl_run (P := P) (w := w) (a := ad) hu hs (sb_h (len := len) (k := k) (show h ≤ cap by omega))
    refine ⟨sliced ad 0 h cap 1, by simp [execOp, e1, k2, Sem.run_bind, hr], ?_⟩
    have : (if cap = 0 then idx else idx + 0) = idx := by split <;> rfl
    rw [this] at e2
    obtain ⟨b', o', h3, h4⟩ := e2
    exact ⟨b', o', cap, h3, h4, hq, by omega⟩
/-- On, where there is room. -/
theorem m_app_room {x y : Operand} {t e rt : TypeId} {id base idx dl dc id2 base2 idx2 sl sc m2 : Nat} {k : IntKind} {u r : SV} {segs segs' : List Seg} {bk2 : Blk} {ys : List Int} {inf : TypeInfo} (hx : ev T x = .s u) (hu0 : (u = .slice id base idx dl dc ∧ r = .slice id base idx (dl + sl) dc) ∨ (u = .slf id base idx dl dc ∧ r = .slf id base idx (dl + sl) dc)) (hy : ev T y = .s (.slice id2 base2 idx2 sl sc)) (hb : H[id]? = some (some ⟨true, segs⟩))
    (hb2 : H[id2]? = some (some bk2)) (hs2 : segAt bk2.segs base2 = some (.ints k m2 ys)) (hl2 : ys.length = m2) (hfit2 : idx2 + sl ≤ m2) (hroom : dl + sl ≤ dc) (hu : P.underlying t = some (.slice e)) (hi : P.info? e = some inf) (hsz : inf.size = 1)
    (hp : PutS segs (base + idx + dl) sl [.ints k sl ((ys.drop idx2).take sl)] segs') : MOk P ⟨d, .call ⟨.builtin .append, #[x, y], #[t, t]⟩, rt, pos, af, g⟩ T H (.s r) (H.set id (some ⟨true, segs'⟩)) := by
  intro W ρ a w hH hnn hW ho next Q hq
  have h1 : (ev T x).rep ρ (a.eval x) := ho x (by simp [Op.operands, Call.operands])
  have h2 : (ev T y).rep ρ (a.eval y) := ho y (by simp [Op.operands, Call.operands])
  rw [hx] at h1
  rw [hy] at h2
  obtain ⟨b, o, cap, hρ, h1, hcap, hr⟩ : ∃ b o cap, ρ id = some (b, o) ∧ a.eval x = .slice (some ⟨b, o + base + idx, none⟩) dl cap ∧ dl + sl ≤ cap ∧ r.rep ρ (.slice (some ⟨b, o + base + idx, none⟩) (dl + sl) cap) := by
    rcases hu0 with ⟨rfl, rfl⟩ | ⟨rfl, rfl⟩
    · obtain ⟨b, o, hρ, h1⟩ := h1
      exact ⟨b, o, dc, hρ, h1, hroom, b, o, hρ, rfl⟩
    · obtain ⟨b, o, cap, hρ, h1, h3, h4⟩ := h1
      exact ⟨b, o, cap, hρ, h1, by omega, b, o, cap, hρ, rfl, h3, by omega⟩
  obtain ⟨ad, e2, hzl, hn⟩ := src_cells hH h2 hb2 hs2 hfit2 hl2
  obtain ⟨⟨cells, tt, fr, g1, g2, g3⟩, hWb⟩ := hH.rep id b o _ hρ hb
  have hfr := g2 rfl
  subst hfr
  generalize (ys.drop idx2).take sl = zs at *
  have hfit : o + (base + idx + dl) + sl ≤ cells.size := by
    have hle := hp.1
    obtain ⟨y, hy⟩ := atS_some (l := segs) (i := base + idx + dl + sl - 1) (by omega)
    obtain ⟨v, hv, _⟩ := g3 _ y hy
    have : o + (base + idx + dl + sl - 1) < cells.size := by
      rcases Nat.lt_or_ge (o + (base + idx + dl + sl - 1)) cells.size with h | h
      · exact h
      · simp [Array.getElem?_eq_none h] at hv
    omega
  have hf := run_firstCells_some (P := P) w 1 sl ad sl sc (zs.map (Value.int k)) (by simpa using hzl) hn
  have hst := run_storeCells_at P b (o + (base + idx + dl)) tt (zs.map (Value.int k)) 0 cells w g1 (by simp at hzl ⊢; omega) (by intro v hv; obtain ⟨z, _, rfl⟩ := List.mem_map.1 hv; rfl)
  rw [Nat.add_zero] at hst
  have hrun : (execOp a.eval ⟨d, .call ⟨.builtin .append, #[x, y], #[t, t]⟩, rt, pos, af, g⟩).run P w = .ok (.value (.slice (some ⟨b, o + base + idx, none⟩) (dl + sl) cap)) (w.setRow b (cells.toList.take (o + (base + idx + dl)) ++ zs.map (Value.int k) ++ cells.toList.drop (o + (base + idx + dl) + (zs.map (Value.int k)).length)).toArray) := by
    simp only [execOp, resolve, invoke, builtin, List.map_toArray, List.map_cons, List.map_nil, h1, e2]
    simp [Builtin.append_, Sem.run_bind, run_underlying hu, sizeOf, typeInfo, hi, hsz, Builtin.lenOf, hcap, hf, Addr.add_lit]
    rw [show o + base + idx + dl = o + (base + idx + dl) by omega, hst]
    simp
  rw [hrun]
  refine hq _ _ ⟨ρ, fun i hi => hnn i (by simpa using hi), .refl _, ?_, Fr.setRow _ (hWb rfl), hr⟩
  refine hH.write hρ hb g1 g3 hp (by simp at hzl ⊢; omega) (fun i z hz => ?_) hfit
  obtain ⟨hi, rfl⟩ := atS_ints1 hz
  refine ⟨.int k (zs.getD i 0), ?_, rfl, rfl⟩
  have : i < zs.length := by simp at hzl; omega
  simp [List.getD_eq_getElem?_getD, this]
end rules
/-- A slice of at least so much room is one of some room. -/
theorem acall_slf {P : Program} {f : FuncId} {H : Heap} {pre post : List AV} {id base idx len q : Nat} {v : AV} {nb : List Blk} (h : ∀ cap, q ≤ cap → len ≤ cap → ACall P f H (pre ++ .s (.slice id base idx len cap) :: post) v nb) : ACall P f H (pre ++ .s (.slf id base idx len q) :: post) v nb := by
  intro W ρ vals w hH hn hargs
  have hi : (pre ++ AV.s (.slf id base idx len q) :: post)[pre.length]? = some (.s (.slf id base idx len q)) := by simp
  obtain ⟨hsz, hall⟩ := hargs
  have hv := hall pre.length _ hi
  obtain ⟨b, o, cap, hρ, he, hc, hl⟩ := hv
  refine h cap hc hl W ρ vals w hH hn ⟨by simpa using hsz, fun i x hx => ?_⟩
  by_cases e : i = pre.length
  · subst e
    simp at hx
    subst hx
    exact ⟨b, o, hρ, he⟩
  · refine hall i x ?_
    rcases Nat.lt_or_ge i pre.length with h1 | h1
    · rwa [List.getElem?_append_left h1] at hx ⊢
    · rw [List.getElem?_append_right h1] at hx ⊢
      obtain ⟨j, hj⟩ : ∃ j, i - pre.length = j + 1 := ⟨i - pre.length - 1, by omega⟩
      rw [hj] at hx ⊢
      simpa using hx
end Go.Ab
end

section
/- The bytes of a string, in new memory. No program. -/
namespace Go.Ab
theorem New.oneF {ρ : Rho} {n : Nat} {segs : List Seg} {w : World} {cells : Array Value} {t : TypeId} {fr : Nat × Nat} (h : ρ n = none) (hr : ∀ ρ', Rle ρ ρ' → RowRep ρ' segs (fun i => cells[i]?)) : New ρ (upd ρ n w.heap.size) n [⟨false, segs⟩] w (w.drew.alloc (.cells cells t fr)) := by
  have N := New.drew (w := w) (t := t) (k := ⟨false, segs⟩) h hr
  refine ⟨N.le, (Ext.drew w).trans (Ext.alloc w.drew _), fun id b o e => ?_, fun i k hk b o e => ?_, N.apart⟩
  · have := N.old id b o e
    simpa using this
  · match i, hk with
    | 0, hk =>
      simp at hk
      subst hk
      have h0 : b = w.heap.size ∧ o = 0 := by
        simp [upd] at e
        exact ⟨e.1.symm, e.2.symm⟩
      obtain ⟨rfl, rfl⟩ := h0
      refine ⟨cells, t, fr, ?_, fun e => (by cases e), ?_⟩
      · show (w.heap.push (.cells cells t fr))[w.heap.size]? = _
        simp
      · have := hr _ N.le
        simpa using this
    | i + 1, hk => simp at hk
section rules
variable {P : Program} {T : Tm} {H : Heap} {d : Option Tmp} {ty : TypeId} {pos : String} {af : Array Edge} {g : Option (Nat × Bool)}
theorem h_strb {src t e : TypeId} {x : Operand} {s : ByteArray} {L : List Int} {n n0 : Nat} (hx : ev T x = .s (.val (.string s))) (hs : P.underlying src = some .string) (hu : P.underlying t = some (.slice e)) (he : P.underlying e = some (.int .u8)) (hL : s.data.toList.map (fun b => (b.toNat : Int)) = L) (hsz : s.size = n) (hn : H.length = n0) :
    HOk P ⟨d, .convert src t x, ty, pos, af, g⟩ T H (.s (.slx n0 0 0 n)) [⟨false, [.ints .u8 n L]⟩] := by
  subst hn; subst hsz; subst hL
  intro W ρ a w hH hf ho next Q hq
  have h1 := one (op := .convert src t x) rfl ho hx
  have h1 : a.eval x = .string s := h1.1
  have hr := run_bytes_of_string (P := P) w src t e s hs hu he
  have hN : ρ H.length = none := by have := hf 0 (by simp); simpa using this
  have hrun : (execOp a.eval ⟨d, .convert src t x, ty, pos, af, g⟩).run P w = .ok (.value (.slice (some ⟨w.heap.size, 0, none⟩) s.size (grownCap w s.size 0 e))) (w.drew.alloc (.cells (bytesRow s (grownCap w s.size 0 e)) e ((bytesRow s (grownCap w s.size 0 e)).size, (bytesRow s (grownCap w s.size 0 e)).size + 1))) := by
    simp only [execOp, h1]
    simp [Sem.run_bind, hr]
  rw [hrun]
  refine hq _ _ ⟨_, New.oneF hN fun ρ' _ i z hz => ?_, w.heap.size, 0, _, by simp [upd], rfl, grownCap_ge w _ _ _⟩
  obtain ⟨hi', rfl⟩ := atS_ints1 hz
  refine ⟨_, ?_, rfl, rfl⟩
  have hil : i < s.data.size := hi'
  simp only [bytesRow]
  rw [Array.getElem?_append_left (by simpa using hil)]
  have e1 : (s.data.map fun b => Value.int .u8 (b.toNat : Int))[i]? = some (Value.int .u8 (s.data[i].toNat : Int)) := by
    rw [Array.getElem?_map, Array.getElem?_eq_getElem hil]; rfl
  rw [e1]
  congr 2
  rw [List.getD_eq_getElem?_getD, List.getElem?_map, Array.getElem?_toList, Array.getElem?_eq_getElem hil]
  rfl
end rules
end Go.Ab
end
