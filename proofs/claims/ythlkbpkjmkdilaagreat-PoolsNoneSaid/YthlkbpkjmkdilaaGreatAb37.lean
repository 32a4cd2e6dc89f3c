/- A region that draws its order, in which a block is made and then filled, by one operation behind the other, and which no other one looks at. No program. -/
import Derived.Test.YthlkbpkjmkdilaaGreatAbB
set_option linter.unusedVariables false
set_option linter.unusedSimpArgs false
namespace Go.Ab
theorem Hk_lenN {N N' : Nat → List Blk} (h : ∀ j, (N j).length = (N' j).length) (H0 : Heap) (k : Nat) : (Hk N H0 k).length = (Hk N' H0 k).length := by
  induction k with
  | zero => rfl
  | succ k ih => simp [Hk, ih, h k]
theorem Hk_app2 {N N' : Nat → List Blk} {k m : Nat} (h : k ≤ m) (hN : ∀ j, k ≤ j → N' j = N j) (X : Heap) : ∃ r, Hk N X m = Hk N X k ++ r ∧ Hk N' X m = Hk N' X k ++ r := by
  induction m with
  | zero => have : k = 0 := by omega
            subst this; exact ⟨[], by simp, by simp⟩
  | succ m ih =>
    by_cases hk : k = m + 1
    · subst hk; exact ⟨[], by simp, by simp⟩
    · obtain ⟨r, h1, h2⟩ := ih (by omega)
      exact ⟨r ++ (N m).map some, by simp only [Hk, h1, List.append_assoc], by simp only [Hk, h2, hN m (by omega), List.append_assoc]⟩
/-- What is hidden is told to be nothing. -/
def HideN (Nv N : Nat → List Blk) : Prop := ∀ j, (Nv j).length = (N j).length ∧ ∀ (i : Nat) (k : Blk), (Nv j)[i]? = some k → (N j)[i]? = some k ∨ ((∃ q, (N j)[i]? = some q) ∧ k = ⟨false, []⟩)
theorem Hk_hide {Nv N : Nat → List Blk} (h : HideN Nv N) (H0 : Heap) (m : Nat) : ∀ (id : Nat) (k : Blk), (Hk Nv H0 m)[id]? = some (some k) → (Hk N H0 m)[id]? = some (some k) ∨ ((∃ q, (Hk N H0 m)[id]? = some (some q)) ∧ k = ⟨false, []⟩) := by
  induction m with
  | zero => exact fun id k hk => .inl hk
  | succ m ih =>
    intro id k hk
    have hl := Hk_lenN (fun j => (h j).1) H0 m
    simp only [Hk] at hk ⊢
    by_cases hid : id < (Hk N H0 m).length
    · rw [List.getElem?_append_left (by omega)] at hk
      rw [List.getElem?_append_left hid]
      exact ih id k hk
    · rw [List.getElem?_append_right (by omega), hl, List.getElem?_map, Option.map_eq_some_iff] at hk
      obtain ⟨q, hq, e⟩ := hk
      cases e
      rw [List.getElem?_append_right (by omega), List.getElem?_map]
      rcases (h m).2 _ _ hq with e | ⟨⟨p, e⟩, e2⟩
      · exact .inl (by rw [e]; rfl)
      · exact .inr ⟨⟨p, by rw [e]; rfl⟩, e2⟩
theorem HRep.weak {W : Nat → Prop} {ρ : Rho} {H H' : Heap} {w : World} (h : HRep W ρ H w) (hs : ∀ (id : Nat) (k : Blk), H'[id]? = some (some k) → H[id]? = some (some k) ∨ ((∃ q, H[id]? = some (some q)) ∧ k = ⟨false, []⟩)) : HRep W ρ H' w := by
  refine ⟨h.lt, fun id b o k e e2 => ?_, fun id id' b o o' k k' hne e e' e2 e2' => ?_⟩
  · rcases hs id k e2 with h1 | ⟨⟨q, h1⟩, rfl⟩
    · exact h.rep id b o k e h1
    · obtain ⟨cells, t, fr, g1, g2, g3⟩ := (h.rep id b o q e h1).1
      exact ⟨⟨cells, t, fr, g1, fun e => (by cases e), fun i x hx => by simp [atS] at hx⟩, fun e => (by cases e)⟩
  · rcases hs id k e2 with h1 | ⟨⟨q, h1⟩, rfl⟩ <;> rcases hs id' k' e2' with h1' | ⟨⟨q', h1'⟩, rfl⟩
    · exact h.apart id id' b o o' k k' hne e e' h1 h1'
    · exact ⟨(h.apart id id' b o o' k q' hne e e' h1 h1').1, rfl⟩
    · exact ⟨rfl, (h.apart id id' b o o' q k' hne e e' h1 h1').2⟩
    · exact ⟨rfl, rfl⟩
def StepS (P : Program) (ops : Array Oper) (V : Nat → AV) (N N' : Nat → List Blk) (T0 : Tm) (H0 : Heap) (k : Nat) : Prop :=
  ∃ (o : Oper) (hs : List Nat), ops[k]? = some o ∧ N k = [] ∧ Guard ops (Tk ops V T0 k) o true ∧ (∀ x ∈ o.op.operands, (ev (Tk ops V T0 k) x).lowB (Hk N H0 k).length = true) ∧ (V k).lowB 0 = true ∧ (Hk N H0 k).all (fun | none => true | some q => q.segs.all (Seg.lowB (Hk N H0 k).length)) = true ∧ (Own hs (Hk N H0 k) (Hk N' H0 k) ∧ MOk P o (Tk ops V T0 k) (roH hs (Hk N H0 k)) (V k) (roH hs (Hk N' H0 k)))
def StepV (P : Program) (ops : Array Oper) (V : Nat → AV) (N Nv : Nat → List Blk) (T0 : Tm) (H0 : Heap) (k : Nat) : Prop :=
  ∃ o, ops[k]? = some o ∧ ((Guard ops (Tk ops V T0 k) o true ∧ HOk P o (Tk ops V T0 k) (Hk Nv H0 k) (V k) (N k)) ∨ (Guard ops (Tk ops V T0 k) o false ∧ V k = .s .junk ∧ N k = []))
structure InvS (E : Env) (ops : Array Oper) (m k0 : Nat) (V : Nat → AV) (N N' : Nat → List Blk) (T0 : Tm) (H0 : Heap) (listed : Array Bool) (a : Act) (w : World) : Prop where
  size : listed.size = ops.size
  closed : Closed ops listed
  late : ∀ i, m ≤ i → i < ops.size → listed.getD i false = false
  ex : ∃ ρ, Rle E.ρ0 ρ ∧ HRep E.W ρ (Hk (bif listed.getD k0 false then N' else N) H0 m) w ∧
    (∀ t, (∀ j, j < m → listed.getD j false = true → (ops[j]?).bind (·.dst) = some t → (V j).rep ρ (a.tmps.getD t undef)) ∧ ((∀ j, j < m → (ops[j]?).bind (·.dst) ≠ some t) → (look T0 t).rep ρ (a.tmps.getD t undef))) ∧
    (∀ id x, ρ id = some x → id < H0.length ∨ ∃ j, j < m ∧ listed.getD j false = true ∧ (Hk N H0 j).length ≤ id ∧ id < (Hk N H0 j).length + (N j).length) ∧
    a.tmps.size = E.n ∧ DefOk E.w0 a.defers w ∧ Fr E.W E.w0 w
theorem head_anyS {E : Env} {ops : Array Oper} {Q : Exit → Act → World → Prop} {m k0 q1 : Nat} (hok : regionOk E.n ops = true) (hany : anyOk ops m = true) (hm : m ≤ ops.size) {V : Nat → AV} {N N' Nv : Nat → List Blk} {T0 : Tm} {H0 : Heap} (hk0 : k0 < m) (hq1 : q1 < k0) (hN : ∀ j, j ≠ q1 → N' j = N j) (hNl : (N' q1).length = (N q1).length) (hv0 : HideN Nv N) (hv1 : HideN Nv N') {o1 os : Oper} {d1 : Nat} (ho1 : ops[q1]? = some o1) (hd1 : o1.dst = some d1) (hos : ops[k0]? = some os) (hdep : Operand.tmp d1 ∈ os.op.operands)
    (hstep : ∀ k, k < m → k ≠ k0 → StepV E.P ops V N Nv T0 H0 k) (hmut : StepS E.P ops V N N' T0 H0 k0) {l : List Oper} (hl : ∀ j, l[j]? = ops[m + j]?) (hlen : m + l.length = ops.size) {T' : Tm} {H' : Heap} (htail : Steps E.P ops l (Tk ops V T0 m) (Hk N' H0 m) T' H') (hQ : ∀ a' w', Rep E T' H' a' w' → Q .normal a' w') :
    ∀ (fuel : Nat) (us : List Nat) (listed : Array Bool) (a : Act) (w : World), (∀ j, j < m → listed.getD j false = false → j ∈ us) → us.length + l.length ≤ fuel → InvS E ops m k0 V N N' T0 H0 listed a w → wpAny E.P .any ops Q fuel listed a w := by
  have hNN : ∀ j, (N j).length = (N' j).length := fun j => by
    by_cases h : j = q1
    · subst h; exact hNl.symm
    · rw [hN j h]
  have finish : ∀ (fuel : Nat) (listed : Array Bool) (a : Act) (w : World), (∀ j, j < m → listed.getD j false = true) → l.length ≤ fuel → InvS E ops m k0 V N N' T0 H0 listed a w → wpAny E.P .any ops Q fuel listed a w := by
    intro fuel listed a w hall hf hi
    refine tail_any hok hany htail m (Nat.le_refl _) hlen hl fuel listed hf hi.size (fun i his => ?_) a w ?_ hQ
    · rcases Nat.lt_or_ge i m with h | h
      · rw [hall i h]; simp [h]
      · rw [hi.late i h his]; simp; omega
    · obtain ⟨ρ, k1, k2, k3, k4, k5, k6, k7⟩ := hi.ex
      rw [hall k0 hk0] at k2
      refine ⟨ρ, k1, fun id hid => ?_, k2, fun t => ?_, k5, k6, k7⟩
      · cases hr : ρ id with
        | none => rfl
        | some x =>
          rcases k4 id x hr with h | ⟨j, h1, _, _, h2⟩
          · obtain ⟨r, hr⟩ := Hk_le (N := N') (H0 := H0) (Nat.zero_le m)
            simp only [Hk] at hr
            rw [hr] at hid
            simp at hid; omega
          · have := Hk_len (N := N) (H0 := H0) h1
            have := Hk_lenN hNN H0 m
            omega
      · rcases look_Tk (ops := ops) (V := V) (T0 := T0) t m with ⟨j, h1, h2, h3⟩ | ⟨h1, h2⟩
        · rw [h3]; exact (k3 t).1 j h1 (hall j h1) h2
        · rw [h2]; exact (k3 t).2 h1
  intro fuel
  induction fuel with
  | zero =>
    intro us listed a w hus hf hi
    refine finish 0 listed a w (fun j hj => ?_) (by omega) hi
    cases hb : listed.getD j false with
    | true => rfl
    | false => have := hus j hj hb; have := List.length_pos_of_mem this; omega
  | succ fuel ih =>
    intro us listed a w hus hf hi
    by_cases hall : ∀ j, j < m → listed.getD j false = true
    · exact finish _ listed a w hall (by omega) hi
    have hex : ∃ j, j < m ∧ listed.getD j false = false := by
      apply Classical.byContradiction
      intro hn
      refine hall fun j hj => ?_
      cases hb : listed.getD j false with
      | true => rfl
      | false => exact absurd ⟨j, hj, hb⟩ hn
    -- the least unlisted one is ready
    have hready : ∃ j, j ∈ Region.ready .any ops listed := by
      have hleast : ∀ n, (∃ j, j ≤ n ∧ j < m ∧ listed.getD j false = false) → ∃ j, j < m ∧ listed.getD j false = false ∧ ∀ i, i < j → listed.getD i false = true := by
        intro n
        induction n with
        | zero =>
          rintro ⟨j, h1, h2, h3⟩
          have : j = 0 := by omega
          subst this
          exact ⟨0, h2, h3, fun i hi => absurd hi (by omega)⟩
        | succ n ihn =>
          rintro ⟨j, h1, h2, h3⟩
          by_cases hh : ∃ j, j ≤ n ∧ j < m ∧ listed.getD j false = false
          · exact ihn hh
          · refine ⟨j, h2, h3, fun i hi => ?_⟩
            cases hb : listed.getD i false with
            | true => rfl
            | false => exact absurd ⟨i, by omega, by omega, hb⟩ hh
      obtain ⟨j0, h1, h2⟩ := hex
      obtain ⟨j, hj, hjf, hji⟩ := hleast j0 ⟨j0, Nat.le_refl _, h1, h2⟩
      have hjs : j < ops.size := by omega
      have ho : ops[j]? = some ops[j] := by simp [hjs]
      exact ⟨j, mem_ready.2 ⟨by simp [hi.size, hjs] at hjf ⊢; exact hjf, _, ho, fun e he hb => hji _ (anyOk_edge hany ho e he hb)⟩⟩
    refine ⟨fun hn => (by obtain ⟨j, hj⟩ := hready; rw [hn] at hj; cases hj), fun i hir => ?_⟩
    obtain ⟨hun, o, ho, hedges⟩ := mem_ready.1 hir
    have his : i < ops.size := (Array.getElem?_eq_some_iff.1 ho).1
    have hif : listed.getD i false = false := by simp [hi.size, his] at hun ⊢; exact hun
    have him : i < m := by
      rcases Nat.lt_or_ge i m with h | h
      · exact h
      · obtain ⟨j, h1, h2⟩ := hex
        have := reach_listed hany hi.closed i o j ho (anyOk_tail hany ho h j (by omega)) hedges
        rw [h2] at this; cases this
    obtain ⟨ρ, k1, k2, k3, k4, k5, k6, k7⟩ := hi.ex
    -- what it looks at is told
    have hlook : ∀ t, t ∈ o.looksAt ops → (look (Tk ops V T0 i) t).rep ρ (a.tmps.getD t undef) := by
      intro t ht
      rcases look_Tk (ops := ops) (V := V) (T0 := T0) t i with ⟨j, h1, h2, h3⟩ | ⟨h1, h2⟩
      · rw [h3]
        have hjs : j < ops.size := by omega
        have hp : ops[j]? = some ops[j] := by simp [hjs]
        have hd : ops[j].dst = some t := by rw [hp] at h2; simpa using h2
        have := (anyOk_head hany ho him (show j < m by omega) hp hd).2 ht
        exact (k3 t).1 j (by omega) (reach_listed hany hi.closed i o j ho this.2 hedges) h2
      · rw [h2]
        refine (k3 t).2 fun j hj hd => ?_
        by_cases hji : j < i
        · exact h1 j hji hd
        · have hjs : j < ops.size := by omega
          have hp : ops[j]? = some ops[j] := by simp [hjs]
          have hd' : ops[j].dst = some t := by rw [hp] at hd; simpa using hd
          have := (anyOk_head hany ho him hj hp hd').2 ht
          omega
    have hopk := regionOk_op hok ho
    have hopsrep : Ops o (Tk ops V T0 i) ρ a := by
      intro x hx
      simp only [opOk, Bool.and_eq_true, Array.all_eq_true_iff_forall_mem] at hopk
      cases x with
      | tmp t => exact hlook t (looksAt_op hx)
      | global g => trivial
      | func f => exact ⟨rfl, rfl⟩
      | const c =>
        have h := hopk.1.1 _ hx
        simp only [operandOk] at h
        unfold constOk at h
        split at h <;> first
          | (cases h; done)
          | exact rfl
          | exact ⟨rfl, rfl⟩
    have hdst : ∀ d, o.dst = some d → d < a.tmps.size := fun d hd => by rw [k5]; exact opOk_dst hopk d hd
    have hwant : ∀ c, Guard ops (Tk ops V T0 i) o c → Region.wanted o (yielded ops a.tmps) = c := fun c hg =>
      hg.wanted (ρ := ρ) fun j b t e1 e2 => ⟨hlook t (looksAt_guard e1 e2), by rw [k5]; exact regionOk_guard hok j t e2⟩
    have hW : ∀ b, w.heap.size ≤ b → E.W b := fun b hb => E.hW b (Nat.le_trans k7.size hb)
    have hnone : ∀ i', i' < (N i).length → ρ ((Hk N H0 i).length + i') = none := by
      intro i' hi'
      cases hr : ρ ((Hk N H0 i).length + i') with
      | none => rfl
      | some x =>
        rcases k4 _ x hr with h | ⟨j, h1, h2, h3, h4⟩
        · obtain ⟨r, hr⟩ := Hk_le (N := N) (H0 := H0) (Nat.zero_le i)
          simp only [Hk] at hr
          rw [hr] at h; simp at h; omega
        · rcases Nat.lt_trichotomy i j with h5 | h5 | h5
          · have := Hk_len (N := N) (H0 := H0) h5; omega
          · subst h5; rw [hif] at h2; cases h2
          · have := Hk_len (N := N) (H0 := H0) h5; omega
    -- the step
    have hinv : ∀ (v' : Value) (w' : World) (ρ' : Rho), Rle ρ ρ' → HRep E.W ρ' (Hk (bif (listed.setIfInBounds i true).getD k0 false then N' else N) H0 m) w' → (∀ id x, ρ' id = some x → ρ id = some x ∨ ((Hk N H0 i).length ≤ id ∧ id < (Hk N H0 i).length + (N i).length)) → Fr E.W w w' → (V i).rep ρ' v' → InvS E ops m k0 V N N' T0 H0 (listed.setIfInBounds i true) (a.put o.dst v') w' := by
      intro v' w' ρ' hrle hheap hold hfr hv
      have hset : ∀ j, j ≠ i → (listed.setIfInBounds i true).getD j false = listed.getD j false := fun j hj => getD_set_ne false (Ne.symm hj)
      have hseti : (listed.setIfInBounds i true).getD i false = true := by simp [hi.size, his]
      refine ⟨by simpa using hi.size, fun j p hp hjl e he hb => ?_, fun j h1 h2 => by rw [hset j (by omega)]; exact hi.late j h1 h2, ρ', k1.trans hrle, hheap, fun t => ?_, fun id x hx => ?_, (put_size _ _ _).trans k5, (by rw [put_defers]; exact k6.fr hfr), k7.trans hfr⟩
      · have keep : ∀ x, listed.getD x false = true → (listed.setIfInBounds i true).getD x false = true := fun x hx => getD_set_true hx
        by_cases hji : j = i
        · subst hji
          rw [ho] at hp
          cases hp
          exact keep _ (hedges e he hb)
        · rw [hset j hji] at hjl
          exact keep _ (hi.closed j p hp hjl e he hb)
      · have hslot : (a.put o.dst v').tmps.getD t undef = if o.dst = some t then v' else a.tmps.getD t undef := by
          cases hd : o.dst with
          | none => simp [Act.put]
          | some d =>
            simp only [Act.put]
            rw [getD_set _ _ _ _ (hdst d hd)]
            simp
        rw [hslot]
        refine ⟨fun j hj hlj hdj => ?_, fun hno => ?_⟩
        · by_cases hji : j = i
          · subst hji
            rw [ho] at hdj
            have hdj : o.dst = some t := by simpa using hdj
            rw [if_pos hdj]; exact hv
          · have hjs : j < ops.size := by omega
            have hp : ops[j]? = some ops[j] := by simp [hjs]
            have hd' : ops[j].dst = some t := by rw [hp] at hdj; simpa using hdj
            have h1 := (anyOk_head hany ho him hj hp hd').1
            rw [if_neg (h1.resolve_left hji)]
            rw [hset j hji] at hlj
            exact AV.rep_le hrle ((k3 t).1 j hj hlj hdj)
        · have : o.dst ≠ some t := by have := hno i him; rw [ho] at this; simpa using this
          rw [if_neg this]
          exact AV.rep_le hrle ((k3 t).2 hno)
      · rcases hold id x hx with h | ⟨h1, h2⟩
        · rcases k4 id _ h with h | ⟨j, h1, h2, h3⟩
          · exact .inl h
          · refine .inr ⟨j, h1, ?_, h3⟩
            by_cases hji : j = i
            · subst hji; exact hseti
            · rw [hset j hji]; exact h2
        · exact .inr ⟨i, him, hseti, h1, h2⟩
    have hus' : ∀ j, j < m → (listed.setIfInBounds i true).getD j false = false → j ∈ us.erase i := by
      intro j hj hjf
      by_cases hji : j = i
      · subst hji; simp [hi.size, his] at hjf
      · rw [getD_set_ne false (Ne.symm hji)] at hjf
        exact (List.mem_erase_of_ne hji).2 (hus j hj hjf)
    have hlen' : (us.erase i).length + l.length ≤ fuel := by
      have hmem := hus i him hif
      rw [List.length_erase_of_mem hmem]
      have := List.length_pos_of_mem hmem
      omega
    have hBl : ∀ j, ((bif listed.getD k0 false then N' else N) j).length = (N j).length := fun j => by cases listed.getD k0 false <;> simp [hNN]
    have hhide : HideN Nv (bif listed.getD k0 false then N' else N) := by cases listed.getD k0 false <;> assumption
    have hsubv : HRep E.W ρ (Hk Nv H0 i) w := by
      obtain ⟨r, hr⟩ := Hk_le (N := Nv) (H0 := H0) (show i ≤ m by omega)
      refine HRep.sub_pre (r := r) ?_
      rw [← hr]
      exact k2.weak (Hk_hide hhide H0 m)
    unfold wpOp
    simp only [ho]
    by_cases hik : i = k0
    · subst hik
      obtain ⟨o', hs, ho', hNi, hg, hlow, hvl, hlH, hmut⟩ := hmut
      rw [ho] at ho'
      cases ho'
      rw [hwant _ hg]
      simp only [if_true]
      rw [hif] at k2
      simp only [cond_false] at k2
      refine .inl ?_
      obtain ⟨R, hR, hR'⟩ := Hk_app2 (N := N) (N' := N') (show i ≤ m by omega) (fun j hj => hN j (by omega)) H0
      refine mut_step (R := R) hs (Hk_lenN (fun j => (hNN j).symm) H0 i) hmut (by rw [← hR]; exact k2) hW hopsrep hlow hvl hlH (fun id x hx => ?_) _ Q ?_
      · rcases k4 id x hx with h | ⟨j, h1, h2, h3, h4⟩
        · obtain ⟨r, hr⟩ := Hk_le (N := N) (H0 := H0) (Nat.zero_le m)
          simp only [Hk] at hr
          rw [← hR, hr]; simp; omega
        · have := Hk_len (N := N) (H0 := H0) h1
          rw [← hR]; omega
      · rintro v' w' ⟨hheap, hfr, hv⟩
        refine ih (us.erase i) _ _ _ hus' hlen' (hinv v' w' ρ (.refl _) ?_ (fun id x hx => .inl hx) hfr hv)
        simp only [show (listed.setIfInBounds i true).getD i false = true by simp [hi.size, his], cond_true]
        rw [hR']; exact hheap
    · obtain ⟨o', ho', hso⟩ := hstep i him hik
      rw [ho] at ho'
      cases ho'
      have hsk : (listed.setIfInBounds i true).getD k0 false = listed.getD k0 false := getD_set_ne false hik
      have hlv := Hk_lenN (fun j => (hv0 j).1) H0 i
      have hBi := Hk_lenN hBl H0 i
      have hNi : (bif listed.getD k0 false then N' else N) i = N i := by
        cases hb : listed.getD k0 false with
        | false => rfl
        | true =>
          by_cases h : i = q1
          · subst h
            have hreach := (anyOk_head hany hos hk0 him ho1 hd1).2 (looksAt_op hdep)
            have := reach_listed hany hi.closed k0 os i hos hreach.2 (fun e he hb2 => hi.closed k0 os hos hb e he hb2)
            rw [hif] at this; cases this
          · exact hN i h
      rcases hso with ⟨hg, hh⟩ | ⟨hg, hv, hn⟩
      · rw [hwant _ hg]
        simp only [if_true]
        refine .inl (hh E.W ρ a w hsubv (fun i' hi' => by rw [hlv]; exact hnone i' hi') hopsrep _ Q ?_)
        rintro v' w' ⟨ρ', hnew, hv⟩
        rw [hlv] at hnew
        refine ih (us.erase i) _ _ _ hus' hlen' (hinv v' w' ρ' hnew.le ?_ (fun id x hx => ?_) (hnew.ext.fr _) hv)
        · rw [hsk]
          refine k2.new' hW hnone (fun i' hi' => ?_) hnew
          obtain ⟨r, hr⟩ := Hk_le (N := bif listed.getD k0 false then N' else N) (H0 := H0) (show i + 1 ≤ m by omega)
          rw [hr]
          simp only [Hk, hNi]
          rw [List.append_assoc, List.getElem?_append_right (by omega), ← hBi, Nat.add_sub_cancel_left, List.getElem?_append_left (by simpa using hi')]
          simp [hi']
        · obtain ⟨b, off⟩ := x
          rcases hnew.old id b off hx with h | ⟨h1, h2, _, _⟩
          · exact .inl h
          · exact .inr ⟨h1, h2⟩
      · rw [hwant _ hg]
        simp only [Bool.false_eq_true, if_false]
        refine ih (us.erase i) _ _ _ hus' hlen' (hinv undef w ρ (.refl _) (by rw [hsk]; exact k2) (fun id x hx => .inl hx) (.refl _ _) ?_)
        rw [hv]; trivial
theorem Rep.invS {E : Env} {ops : Array Oper} {m k0 : Nat} {V : Nat → AV} {N N' : Nat → List Blk} {T0 : Tm} {H0 : Heap} {a : Act} {w : World} (h : Rep E T0 H0 a w) : InvS E ops m k0 V N N' T0 H0 (Array.replicate ops.size false) a w := by
  obtain ⟨s1, s2, s3, ρ, k1, k2, k3⟩ := (h.inv : Inv E ops m V N T0 H0 (Array.replicate ops.size false) a w)
  exact ⟨s1, s2, s3, ρ, k1, by rw [getD_rep_false]; exact k2, k3⟩
/-- **A region that draws its order**, in which a block is made and then filled. -/
theorem region_anyS {E : Env} {id : Nat} {ops : Array Oper} {Q : Exit → Act → World → Prop} {m k0 q1 : Nat} (hmix : E.P.follows .mixedOrders = true) (hok : regionOk E.n ops = true) (hany : anyOk ops m = true) {la lb l2 : List Oper} {o1 o : Oper} {d1 : Nat} (hl : ops.toList = la ++ o1 :: o :: (lb ++ l2)) (hk1 : la.length = q1) (hk : k0 = q1 + 1) (hm : q1 + 2 + lb.length = m)
    {T Ta Tb T' : Tm} {H Ha Hb H' : Heap} {v1 v : AV} {b0 b1 : Blk} (hs : List Nat) (hA : HSteps E.P ops la T H Ta Ha) (hg1 : Guard ops Ta o1 true) (h1 : HOk E.P o1 Ta Ha v1 [b0]) (hd1 : o1.dst = some d1) (hdep : Operand.tmp d1 ∈ o.op.operands)
    (own : Own hs (Ha ++ [some b0]) (Ha ++ [some b1])) (hg : Guard ops (put Ta o1.dst v1) o true) (hlow : ∀ x ∈ o.op.operands, (ev (put Ta o1.dst v1) x).lowB (Ha ++ [some b0]).length = true) (hvl : v.lowB 0 = true) (hlH : (Ha ++ [some b0]).all (fun | none => true | some k => k.segs.all (Seg.lowB (Ha ++ [some b0]).length)) = true)
    (hM : MOk E.P o (put Ta o1.dst v1) (roH hs (Ha ++ [some b0])) v (roH hs (Ha ++ [some b1])))
    (hB : HSteps E.P ops lb (put (put Ta o1.dst v1) o.dst v) (Ha ++ [some ⟨false, []⟩]) Tb Hb) (h2 : Steps E.P ops l2 Tb ((Ha ++ [some b1]) ++ Hb.drop (Ha.length + 1)) T' H') {a : Act} {w : World} (hr : Rep E T H a w) (hQ : ∀ a' w', Rep E T' H' a' w' → Q .normal a' w') : (Code.region id ops true).wp E.P Q a w := by
  subst hk
  have hsz : ops.size = m + l2.length := by rw [← Array.length_toList, hl]; simp; omega
  have hget : ∀ j, ops[j]? = (la ++ o1 :: o :: (lb ++ l2))[j]? := fun j => by rw [← Array.getElem?_toList, hl]
  have ho1 : ops[q1]? = some o1 := by rw [hget, ← hk1]; simp
  have ho : ops[q1 + 1]? = some o := by rw [hget, List.getElem?_append_right (by omega), show q1 + 1 - la.length = 1 by omega]; rfl
  have gA : ∀ j, j < la.length → la[j]? = ops[0 + j]? := fun j hj => by rw [Nat.zero_add, hget, List.getElem?_append_left hj]
  have gB : ∀ j, j < lb.length → lb[j]? = ops[q1 + 1 + 1 + j]? := fun j hj => by
    rw [hget, List.getElem?_append_right (by omega), show q1 + 1 + 1 + j - la.length = j + 1 + 1 by omega, List.getElem?_cons_succ, List.getElem?_cons_succ, List.getElem?_append_left hj]
  obtain ⟨V1, N1, _, a2, a3, a4⟩ := trace' hA T H 0 (fun _ => .s .junk) (fun _ => []) gA rfl rfl
  rw [Nat.zero_add, hk1] at a3 a4
  let V2 : Nat → AV := fun j => if j = q1 + 1 then v else if j = q1 then v1 else V1 j
  let N2 : Nat → List Blk := fun j => if j = q1 + 1 then [] else if j = q1 then [⟨false, []⟩] else N1 j
  have eT : Tk ops V2 T q1 = Ta := by rw [← a3]; exact Tk_congr fun j hj => by simp [V2, show j ≠ q1 + 1 by omega, show j ≠ q1 by omega]
  have eH : Hk N2 H q1 = Ha := by rw [← a4]; exact Hk_congr fun j hj => by simp [N2, show j ≠ q1 + 1 by omega, show j ≠ q1 by omega]
  obtain ⟨V, Nv, c1, c2, c3, c4⟩ := trace' hB T H (q1 + 1 + 1) V2 N2 gB (by simp only [Tk, eT, ho, ho1, Option.bind_some]; simp [V2]) (by simp only [Hk, eH]; simp [N2])
  rw [show q1 + 1 + 1 + lb.length = m by omega] at c3 c4
  have eTk : ∀ k, k ≤ q1 → Tk ops V T k = Tk ops V1 T k := fun k hk' => Tk_congr fun j hj => by rw [(c1 j (by omega)).1]; simp [V2, show j ≠ q1 + 1 by omega, show j ≠ q1 by omega]
  have eHk : ∀ k, k ≤ q1 → Hk Nv H k = Hk N1 H k := fun k hk' => Hk_congr fun j hj => by rw [(c1 j (by omega)).2]; simp [N2, show j ≠ q1 + 1 by omega, show j ≠ q1 by omega]
  have eN : ∀ j, j < q1 → Nv j = N1 j := fun j hj => by rw [(c1 j (by omega)).2]; simp [N2, show j ≠ q1 + 1 by omega, show j ≠ q1 by omega]
  have eV : ∀ j, j < q1 → V j = V1 j := fun j hj => by rw [(c1 j (by omega)).1]; simp [V2, show j ≠ q1 + 1 by omega, show j ≠ q1 by omega]
  have hNq : Nv q1 = [⟨false, []⟩] := by rw [(c1 q1 (by omega)).2]; simp [N2]
  have hVq : V q1 = v1 := by rw [(c1 q1 (by omega)).1]; simp [V2]
  have hVk : V (q1 + 1) = v := by rw [(c1 (q1 + 1) (by omega)).1]; simp [V2]
  have hNk : Nv (q1 + 1) = [] := by rw [(c1 (q1 + 1) (by omega)).2]; simp [N2]
  have eTa : Tk ops V T q1 = Ta := by rw [eTk q1 (Nat.le_refl _), a3]
  have eHa : Hk Nv H q1 = Ha := by rw [eHk q1 (Nat.le_refl _), a4]
  let N : Nat → List Blk := fun j => if j = q1 then [b0] else Nv j
  let N' : Nat → List Blk := fun j => if j = q1 then [b1] else Nv j
  have eNa : Hk N H q1 = Ha := by rw [← eHa]; exact Hk_congr fun j hj => by simp [N, show j ≠ q1 by omega]
  have eNa' : Hk N' H q1 = Ha := by rw [← eHa]; exact Hk_congr fun j hj => by simp [N', show j ≠ q1 by omega]
  have eN1 : Hk N H (q1 + 1) = Ha ++ [some b0] := by simp only [Hk, eNa]; simp [N]
  have eN1' : Hk N' H (q1 + 1) = Ha ++ [some b1] := by simp only [Hk, eNa']; simp [N']
  have eT1 : Tk ops V T (q1 + 1) = put Ta o1.dst v1 := by simp only [Tk, eTa, ho1, Option.bind_some, hVq]
  have hide : ∀ b : Blk, HideN Nv (fun j => if j = q1 then [b] else Nv j) := fun b j => by
    by_cases h : j = q1
    · subst h
      simp only [↓reduceIte]
      refine ⟨by rw [hNq]; rfl, fun i k hk => ?_⟩
      rw [hNq] at hk
      match i, hk with
      | 0, hk => simp at hk; exact .inr ⟨⟨b, rfl⟩, hk.symm⟩
      | i + 1, hk => simp at hk
    · simp only [h, ↓reduceIte]
      exact by constructor; trivial; exact fun i k hk => .inl hk
  have hstep : ∀ k, k < m → k ≠ q1 + 1 → StepV E.P ops V N Nv T H k := by
    intro k hk2 hk3
    rcases Nat.lt_trichotomy k q1 with h | h | h
    · have := a2 k (Nat.zero_le _) (by omega)
      unfold StepOk at this
      unfold StepV
      rw [eTk k (by omega), eHk k (by omega), eV k h, show N k = N1 k by simp [N, show k ≠ q1 by omega, eN k h]]
      exact this
    · subst h
      exact ⟨o1, ho1, .inl (by rw [eTa, eHa, hVq, show N k = [b0] by simp [N]]; exact ⟨hg1, h1⟩)⟩
    · have := c2 k (by omega) (by omega)
      unfold StepOk at this
      unfold StepV
      rw [show N k = Nv k by simp [N, show k ≠ q1 by omega]]
      exact this
  have hstepM : StepS E.P ops V N N' T H (q1 + 1) := ⟨o, hs, ho, by simp [N, hNk], by rw [eT1]; exact hg, by rw [eT1, eN1]; exact hlow, by rw [hVk]; exact hvl, by rw [eN1]; exact hlH, by rw [eN1, eN1']; exact own, by rw [eT1, eN1, eN1', hVk]; exact hM⟩
  have hHb : Hk N' H m = (Ha ++ [some b1]) ++ Hb.drop (Ha.length + 1) := by
    obtain ⟨R, hR, hR'⟩ := Hk_app2 (N := Nv) (N' := N') (show q1 + 1 ≤ m by omega) (fun j hj => by simp [N', show j ≠ q1 by omega]) H
    have e : Hk Nv H (q1 + 1) = Ha ++ [some ⟨false, []⟩] := by simp only [Hk, eHa, hNq]; rfl
    rw [hR', eN1', ← c4, hR, e, show Ha.length + 1 = (Ha ++ [some (⟨false, []⟩ : Blk)]).length by simp, List.drop_left]
  refine wp_region_any hmix ?_
  refine head_anyS (k0 := q1 + 1) (q1 := q1) hok hany (by omega) (V := V) (N := N) (N' := N') (Nv := Nv) (by omega) (by omega) (fun j hj => by simp [N, N', hj]) (by simp [N, N']) (hide b0) (hide b1) ho1 hd1 ho hdep hstep hstepM (l := l2) (fun j => ?_) (by omega) (by rw [c3, hHb]; exact h2) hQ ops.size (List.range m) _ a _ (fun j hj _ => List.mem_range.2 hj) (by simp; omega) hr.drew.invS
  rw [hget, List.getElem?_append_right (by omega), show m + j - la.length = (lb.length + j) + 1 + 1 by omega, List.getElem?_cons_succ, List.getElem?_cons_succ, List.getElem?_append_right (by omega), Nat.add_sub_cancel_left]
def ownNew (b0 b1 : Blk) : Bool := b0.rw && b1.rw && b1.segs.all (Seg.lowB 0)
theorem own_new {Ha : Heap} {b0 b1 : Blk} (h : ownNew b0 b1 = true) : Own [Ha.length] (Ha ++ [some b0]) (Ha ++ [some b1]) := by
  simp only [ownNew, Bool.and_eq_true] at h
  refine ⟨fun id hid => ?_, fun id hid => ?_, fun id hid => ?_⟩
  · obtain rfl := List.mem_singleton.1 hid
    exact ⟨b0, by simp, h.1.1⟩
  · obtain rfl := List.mem_singleton.1 hid
    exact ⟨b1, by simp, h.1.2, h.2⟩
  · have : id ≠ Ha.length := fun e => hid (by simp [e])
    by_cases h : id < Ha.length
    · rw [List.getElem?_append_left h, List.getElem?_append_left h]
    · rw [List.getElem?_eq_none (by simp; omega), List.getElem?_eq_none (by simp; omega)]
theorem c_anyS {E : Env} {T : Tm} {H : Heap} {Q : Exit → Tm → Heap → Prop} {id : Nat} {ops : Array Oper} (m q1 : Nat) {la lb l2 : List Oper} {d1 : Nat} {op1 op : Op} {ty1 ty : TypeId} {pos1 pos : String} {af1 af : Array Edge} (hmix : E.P.follows .mixedOrders = true) (hok : regionOk E.n ops = true) (hany : anyOk ops m = true)
    (hla : ops.toList.take q1 = la) (ho1 : ops[q1]? = some ⟨some d1, op1, ty1, pos1, af1, none⟩) (ho : ops[q1 + 1]? = some ⟨none, op, ty, pos, af, none⟩) (hlb : (ops.toList.drop (q1 + 2)).take (m - q1 - 2) = lb) (hl2 : ops.toList.drop m = l2) (hkm : Nat.blt (q1 + 1) m = true) (hms : Nat.ble m ops.size = true) (hdep : Operand.tmp d1 ∈ op.operands)
    (h : TG E.P ops la T H fun Ta Ha => ∃ (v1 : AV) (b0 b1 : Blk) (Hr H1r H1 : Heap), HOk E.P ⟨some d1, op1, ty1, pos1, af1, none⟩ Ta Ha v1 [b0] ∧ ownNew b0 b1 = true ∧ (op.operands.toList.all fun x => (ev ((d1, v1) :: Ta) x).lowB (Ha ++ [some b0]).length) = true ∧ (Ha ++ [some b0]).all (fun | none => true | some k => k.segs.all (Seg.lowB (Ha ++ [some b0]).length)) = true ∧
      roH [Ha.length] (Ha ++ [some b0]) = Hr ∧ roH [Ha.length] (Ha ++ [some b1]) = H1r ∧ Ha ++ [some b1] = H1 ∧ MOk E.P ⟨none, op, ty, pos, af, none⟩ ((d1, v1) :: Ta) Hr (.s .junk) H1r ∧
      TG E.P ops lb ((d1, v1) :: Ta) (Ha ++ [some ⟨false, []⟩]) fun Tb Hb => SK E.P ops l2 Tb (H1 ++ Hb.drop (Ha.length + 1)) (Q .normal)) : Wp E (.region id ops true) T H Q := by
  intro a w hr
  obtain ⟨Ta, Ha, hA, v1, b0, b1, Hr, H1r, H1, hv1, hown, hlow, hlH, e1, e2, e3, hM, Tb, Hb, hB, T', H', hS, hK⟩ := h
  subst e1; subst e2; subst e3
  have h1 : q1 + 1 < m := Nat.blt_eq.mp hkm
  have h2 : m ≤ ops.toList.length := by rw [Array.length_toList]; exact Nat.le_of_ble_eq_true hms
  have cut : ∀ (k : Nat) (o : Oper), ops[k]? = some o → ops.toList.drop k = o :: ops.toList.drop (k + 1) := fun k o e => by
    have hk : k < ops.toList.length := by rw [Array.length_toList]; exact (Array.getElem?_eq_some_iff.1 e).1
    rw [List.drop_eq_getElem_cons hk]
    congr 1
    have : ops.toList[k]? = some o := by rw [Array.getElem?_toList]; exact e
    exact (List.getElem?_eq_some_iff.1 this).2
  have hd1 := cut _ _ ho1
  have hd2 := cut _ _ ho
  have hsp : ops.toList.drop (q1 + 1 + 1) = lb ++ l2 := by
    rw [← hlb, ← hl2]
    have := (List.take_append_drop (m - q1 - 2) (ops.toList.drop (q1 + 2))).symm
    rw [List.drop_drop, show q1 + 2 + (m - q1 - 2) = m by omega] at this
    exact this
  refine region_anyS (k0 := q1 + 1) (q1 := q1) hmix hok hany (la := la) (lb := lb) (l2 := l2) (by rw [← hsp, ← hd2, ← hd1, ← hla, List.take_append_drop]) (by rw [← hla, List.length_take]; omega) rfl (by rw [← hlb, List.length_take, List.length_drop]; omega) _ hA (.free rfl) hv1 rfl hdep (own_new hown) (.free rfl) (fun x hx => ?_) (v := .s .junk) rfl hlH (by simpa [put] using hM) (by simpa [put] using hB) hS hr fun _ _ hr' => ⟨T', H', hK, hr'⟩
  have := List.all_eq_true.1 hlow x (by simpa using hx)
  simpa [put] using this
end Go.Ab
