/- A region that draws its order, one of whose operations marks bytes that another one of it made. No program. -/
import Derived.Test.YtffflnpidipheaaAb24
import Derived.Test.YtffflnpidipheaaAb16
namespace Go.Ab
theorem HRep.soft {W : Nat → Prop} {ρ : Rho} {H H' : Heap} {w : World} (h : HRep W ρ H w) (hs : ∀ (id : Nat) (k : Blk), H'[id]? = some (some k) → ∃ k', H[id]? = some (some k') ∧ k'.segs = k.segs ∧ (k.rw = true → k'.rw = true)) : HRep W ρ H' w := by
  refine ⟨h.lt, fun id b o k e1 e2 => ?_, fun id id' b o o' k k' hne e1 e2 e3 e4 => ?_⟩
  · obtain ⟨k', g1, g2, g3⟩ := hs id k e2
    obtain ⟨⟨cells, t, fr, q1, q2, q3⟩, q4⟩ := h.rep id b o k' e1 g1
    exact ⟨⟨cells, t, fr, q1, fun e => q2 (g3 e), by rw [← g2]; exact q3⟩, fun e => q4 (g3 e)⟩
  · obtain ⟨q, g1, _, g3⟩ := hs id k e3
    obtain ⟨q', g1', _, g3'⟩ := hs id' k' e4
    have := h.apart id id' b o o' q q' hne e1 e2 g1 g1'
    constructor
    · cases hb : k.rw with
      | false => rfl
      | true => rw [g3 hb] at this; exact absurd this.1 (by simp)
    · cases hb : k'.rw with
      | false => rfl
      | true => rw [g3' hb] at this; exact absurd this.2 (by simp)
def StepC (P : Program) (ops : Array Oper) (V : Nat → AV) (N Nf : Nat → List Blk) (T0 : Tm) (H0 : Heap) (k : Nat) : Prop :=
  ∃ o, ops[k]? = some o ∧ ((Guard ops (Tk ops V T0 k) o true ∧ HOk P o (Tk ops V T0 k) (Hk Nf H0 k) (V k) (N k)) ∨ (Guard ops (Tk ops V T0 k) o false ∧ V k = .s .junk ∧ N k = []))
structure InvC (E : Env) (ops : Array Oper) (m k0 : Nat) (V : Nat → AV) (N Nf : Nat → List Blk) (T0 : Tm) (H0 : Heap) (listed : Array Bool) (a : Act) (w : World) : Prop where
  size : listed.size = ops.size
  closed : Closed ops listed
  late : ∀ i, m ≤ i → i < ops.size → listed.getD i false = false
  ex : ∃ ρ, Rle E.ρ0 ρ ∧ HRep E.W ρ (Hk (bif listed.getD k0 false then Nf else N) H0 m) w ∧
    (∀ t, (∀ j, j < m → listed.getD j false = true → (ops[j]?).bind (·.dst) = some t → (V j).rep ρ (a.tmps.getD t undef)) ∧ ((∀ j, j < m → (ops[j]?).bind (·.dst) ≠ some t) → (look T0 t).rep ρ (a.tmps.getD t undef))) ∧
    (∀ id x, ρ id = some x → id < H0.length ∨ ∃ j, j < m ∧ listed.getD j false = true ∧ (Hk N H0 j).length ≤ id ∧ id < (Hk N H0 j).length + (N j).length) ∧
    a.tmps.size = E.n ∧ DefOk E.w0 a.defers w ∧ Fr E.W E.w0 w

theorem head_anyC {E : Env} {ops : Array Oper} {Q : Exit → Act → World → Prop} {m k0 j0 : Nat} (hok : regionOk E.n ops = true) (hany : anyOk ops m = true) (hm : m ≤ ops.size) {V : Nat → AV} {N Nf : Nat → List Blk} {T0 : Tm} {H0 : Heap} (hk0 : k0 < m) (hN : ∀ j, j ≠ j0 → Nf j = N j) (hlenN : ∀ j, (Nf j).length = (N j).length) (hsoft : ∀ (id : Nat) (k : Blk), (Hk Nf H0 m)[id]? = some (some k) → ∃ k', (Hk N H0 m)[id]? = some (some k') ∧ k'.segs = k.segs ∧ (k.rw = true → k'.rw = true)) (hedge : ∀ listed, Closed ops listed → listed.getD k0 false = true → listed.getD j0 false = true)
    (hstep : ∀ k, k < m → k ≠ k0 → StepC E.P ops V N Nf T0 H0 k) (hmut : ∃ o, ops[k0]? = some o ∧ N k0 = [] ∧ Guard ops (Tk ops V T0 k0) o true ∧ ∀ ρ a w, HRep E.W ρ (Hk N H0 m) w → (∀ b, w.heap.size ≤ b → E.W b) → Ops o (Tk ops V T0 k0) ρ a → Gives E.P o a w fun v' w' => HRep E.W ρ (Hk Nf H0 m) w' ∧ Fr E.W w w' ∧ (V k0).rep ρ v') {l : List Oper} (hl : ∀ j, l[j]? = ops[m + j]?) (hlen : m + l.length = ops.size) {T' : Tm} {H' : Heap} (htail : Steps E.P ops l (Tk ops V T0 m) (Hk Nf H0 m) T' H') (hQ : ∀ a' w', Rep E T' H' a' w' → Q .normal a' w') :
    ∀ (fuel : Nat) (us : List Nat) (listed : Array Bool) (a : Act) (w : World), (∀ j, j < m → listed.getD j false = false → j ∈ us) → us.length + l.length ≤ fuel → InvC E ops m k0 V N Nf T0 H0 listed a w → wpAny E.P .any ops Q fuel listed a w := by
  have hlm : ∀ n, (Hk Nf H0 n).length = (Hk N H0 n).length := by
    intro n
    induction n with
    | zero => rfl
    | succ n ih => simp only [Hk, List.length_append, List.length_map, ih, hlenN]
  have finish : ∀ (fuel : Nat) (listed : Array Bool) (a : Act) (w : World), (∀ j, j < m → listed.getD j false = true) → l.length ≤ fuel → InvC E ops m k0 V N Nf T0 H0 listed a w → wpAny E.P .any ops Q fuel listed a w := by
    intro fuel listed a w hall hf hi
    refine tail_any hok hany htail m (Nat.le_refl _) hlen hl fuel listed hf hi.size (fun i his => ?_) a w ?_ hQ
    · rcases Nat.lt_or_ge i m with h | h
      · rw [hall i h]; simp [h]
      · rw [hi.late i h his]; simp; omega
    · obtain ⟨ρ, k1, k2, k3, k4, k5, k6, k7⟩ := hi.ex
      rw [hall k0 hk0] at k2
      refine ⟨ρ, k1, fun id hid => ?_, k2, fun t => ?_, k5, k6, k7⟩
      · cases hr : ρ id with
        | none => rfl
        | some x =>
          rcases k4 id x hr with h | ⟨j, h1, _, _, h2⟩
          · obtain ⟨r, hr⟩ := Hk_le (N := Nf) (H0 := H0) (Nat.zero_le m)
            simp only [Hk] at hr
            rw [hr] at hid
            simp at hid; omega
          · have := Hk_len (N := N) (H0 := H0) h1
            have := hlm m
            omega
      · rcases look_Tk (ops := ops) (V := V) (T0 := T0) t m with ⟨j, h1, h2, h3⟩ | ⟨h1, h2⟩
        · rw [h3]; exact (k3 t).1 j h1 (hall j h1) h2
        · rw [h2]; exact (k3 t).2 h1
  intro fuel
  induction fuel with
  | zero =>
    intro us listed a w hus hf hi
    refine finish 0 listed a w (fun j hj => ?_) (by omega) hi
    cases hb : listed.getD j false with
    | true => rfl
    | false => have := hus j hj hb; have := List.length_pos_of_mem this; omega
  | succ fuel ih =>
    intro us listed a w hus hf hi
    by_cases hall : ∀ j, j < m → listed.getD j false = true
    · exact finish _ listed a w hall (by omega) hi
    have hex : ∃ j, j < m ∧ listed.getD j false = false := by
      apply Classical.byContradiction
      intro hn
      refine hall fun j hj => ?_
      cases hb : listed.getD j false with
      | true => rfl
      | false => exact absurd ⟨j, hj, hb⟩ hn
    -- the least unlisted one is ready
    have hready : ∃ j, j ∈ Region.ready .any ops listed := by
      have hleast : ∀ n, (∃ j, j ≤ n ∧ j < m ∧ listed.getD j false = false) → ∃ j, j < m ∧ listed.getD j false = false ∧ ∀ i, i < j → listed.getD i false = true := by
        intro n
        induction n with
        | zero =>
          rintro ⟨j, h1, h2, h3⟩
          have : j = 0 := by omega
          subst this
          exact ⟨0, h2, h3, fun i hi => absurd hi (by omega)⟩
        | succ n ihn =>
          rintro ⟨j, h1, h2, h3⟩
          by_cases hh : ∃ j, j ≤ n ∧ j < m ∧ listed.getD j false = false
          · exact ihn hh
          · refine ⟨j, h2, h3, fun i hi => ?_⟩
            cases hb : listed.getD i false with
            | true => rfl
            | false => exact absurd ⟨i, by omega, by omega, hb⟩ hh
      obtain ⟨j0, h1, h2⟩ := hex
      obtain ⟨j, hj, hjf, hji⟩ := hleast j0 ⟨j0, Nat.le_refl _, h1, h2⟩
      have hjs : j < ops.size := by omega
      have ho : ops[j]? = some ops[j] := by simp [hjs]
      exact ⟨j, mem_ready.2 ⟨by simp [hi.size, hjs] at hjf ⊢; exact hjf, _, ho, fun e he hb => hji _ (anyOk_edge hany ho e he hb)⟩⟩
    refine ⟨fun hn => (by obtain ⟨j, hj⟩ := hready; rw [hn] at hj; cases hj), fun i hir => ?_⟩
    obtain ⟨hun, o, ho, hedges⟩ := mem_ready.1 hir
    have his : i < ops.size := (Array.getElem?_eq_some_iff.1 ho).1
    have hif : listed.getD i false = false := by simp [hi.size, his] at hun ⊢; exact hun
    have him : i < m := by
      rcases Nat.lt_or_ge i m with h | h
      · exact h
      · obtain ⟨j, h1, h2⟩ := hex
        have := reach_listed hany hi.closed i o j ho (anyOk_tail hany ho h j (by omega)) hedges
        rw [h2] at this; cases this
    obtain ⟨ρ, k1, k2, k3, k4, k5, k6, k7⟩ := hi.ex
    -- what it looks at is told
    have hlook : ∀ t, t ∈ o.looksAt ops → (look (Tk ops V T0 i) t).rep ρ (a.tmps.getD t undef) := by
      intro t ht
      rcases look_Tk (ops := ops) (V := V) (T0 := T0) t i with ⟨j, h1, h2, h3⟩ | ⟨h1, h2⟩
      · rw [h3]
        have hjs : j < ops.size := by omega
        have hp : ops[j]? = some ops[j] := by simp [hjs]
        have hd : ops[j].dst = some t := by rw [hp] at h2; simpa using h2
        have := (anyOk_head hany ho him (show j < m by omega) hp hd).2 ht
        exact (k3 t).1 j (by omega) (reach_listed hany hi.closed i o j ho this.2 hedges) h2
      · rw [h2]
        refine (k3 t).2 fun j hj hd => ?_
        by_cases hji : j < i
        · exact h1 j hji hd
        · have hjs : j < ops.size := by omega
          have hp : ops[j]? = some ops[j] := by simp [hjs]
          have hd' : ops[j].dst = some t := by rw [hp] at hd; simpa using hd
          have := (anyOk_head hany ho him hj hp hd').2 ht
          omega
    have hopk := regionOk_op hok ho
    have hopsrep : Ops o (Tk ops V T0 i) ρ a := by
      intro x hx
      simp only [opOk, Bool.and_eq_true, Array.all_eq_true_iff_forall_mem] at hopk
      cases x with
      | tmp t => exact hlook t (looksAt_op hx)
      | global g => trivial
      | func f => exact ⟨rfl, rfl⟩
      | const c =>
        have h := hopk.1.1 _ hx
        simp only [operandOk] at h
        unfold constOk at h
        split at h <;> first
          | (cases h; done)
          | exact rfl
          | exact ⟨rfl, rfl⟩
    have hdst : ∀ d, o.dst = some d → d < a.tmps.size := fun d hd => by rw [k5]; exact opOk_dst hopk d hd
    have hwant : ∀ c, Guard ops (Tk ops V T0 i) o c → Region.wanted o (yielded ops a.tmps) = c := fun c hg =>
      hg.wanted (ρ := ρ) fun j b t e1 e2 => ⟨hlook t (looksAt_guard e1 e2), by rw [k5]; exact regionOk_guard hok j t e2⟩
    have hW : ∀ b, w.heap.size ≤ b → E.W b := fun b hb => E.hW b (Nat.le_trans k7.size hb)
    have hnone : ∀ i', i' < (N i).length → ρ ((Hk N H0 i).length + i') = none := by
      intro i' hi'
      cases hr : ρ ((Hk N H0 i).length + i') with
      | none => rfl
      | some x =>
        rcases k4 _ x hr with h | ⟨j, h1, h2, h3, h4⟩
        · obtain ⟨r, hr⟩ := Hk_le (N := N) (H0 := H0) (Nat.zero_le i)
          simp only [Hk] at hr
          rw [hr] at h; simp at h; omega
        · rcases Nat.lt_trichotomy i j with h5 | h5 | h5
          · have := Hk_len (N := N) (H0 := H0) h5; omega
          · subst h5; rw [hif] at h2; cases h2
          · have := Hk_len (N := N) (H0 := H0) h5; omega
    -- the step
    have hinv : ∀ (v' : Value) (w' : World) (ρ' : Rho), Rle ρ ρ' → HRep E.W ρ' (Hk (bif (listed.setIfInBounds i true).getD k0 false then Nf else N) H0 m) w' → (∀ id x, ρ' id = some x → ρ id = some x ∨ ((Hk N H0 i).length ≤ id ∧ id < (Hk N H0 i).length + (N i).length)) → Fr E.W w w' → (V i).rep ρ' v' → InvC E ops m k0 V N Nf T0 H0 (listed.setIfInBounds i true) (a.put o.dst v') w' := by
      intro v' w' ρ' hrle hheap hold hfr hv
      have hset : ∀ j, j ≠ i → (listed.setIfInBounds i true).getD j false = listed.getD j false := fun j hj => getD_set_ne false (Ne.symm hj)
      have hseti : (listed.setIfInBounds i true).getD i false = true := by simp [hi.size, his]
      refine ⟨by simpa using hi.size, fun j p hp hjl e he hb => ?_, fun j h1 h2 => by rw [hset j (by omega)]; exact hi.late j h1 h2, ρ', k1.trans hrle, hheap, fun t => ?_, fun id x hx => ?_, (put_size _ _ _).trans k5, (by rw [put_defers]; exact k6.fr hfr), k7.trans hfr⟩
      · have keep : ∀ x, listed.getD x false = true → (listed.setIfInBounds i true).getD x false = true := fun x hx => getD_set_true hx
        by_cases hji : j = i
        · subst hji
          rw [ho] at hp
          cases hp
          exact keep _ (hedges e he hb)
        · rw [hset j hji] at hjl
          exact keep _ (hi.closed j p hp hjl e he hb)
      · have hslot : (a.put o.dst v').tmps.getD t undef = if o.dst = some t then v' else a.tmps.getD t undef := by
          cases hd : o.dst with
          | none => simp [Act.put]
          | some d =>
            simp only [Act.put]
            rw [getD_set _ _ _ _ (hdst d hd)]
            simp
        rw [hslot]
        refine ⟨fun j hj hlj hdj => ?_, fun hno => ?_⟩
        · by_cases hji : j = i
          · subst hji
            rw [ho] at hdj
            have hdj : o.dst = some t := by simpa using hdj
            rw [if_pos hdj]; exact hv
          · have hjs : j < ops.size := by omega
            have hp : ops[j]? = some ops[j] := by simp [hjs]
            have hd' : ops[j].dst = some t := by rw [hp] at hdj; simpa using hdj
            have h1 := (anyOk_head hany ho him hj hp hd').1
            rw [if_neg (h1.resolve_left hji)]
            rw [hset j hji] at hlj
            exact AV.rep_le hrle ((k3 t).1 j hj hlj hdj)
        · have : o.dst ≠ some t := by have := hno i him; rw [ho] at this; simpa using this
          rw [if_neg this]
          exact AV.rep_le hrle ((k3 t).2 hno)
      · rcases hold id x hx with h | ⟨h1, h2⟩
        · rcases k4 id _ h with h | ⟨j, h1, h2, h3⟩
          · exact .inl h
          · refine .inr ⟨j, h1, ?_, h3⟩
            by_cases hji : j = i
            · subst hji; exact hseti
            · rw [hset j hji]; exact h2
        · exact .inr ⟨i, him, hseti, h1, h2⟩
    have hus' : ∀ j, j < m → (listed.setIfInBounds i true).getD j false = false → j ∈ us.erase i := by
      intro j hj hjf
      by_cases hji : j = i
      · subst hji; simp [hi.size, his] at hjf
      · rw [getD_set_ne false (Ne.symm hji)] at hjf
        exact (List.mem_erase_of_ne hji).2 (hus j hj hjf)
    have hlen' : (us.erase i).length + l.length ≤ fuel := by
      have hmem := hus i him hif
      rw [List.length_erase_of_mem hmem]
      have := List.length_pos_of_mem hmem
      omega
    have hlistk : i = j0 → listed.getD k0 false = false := fun e => by
      cases hb : listed.getD k0 false with
      | false => rfl
      | true => have := hedge listed hi.closed hb; subst e; rw [hif] at this; cases this
    have hsubv : HRep E.W ρ (Hk Nf H0 i) w := by
      obtain ⟨r, hr⟩ := Hk_le (N := Nf) (H0 := H0) (Nat.le_of_lt him)
      refine HRep.sub_pre (r := r) ?_
      rw [← hr]
      cases hb : listed.getD k0 false with
      | true => rw [hb] at k2; exact k2
      | false => rw [hb] at k2; exact k2.soft hsoft
    unfold wpOp
    simp only [ho]
    by_cases hik : i = k0
    · subst hik
      obtain ⟨o', ho', hNi, hg, hmut⟩ := hmut
      rw [ho] at ho'
      cases ho'
      rw [hwant _ hg]
      simp only [if_true]
      rw [hif] at k2
      simp only [cond_false] at k2
      refine .inl (hmut ρ a w k2 hW hopsrep _ Q ?_)
      rintro v' w' ⟨hheap, hfr, hv⟩
      refine ih (us.erase i) _ _ _ hus' hlen' (hinv v' w' ρ (.refl _) ?_ (fun id x hx => .inl hx) hfr hv)
      simp only [show (listed.setIfInBounds i true).getD i false = true by simp [hi.size, his], cond_true]
      exact hheap
    · obtain ⟨o', ho', hso⟩ := hstep i him hik
      rw [ho] at ho'
      cases ho'
      have hsk : (listed.setIfInBounds i true).getD k0 false = listed.getD k0 false := getD_set_ne false hik
      have hlv := hlm i
      rcases hso with ⟨hg, hh⟩ | ⟨hg, hv, hn⟩
      · rw [hwant _ hg]
        simp only [if_true]
        refine .inl (hh E.W ρ a w hsubv (fun i' hi' => by rw [hlv]; exact hnone i' hi') hopsrep _ Q ?_)
        rintro v' w' ⟨ρ', hnew, hv⟩
        rw [hlv] at hnew
        refine ih (us.erase i) _ _ _ hus' hlen' (hinv v' w' ρ' hnew.le ?_ (fun id x hx => ?_) (hnew.ext.fr _) hv)
        · rw [hsk]
          refine k2.new' hW hnone (fun i' hi' => ?_) hnew
          have hcase : ∀ M : Nat → List Blk, (∀ n, (Hk M H0 n).length = (Hk N H0 n).length) → M i = N i → (Hk M H0 m)[(Hk N H0 i).length + i']? = some (N i)[i']? := by
            intro M hM hMi
            obtain ⟨r, hr⟩ := Hk_le (N := M) (H0 := H0) (show i + 1 ≤ m by omega)
            rw [hr]
            simp only [Hk, hMi]
            rw [List.append_assoc, List.getElem?_append_right (by rw [hM]; omega), hM, Nat.add_sub_cancel_left, List.getElem?_append_left (by simpa using hi')]
            simp [hi']
          by_cases hij : i = j0
          · rw [hlistk hij]
            exact hcase N (fun _ => rfl) rfl
          · cases listed.getD k0 false
            · exact hcase N (fun _ => rfl) rfl
            · exact hcase Nf hlm (hN i hij)
        · obtain ⟨b, off⟩ := x
          rcases hnew.old id b off hx with h | ⟨h1, h2, _, _⟩
          · exact .inl h
          · exact .inr ⟨h1, h2⟩
      · rw [hwant _ hg]
        simp only [Bool.false_eq_true, if_false]
        refine ih (us.erase i) _ _ _ hus' hlen' (hinv undef w ρ (.refl _) (by rw [hsk]; exact k2) (fun id x hx => .inl hx) (.refl _ _) ?_)
        rw [hv]; trivial
theorem Hk_two {N Nf : Nat → List Blk} {H0 : Heap} {p : Nat} (h : ∀ j, p ≤ j → Nf j = N j) : ∀ m, p ≤ m → ∃ r, Hk Nf H0 m = Hk Nf H0 p ++ r ∧ Hk N H0 m = Hk N H0 p ++ r := by
  intro m
  induction m with
  | zero => intro hp; have : p = 0 := by omega
            subst this; exact ⟨[], by simp, by simp⟩
  | succ m ih =>
    intro hp
    by_cases e : p = m + 1
    · subst e; exact ⟨[], by simp, by simp⟩
    · obtain ⟨r, r1, r2⟩ := ih (by omega)
      exact ⟨r ++ (N m).map some, by simp only [Hk, r1, h m (by omega), List.append_assoc], by simp only [Hk, r2, List.append_assoc]⟩
theorem Rep.invC {E : Env} {ops : Array Oper} {m k0 : Nat} {V : Nat → AV} {N Nf : Nat → List Blk} {T0 : Tm} {H0 : Heap} {a : Act} {w : World} (h : Rep E T0 H0 a w) : InvC E ops m k0 V N Nf T0 H0 (Array.replicate ops.size false) a w := by
  obtain ⟨s1, s2, s3, ρ, k1, k2, k3⟩ := (h.inv : Inv E ops m V N T0 H0 (Array.replicate ops.size false) a w)
  exact ⟨s1, s2, s3, ρ, k1, by rw [getD_rep_false]; exact k2, k3⟩
theorem region_anyC {E : Env} {id : Nat} {ops : Array Oper} {Q : Exit → Act → World → Prop} {m j0 : Nat} (hmix : E.P.follows .mixedOrders = true) (hok : regionOk E.n ops = true) (hany : anyOk ops m = true) {la lb l2 : List Oper} {o8 o : Oper} (hl : ops.toList = la ++ o8 :: o :: (lb ++ l2)) (hj : la.length = j0) (hm : j0 + 2 + lb.length = m)
    {T Ta T1 T' : Tm} {H Ha Hb H' : Heap} {v8 v : AV} {segs : List Seg} (hA : HSteps E.P ops la T H Ta Ha) (hg8 : Guard ops Ta o8 true) (h8 : HOk E.P o8 Ta Ha v8 [⟨true, segs⟩]) (hg : Guard ops (put Ta o8.dst v8) o true)
    (hconv : ∀ ρ a w (Hx : Heap), HRep E.W ρ Hx w → Hx[Ha.length]? = some (some ⟨true, segs⟩) → Ops o (put Ta o8.dst v8) ρ a → Gives E.P o a w fun v' w' => HRep E.W ρ (Hx.set Ha.length (some ⟨false, segs⟩)) w' ∧ Fr E.W w w' ∧ v.rep ρ v')
    (hedge : ∃ e ∈ o.after, Region.binds .any e = true ∧ e.on = j0)
    (hB : HSteps E.P ops lb (put (put Ta o8.dst v8) o.dst v) (Ha ++ [some ⟨false, segs⟩]) T1 Hb) (h2 : Steps E.P ops l2 T1 Hb T' H') {a : Act} {w : World} (hr : Rep E T H a w) (hQ : ∀ a' w', Rep E T' H' a' w' → Q .normal a' w') : (Code.region id ops true).wp E.P Q a w := by
  have hsz : ops.size = m + l2.length := by rw [← Array.length_toList, hl]; simp; omega
  have hget : ∀ j, ops[j]? = (la ++ o8 :: o :: (lb ++ l2))[j]? := fun j => by rw [← Array.getElem?_toList, hl]
  have ho8 : ops[j0]? = some o8 := by rw [hget, ← hj]; simp
  have ho : ops[j0 + 1]? = some o := by rw [hget, List.getElem?_append_right (by omega), show j0 + 1 - la.length = 1 by omega]; rfl
  have gA : ∀ j, j < la.length → la[j]? = ops[0 + j]? := fun j hj => by rw [Nat.zero_add, hget, List.getElem?_append_left hj]
  have gB : ∀ j, j < lb.length → lb[j]? = ops[j0 + 2 + j]? := fun j hjl => by
    rw [hget, List.getElem?_append_right (by omega), show j0 + 2 + j - la.length = j + 1 + 1 by omega, List.getElem?_cons_succ, List.getElem?_cons_succ, List.getElem?_append_left hjl]
  obtain ⟨V1, N1, _, a2, a3, a4⟩ := trace' hA T H 0 (fun _ => .s .junk) (fun _ => []) gA rfl rfl
  rw [Nat.zero_add, hj] at a3 a4
  let V2 : Nat → AV := fun j => if j = j0 then v8 else if j = j0 + 1 then v else V1 j
  let N2 : Nat → List Blk := fun j => if j = j0 then [⟨false, segs⟩] else if j = j0 + 1 then [] else N1 j
  have eT : Tk ops V2 T j0 = Ta := by rw [← a3]; exact Tk_congr fun j hj' => by simp [V2, show j ≠ j0 by omega, show j ≠ j0 + 1 by omega]
  have eH : Hk N2 H j0 = Ha := by rw [← a4]; exact Hk_congr fun j hj' => by simp [N2, show j ≠ j0 by omega, show j ≠ j0 + 1 by omega]
  have eT1 : Tk ops V2 T (j0 + 1) = put Ta o8.dst v8 := by simp only [Tk, eT, ho8, Option.bind_some]; simp [V2]
  have eH1 : Hk N2 H (j0 + 1) = Ha ++ [some ⟨false, segs⟩] := by simp only [Hk, eH]; simp [N2]
  have eH2 : Hk N2 H (j0 + 2) = Ha ++ [some ⟨false, segs⟩] := by
    show Hk N2 H (j0 + 1) ++ (N2 (j0 + 1)).map some = _
    rw [eH1]; simp [N2]
  have eT2 : Tk ops V2 T (j0 + 2) = put (put Ta o8.dst v8) o.dst v := by
    show put (Tk ops V2 T (j0 + 1)) ((ops[j0 + 1]?).bind (·.dst)) (V2 (j0 + 1)) = _
    rw [eT1, ho]; simp [V2]
  obtain ⟨V, Nf, b1, b2, b3, b4⟩ := trace' hB T H (j0 + 2) V2 N2 gB eT2.symm eH2.symm
  rw [hm] at b3 b4
  let N : Nat → List Blk := fun j => if j = j0 then [⟨true, segs⟩] else Nf j
  have hNf0 : Nf j0 = [⟨false, segs⟩] := by rw [(b1 j0 (by omega)).2]; simp [N2]
  have hNf1 : Nf (j0 + 1) = [] := by rw [(b1 (j0 + 1) (by omega)).2]; simp [N2]
  have hN : ∀ j, j ≠ j0 → Nf j = N j := fun j hj' => by simp [N, hj']
  have hN0 : N j0 = [⟨true, segs⟩] := by simp [N]
  have cT : ∀ k, k ≤ j0 → Tk ops V T k = Tk ops V1 T k := fun k hk => Tk_congr fun j hj' => by rw [(b1 j (by omega)).1]; simp [V2, show j ≠ j0 by omega, show j ≠ j0 + 1 by omega]
  have cH : ∀ k, k ≤ j0 → Hk Nf H k = Hk N1 H k := fun k hk => Hk_congr fun j hj' => by rw [(b1 j (by omega)).2]; simp [N2, show j ≠ j0 by omega, show j ≠ j0 + 1 by omega]
  have cT1 : Tk ops V T (j0 + 1) = put Ta o8.dst v8 := by rw [← eT1]; exact Tk_congr fun j hj' => (b1 j (by omega)).1
  have cHf1 : Hk Nf H (j0 + 1) = Ha ++ [some ⟨false, segs⟩] := by rw [← eH1]; exact Hk_congr fun j hj' => (b1 j (by omega)).2
  have cHn1 : Hk N H (j0 + 1) = Ha ++ [some ⟨true, segs⟩] := by
    show Hk N H j0 ++ (N j0).map some = _
    rw [hN0, show Hk N H j0 = Ha by rw [← a4, ← cH j0 (Nat.le_refl _)]; exact Hk_congr fun j hj' => (hN j (by omega)).symm]
    rfl
  obtain ⟨R, R1, R2⟩ := Hk_two (N := N) (Nf := Nf) (H0 := H) (p := j0 + 1) (fun j hj' => hN j (by omega)) m (by omega)
  rw [cHf1, List.append_assoc] at R1
  rw [cHn1, List.append_assoc] at R2
  have hset : (Hk N H m).set Ha.length (some ⟨false, segs⟩) = Hk Nf H m := by
    rw [R1, R2, List.set_append_right _ _ (Nat.le_refl _), Nat.sub_self]; rfl
  have hat : (Hk N H m)[Ha.length]? = some (some ⟨true, segs⟩) := by rw [R2]; simp
  have v0 : V j0 = v8 := by rw [(b1 j0 (by omega)).1]; simp [V2]
  have v1 : V (j0 + 1) = v := by rw [(b1 (j0 + 1) (by omega)).1]; simp [V2]
  refine wp_region_any hmix ?_
  refine head_anyC (k0 := j0 + 1) (j0 := j0) (V := V) (N := N) (Nf := Nf) (T0 := T) (H0 := H) hok hany (by omega) (by omega) hN (fun j => ?_) (fun i k hk => ?_) (fun listed hc hl' => ?_) (fun k hk hne => ?_) ⟨o, ho, (by rw [← hN _ (by omega)]; exact hNf1), by rw [cT1]; exact hg, fun ρ a w g1 g2 g3 => ?_⟩ (l := l2) (fun j => ?_) (by omega) (by rw [b3, b4]; exact h2) hQ ops.size (List.range m) _ a _ (fun j hj' _ => List.mem_range.2 hj') (by simp; omega) hr.drew.invC
  · by_cases e : j = j0
    · subst e; rw [hNf0, hN0]; rfl
    · rw [hN j e]
  · by_cases e : i = Ha.length
    · subst e
      rw [← hset, List.getElem?_set_self (by rw [R2]; simp)] at hk
      cases hk
      exact ⟨_, hat, rfl, fun h => by cases h⟩
    · rw [← hset, List.getElem?_set_ne (Ne.symm e)] at hk
      exact ⟨k, hk, rfl, fun h => h⟩
  · obtain ⟨e, he, hb, rfl⟩ := hedge
    exact hc _ o ho hl' e he hb
  · rcases Nat.lt_trichotomy k j0 with h | h | h
    · obtain ⟨p, hp, hh⟩ := a2 k (Nat.zero_le _) (by omega)
      refine ⟨p, hp, ?_⟩
      have eV : V k = V1 k := by rw [(b1 k (by omega)).1]; simp [V2, show k ≠ j0 by omega, show k ≠ j0 + 1 by omega]
      have eN : N k = N1 k := by rw [← hN k (by omega), (b1 k (by omega)).2]; simp [N2, show k ≠ j0 by omega, show k ≠ j0 + 1 by omega]
      rw [cT k (by omega), cH k (by omega), eV, eN]; exact hh
    · subst h
      exact ⟨o8, ho8, .inl ⟨by rw [cT k (Nat.le_refl _), a3]; exact hg8, by rw [cT k (Nat.le_refl _), a3, cH k (Nat.le_refl _), a4, v0, hN0]; exact h8⟩⟩
    · obtain ⟨p, hp, hh⟩ := b2 k (by omega) (by omega)
      refine ⟨p, hp, ?_⟩
      rw [← hN k (by omega)]; exact hh
  · rw [cT1] at g3
    have := hconv ρ a w _ g1 hat g3
    rw [hset, ← v1] at this
    exact this
  · rw [hget, List.getElem?_append_right (by omega), show m + j - la.length = (lb.length + j) + 1 + 1 by omega, List.getElem?_cons_succ, List.getElem?_cons_succ, List.getElem?_append_right (by omega), Nat.add_sub_cancel_left]
theorem c_anyC {E : Env} {T : Tm} {H : Heap} {Q : Exit → Tm → Heap → Prop} {id : Nat} {ops : Array Oper} (m j0 : Nat) {la lb l2 : List Oper} {o8 : Oper} {d : Nat} {t e ty : TypeId} {x : Operand} {pos : String} {af : Array Edge} (hmix : E.P.follows .mixedOrders = true) (hok : regionOk E.n ops = true) (hany : anyOk ops m = true)
    (hla : ops.toList.take j0 = la) (ho8 : ops[j0]? = some o8) (ho : ops[j0 + 1]? = some ⟨some d, .convert t t x, ty, pos, af, none⟩) (hlb : (ops.toList.drop (j0 + 2)).take (m - j0 - 2) = lb) (hl2 : ops.toList.drop m = l2) (hjm : Nat.ble (j0 + 2) m = true) (hms : Nat.ble m ops.size = true) (hg8 : o8.guard = none)
    (hedge : (af.any fun e => Nat.beq e.on j0 && Region.binds .any e) = true) (hu : E.P.underlying t = some (.slice e)) (he : E.P.underlying e = some (.int .u8))
    (h : TG E.P ops la T H fun Ta Ha => ∃ (v8 : AV) (segs : List Seg) (len cap : Nat), HOk E.P o8 Ta Ha v8 [⟨true, segs⟩] ∧ ev (put Ta o8.dst v8) x = .s (.slice Ha.length 0 0 len cap) ∧
      TG E.P ops lb ((d, .s (.slice Ha.length 0 0 len cap)) :: put Ta o8.dst v8) (Ha ++ [some ⟨false, segs⟩]) fun Tb Hb => SK E.P ops l2 Tb Hb (Q .normal)) : Wp E (.region id ops true) T H Q := by
  intro a w hr
  obtain ⟨Ta, Ha, hA, v8, segs, len, cap, h8, hx, Tb, Hb, hB, T', H', hS, hK⟩ := h
  have h1 : j0 + 2 ≤ m := Nat.le_of_ble_eq_true hjm
  have h2 : m ≤ ops.toList.length := by rw [Array.length_toList]; exact Nat.le_of_ble_eq_true hms
  have hsp : ops.toList.drop (j0 + 2) = lb ++ l2 := by
    rw [← hlb, ← hl2]
    have := (List.take_append_drop (m - j0 - 2) (ops.toList.drop (j0 + 2))).symm
    rw [List.drop_drop, show j0 + 2 + (m - j0 - 2) = m by omega] at this
    exact this
  have hd : ops.toList.drop j0 = o8 :: ⟨some d, .convert t t x, ty, pos, af, none⟩ :: ops.toList.drop (j0 + 2) := by
    rw [List.drop_eq_getElem_cons (by omega), List.drop_eq_getElem_cons (i := j0 + 1) (by omega)]
    have e1 : ops.toList[j0]? = some o8 := by rw [Array.getElem?_toList]; exact ho8
    have e2 : ops.toList[j0 + 1]? = some ⟨some d, .convert t t x, ty, pos, af, none⟩ := by rw [Array.getElem?_toList]; exact ho
    rw [(List.getElem?_eq_some_iff.1 e1).2, (List.getElem?_eq_some_iff.1 e2).2]
  refine region_anyC (j0 := j0) hmix hok hany (la := la) (lb := lb) (l2 := l2) (by rw [← hsp, ← hd, ← hla, List.take_append_drop]) (by rw [← hla, List.length_take]; omega) (by rw [← hlb, List.length_take, List.length_drop]; omega) hA (.free hg8) h8 (.free rfl) (fun ρ a w Hx g1 g2 g3 => conv_gives hx g2 hu he g1 g3) ?_ (by simpa [put] using hB) hS hr fun _ _ hr' => ⟨T', H', hK, hr'⟩
  obtain ⟨i, hi, hp⟩ := Array.any_eq_true.1 hedge
  rw [Bool.and_eq_true] at hp
  exact ⟨af[i], Array.getElem_mem hi, hp.2, Nat.eq_of_beq_eq_true hp.1⟩
end Go.Ab
