/- A region that draws its order, one of whose operations writes memory that no other one looks at. No program. -/
import Derived.Test.YtffflnpidipheaaAb15
namespace Go.Ab
theorem Hk_app (N : Nat → List Blk) {k m : Nat} (h : k ≤ m) : ∃ r, ∀ X, Hk N X m = Hk N X k ++ r := by
  induction m with
  | zero => have : k = 0 := by omega
            subst this; exact ⟨[], fun X => by simp⟩
  | succ m ih =>
    by_cases hk : k = m + 1
    · subst hk; exact ⟨[], fun X => by simp⟩
    · obtain ⟨r, hr⟩ := ih (by omega)
      exact ⟨r ++ (N m).map some, fun X => by simp only [Hk, hr, List.append_assoc]⟩
theorem Hk_same {N : Nat → List Blk} {X Y : Heap} (h : X.length = Y.length) (m : Nat) : (Hk N X m).length = (Hk N Y m).length := by
  obtain ⟨R, hR⟩ := Hk_app N (Nat.zero_le m)
  simp only [Hk] at hR
  rw [hR, hR]; simp [h]
/-- What is read alone. -/
def roH (hs : List Nat) (H : Heap) : Heap := H.mapIdx fun i k => if i ∈ hs then k else k.map fun b => ⟨false, b.segs⟩
theorem roH_len (hs : List Nat) (H : Heap) : (roH hs H).length = H.length := by simp [roH]
theorem roH_in {hs : List Nat} {H : Heap} {id : Nat} (h : id ∈ hs) : (roH hs H)[id]? = H[id]? := by simp [roH, List.getElem?_mapIdx, h]
theorem roH_out {hs : List Nat} {H : Heap} {id : Nat} (h : id ∉ hs) : (roH hs H)[id]? = (H[id]?).map fun k => k.map fun b => ⟨false, b.segs⟩ := by simp [roH, List.getElem?_mapIdx, h]
/-- Those blocks alone are written, and hold no addresses; all others stay. -/
structure Own (hs : List Nat) (H0 H1 : Heap) : Prop where
  rw : ∀ id ∈ hs, ∃ k, H0[id]? = some (some k) ∧ k.rw = true
  new : ∀ id ∈ hs, ∃ k, H1[id]? = some (some k) ∧ k.rw = true ∧ k.segs.all (Seg.lowB 0) = true
  out : ∀ id, id ∉ hs → H1[id]? = H0[id]?
def StepM (P : Program) (ops : Array Oper) (V : Nat → AV) (N : Nat → List Blk) (T0 : Tm) (H0 H1 : Heap) (k : Nat) : Prop :=
  ∃ (o : Oper) (hs : List Nat), ops[k]? = some o ∧ N k = [] ∧ Guard ops (Tk ops V T0 k) o true ∧ (∀ x ∈ o.op.operands, (ev (Tk ops V T0 k) x).lowB H0.length = true) ∧ (V k).lowB 0 = true ∧ H0.all (fun | none => true | some k => k.segs.all (Seg.lowB H0.length)) = true ∧ (Own hs H0 H1 ∧ MOk P o (Tk ops V T0 k) (roH hs H0) (V k) (roH hs H1))
theorem mut_step {P : Program} {o : Oper} {T : Tm} {H0 H1 R : Heap} {v : AV} {W : Nat → Prop} {ρ : Rho} {a : Act} {w : World} (hs : List Nat) (hlen1 : H1.length = H0.length) (hm : Own hs H0 H1 ∧ MOk P o T (roH hs H0) v (roH hs H1))
    (k2 : HRep W ρ (H0 ++ R) w) (hW : ∀ b, w.heap.size ≤ b → W b) (ho : Ops o T ρ a) (hlow : ∀ x ∈ o.op.operands, (ev T x).lowB H0.length = true) (hvl : v.lowB 0 = true) (hlowH : H0.all (fun | none => true | some k => k.segs.all (Seg.lowB H0.length)) = true) (k4' : ∀ id x, ρ id = some x → id < (H0 ++ R).length) :
    Gives P o a w fun v' w' => HRep W ρ (H1 ++ R) w' ∧ Fr W w w' ∧ v.rep ρ v' := by
  obtain ⟨own, hm⟩ := hm
  have lt : ∀ id ∈ hs, id < H0.length := fun id h => by
    obtain ⟨k, h1, _⟩ := own.rw id h
    exact (List.getElem?_eq_some_iff.1 h1).1
  have get0 : ∀ (id : Nat) (k : Blk), id < H0.length → H0[id]? = some (some k) → (H0 ++ R)[id]? = some (some k) := fun id k h1 h2 => by rw [List.getElem?_append_left h1]; exact h2
  let W' : Nat → Prop := fun b => w.heap.size ≤ b ∨ ∃ id o, id ∈ hs ∧ ρ id = some (b, o)
  have hWW : ∀ b, W' b → W b := by
    rintro b (h | ⟨id, o, h1, h2⟩)
    · exact hW b h
    · obtain ⟨k, h3, h4⟩ := own.rw id h1
      exact (k2.rep id b o k h2 (get0 id k (lt id h1) h3)).2 h4
  have hcut : ∀ id x, cutR ρ H0.length id = some x → id < H0.length ∧ ρ id = some x := fun id x h => by
    unfold cutR at h
    by_cases hi : id < H0.length
    · rw [if_pos hi] at h; exact ⟨hi, h⟩
    · rw [if_neg hi] at h; cases h
  have orig : ∀ (id : Nat) (k : Blk), (roH hs H0)[id]? = some (some k) → ∃ k0, H0[id]? = some (some k0) ∧ k.segs = k0.segs ∧ (k.rw = true → id ∈ hs ∧ k0.rw = true) := by
    intro id k h
    by_cases hi : id ∈ hs
    · rw [roH_in hi] at h
      exact ⟨k, h, rfl, fun e => ⟨hi, e⟩⟩
    · rw [roH_out hi] at h
      cases h0 : H0[id]? with
      | none => rw [h0] at h; cases h
      | some q =>
        rw [h0] at h
        cases q with
        | none => simp at h
        | some k0 =>
          simp at h
          subst h
          exact ⟨k0, rfl, rfl, fun e => by cases e⟩
  have hH : HRep W' (cutR ρ H0.length) (roH hs H0) w := by
    refine ⟨fun id b o h => k2.lt id b o (hcut _ _ h).2, fun id b o k h hk => ?_, fun id id' b o o' k k' hne h h' hk hk' => ?_⟩
    · obtain ⟨hl, hρ⟩ := hcut _ _ h
      obtain ⟨k0, e0, e1, e2⟩ := orig id k hk
      have hr := k2.rep id b o k0 hρ (get0 id k0 hl e0)
      refine ⟨?_, fun e => .inr ⟨id, o, (e2 e).1, hρ⟩⟩
      obtain ⟨cells, t, fr, g1, g2, g3⟩ := hr.1
      have hlo := List.all_eq_true.1 hlowH _ (List.mem_of_getElem? e0)
      exact ⟨cells, t, fr, g1, fun e => g2 (e2 e).2, by rw [e1]; exact g3.cut hlo⟩
    · obtain ⟨hl, hρ⟩ := hcut _ _ h
      obtain ⟨hl', hρ'⟩ := hcut _ _ h'
      obtain ⟨k0, e0, e1, e2⟩ := orig id k hk
      obtain ⟨k0', e0', e1', e2'⟩ := orig id' k' hk'
      have := k2.apart id id' b o o' k0 k0' hne hρ hρ' (get0 id k0 hl e0) (get0 id' k0' hl' e0')
      constructor
      · cases hb : k.rw with
        | false => rfl
        | true => rw [(e2 hb).2] at this; exact absurd this.1 (by simp)
      · cases hb : k'.rw with
        | false => rfl
        | true => rw [(e2' hb).2] at this; exact absurd this.2 (by simp)
  intro next Q hq
  refine hm W' (cutR ρ H0.length) a w hH (fun id hid => by rw [roH_len] at hid; simp [cutR]; omega) (fun b hb => .inl hb) (fun x hx => AV.rep_cut (ho x hx) (hlow x hx)) next Q ?_
  rintro v' w' ⟨ρ', h1, h2, h3, h4, h5⟩
  -- what is not hidden lies as it lay
  have same : ∀ (id b o : Nat) (k : Blk), id ∉ hs → ρ id = some (b, o) → (H0 ++ R)[id]? = some (some k) → w'.heap[b]? = w.heap[b]? := by
    intro id b o k hid hρ hk
    refine h4.block b (k2.lt id b o hρ) ?_
    rintro (h | ⟨id', o', hi, hρ'⟩)
    · have := k2.lt id b o hρ; omega
    · obtain ⟨k', e1, e2⟩ := own.rw id' hi
      have := k2.apart id id' b o o' k k' (fun e => hid (e ▸ hi)) hρ hρ' hk (get0 id' k' (lt id' hi) e1)
      rw [e2] at this; exact absurd this.2 (by simp)
  -- each block of now, and of then
  have back : ∀ (id : Nat) (k : Blk), (H1 ++ R)[id]? = some (some k) → (id ∈ hs ∧ H1[id]? = some (some k)) ∨ (id ∉ hs ∧ (H0 ++ R)[id]? = some (some k)) := by
    intro id k hk
    by_cases hid : id < H0.length
    · rw [List.getElem?_append_left (by omega)] at hk
      by_cases hi : id ∈ hs
      · exact .inl ⟨hi, hk⟩
      · rw [own.out id hi] at hk
        exact .inr ⟨hi, get0 id k hid hk⟩
    · rw [List.getElem?_append_right (by omega), hlen1] at hk
      exact .inr ⟨fun hi => hid (lt id hi), by rw [List.getElem?_append_right (by omega)]; exact hk⟩
  refine hq v' w' ⟨⟨fun id b o h => Nat.lt_of_lt_of_le (k2.lt id b o h) h4.size, fun id b o k h hk => ?_, fun id id' b o o' k k' hne h h' hk hk' => ?_⟩, ⟨h4.os, h4.tape, h4.output, h4.size, fun b hb hn => h4.block b hb fun h => hn (hWW b h), h4.others⟩, AV.rep_le (ρ := cutR ρ' 0) (fun _ _ e => by simp [cutR] at e) (AV.rep_cut h5 hvl)⟩
  · rcases back id k hk with ⟨hi, hk1⟩ | ⟨hi, hk1⟩
    · obtain ⟨k', n1, n2, n3⟩ := own.new id hi
      rw [n1] at hk1
      cases hk1
      obtain ⟨k0, e1, e2⟩ := own.rw id hi
      have hc : cutR ρ H0.length id = some (b, o) := by unfold cutR; rw [if_pos (lt id hi)]; exact h
      have := (h3.rep id b o k (h2 id _ hc) (by rw [roH_in hi]; exact n1)).1
      obtain ⟨cells, t, fr, g1, g2, g3⟩ := this
      exact ⟨⟨cells, t, fr, g1, g2, (g3.cut n3).le (fun _ _ e => by simp [cutR] at e)⟩, fun _ => (k2.rep id b o k0 h (get0 id k0 (lt id hi) e1)).2 e2⟩
    · have := k2.rep id b o k h hk1
      exact ⟨this.1.world (same id b o k hi h hk1), this.2⟩
  · have hw : ∀ (id b o : Nat) (k : Blk), ρ id = some (b, o) → (H1 ++ R)[id]? = some (some k) → ∃ k0, (H0 ++ R)[id]? = some (some k0) ∧ (k.rw = true → k0.rw = true) := by
      intro id b o k h hk
      rcases back id k hk with ⟨hi, _⟩ | ⟨hi, hk1⟩
      · obtain ⟨k0, e1, e2⟩ := own.rw id hi
        exact ⟨k0, get0 id k0 (lt id hi) e1, fun _ => e2⟩
      · exact ⟨k, hk1, fun e => e⟩
    obtain ⟨k0, e0, f0⟩ := hw id b o k h hk
    obtain ⟨k0', e0', f0'⟩ := hw id' b o' k' h' hk'
    have := k2.apart id id' b o o' k0 k0' hne h h' e0 e0'
    constructor
    · cases hb : k.rw with
      | false => rfl
      | true => rw [f0 hb] at this; exact absurd this.1 (by simp)
    · cases hb : k'.rw with
      | false => rfl
      | true => rw [f0' hb] at this; exact absurd this.2 (by simp)
structure InvM (E : Env) (ops : Array Oper) (m k0 : Nat) (V : Nat → AV) (N : Nat → List Blk) (T0 : Tm) (H0 H1 : Heap) (listed : Array Bool) (a : Act) (w : World) : Prop where
  size : listed.size = ops.size
  closed : Closed ops listed
  late : ∀ i, m ≤ i → i < ops.size → listed.getD i false = false
  ex : ∃ ρ, Rle E.ρ0 ρ ∧ HRep E.W ρ (Hk N (bif listed.getD k0 false then H1 else H0) m) w ∧
    (∀ t, (∀ j, j < m → listed.getD j false = true → (ops[j]?).bind (·.dst) = some t → (V j).rep ρ (a.tmps.getD t undef)) ∧ ((∀ j, j < m → (ops[j]?).bind (·.dst) ≠ some t) → (look T0 t).rep ρ (a.tmps.getD t undef))) ∧
    (∀ id x, ρ id = some x → id < H0.length ∨ ∃ j, j < m ∧ listed.getD j false = true ∧ (Hk N H0 j).length ≤ id ∧ id < (Hk N H0 j).length + (N j).length) ∧
    a.tmps.size = E.n ∧ DefOk E.w0 a.defers w ∧ Fr E.W E.w0 w

theorem head_anyM {E : Env} {ops : Array Oper} {Q : Exit → Act → World → Prop} {m k0 : Nat} (hok : regionOk E.n ops = true) (hany : anyOk ops m = true) (hm : m ≤ ops.size) {V : Nat → AV} {N : Nat → List Blk} {T0 : Tm} {H0 H1 Hv : Heap} (hk0 : k0 < m) (hlen1 : H1.length = H0.length) (hlenv : Hv.length = H0.length) (hv0 : ∀ (id : Nat) (k : Blk), Hv[id]? = some (some k) → H0[id]? = some (some k)) (hv1 : ∀ (id : Nat) (k : Blk), Hv[id]? = some (some k) → H1[id]? = some (some k))
    (hstep : ∀ k, k < m → k ≠ k0 → StepOk E.P ops V N T0 Hv k) (hmut : StepM E.P ops V N T0 H0 H1 k0) {l : List Oper} (hl : ∀ j, l[j]? = ops[m + j]?) (hlen : m + l.length = ops.size) {T' : Tm} {H' : Heap} (htail : Steps E.P ops l (Tk ops V T0 m) (Hk N H1 m) T' H') (hQ : ∀ a' w', Rep E T' H' a' w' → Q .normal a' w') :
    ∀ (fuel : Nat) (us : List Nat) (listed : Array Bool) (a : Act) (w : World), (∀ j, j < m → listed.getD j false = false → j ∈ us) → us.length + l.length ≤ fuel → InvM E ops m k0 V N T0 H0 H1 listed a w → wpAny E.P .any ops Q fuel listed a w := by
  have finish : ∀ (fuel : Nat) (listed : Array Bool) (a : Act) (w : World), (∀ j, j < m → listed.getD j false = true) → l.length ≤ fuel → InvM E ops m k0 V N T0 H0 H1 listed a w → wpAny E.P .any ops Q fuel listed a w := by
    intro fuel listed a w hall hf hi
    refine tail_any hok hany htail m (Nat.le_refl _) hlen hl fuel listed hf hi.size (fun i his => ?_) a w ?_ hQ
    · rcases Nat.lt_or_ge i m with h | h
      · rw [hall i h]; simp [h]
      · rw [hi.late i h his]; simp; omega
    · obtain ⟨ρ, k1, k2, k3, k4, k5, k6, k7⟩ := hi.ex
      rw [hall k0 hk0] at k2
      refine ⟨ρ, k1, fun id hid => ?_, k2, fun t => ?_, k5, k6, k7⟩
      · cases hr : ρ id with
        | none => rfl
        | some x =>
          rcases k4 id x hr with h | ⟨j, h1, _, _, h2⟩
          · obtain ⟨r, hr⟩ := Hk_le (N := N) (H0 := H1) (Nat.zero_le m)
            simp only [Hk] at hr
            rw [hr] at hid
            simp at hid; omega
          · have := Hk_len (N := N) (H0 := H0) h1
            have := Hk_same (N := N) (X := H0) (Y := H1) hlen1.symm m
            omega
      · rcases look_Tk (ops := ops) (V := V) (T0 := T0) t m with ⟨j, h1, h2, h3⟩ | ⟨h1, h2⟩
        · rw [h3]; exact (k3 t).1 j h1 (hall j h1) h2
        · rw [h2]; exact (k3 t).2 h1
  intro fuel
  induction fuel with
  | zero =>
    intro us listed a w hus hf hi
    refine finish 0 listed a w (fun j hj => ?_) (by omega) hi
    cases hb : listed.getD j false with
    | true => rfl
    | false => have := hus j hj hb; have := List.length_pos_of_mem this; omega
  | succ fuel ih =>
    intro us listed a w hus hf hi
    by_cases hall : ∀ j, j < m → listed.getD j false = true
    · exact finish _ listed a w hall (by omega) hi
    have hex : ∃ j, j < m ∧ listed.getD j false = false := by
      apply Classical.byContradiction
      intro hn
      refine hall fun j hj => ?_
      cases hb : listed.getD j false with
      | true => rfl
      | false => exact absurd ⟨j, hj, hb⟩ hn
    -- the least unlisted one is ready
    have hready : ∃ j, j ∈ Region.ready .any ops listed := by
      have hleast : ∀ n, (∃ j, j ≤ n ∧ j < m ∧ listed.getD j false = false) → ∃ j, j < m ∧ listed.getD j false = false ∧ ∀ i, i < j → listed.getD i false = true := by
        intro n
        induction n with
        | zero =>
          rintro ⟨j, h1, h2, h3⟩
          have : j = 0 := by omega
          subst this
          exact ⟨0, h2, h3, fun i hi => absurd hi (by omega)⟩
        | succ n ihn =>
          rintro ⟨j, h1, h2, h3⟩
          by_cases hh : ∃ j, j ≤ n ∧ j < m ∧ listed.getD j false = false
          · exact ihn hh
          · refine ⟨j, h2, h3, fun i hi => ?_⟩
            cases hb : listed.getD i false with
            | true => rfl
            | false => exact absurd ⟨i, by omega, by omega, hb⟩ hh
      obtain ⟨j0, h1, h2⟩ := hex
      obtain ⟨j, hj, hjf, hji⟩ := hleast j0 ⟨j0, Nat.le_refl _, h1, h2⟩
      have hjs : j < ops.size := by omega
      have ho : ops[j]? = some ops[j] := by simp [hjs]
      exact ⟨j, mem_ready.2 ⟨by simp [hi.size, hjs] at hjf ⊢; exact hjf, _, ho, fun e he hb => hji _ (anyOk_edge hany ho e he hb)⟩⟩
    refine ⟨fun hn => (by obtain ⟨j, hj⟩ := hready; rw [hn] at hj; cases hj), fun i hir => ?_⟩
    obtain ⟨hun, o, ho, hedges⟩ := mem_ready.1 hir
    have his : i < ops.size := (Array.getElem?_eq_some_iff.1 ho).1
    have hif : listed.getD i false = false := by simp [hi.size, his] at hun ⊢; exact hun
    have him : i < m := by
      rcases Nat.lt_or_ge i m with h | h
      · exact h
      · obtain ⟨j, h1, h2⟩ := hex
        have := reach_listed hany hi.closed i o j ho (anyOk_tail hany ho h j (by omega)) hedges
        rw [h2] at this; cases this
    obtain ⟨ρ, k1, k2, k3, k4, k5, k6, k7⟩ := hi.ex
    -- what it looks at is told
    have hlook : ∀ t, t ∈ o.looksAt ops → (look (Tk ops V T0 i) t).rep ρ (a.tmps.getD t undef) := by
      intro t ht
      rcases look_Tk (ops := ops) (V := V) (T0 := T0) t i with ⟨j, h1, h2, h3⟩ | ⟨h1, h2⟩
      · rw [h3]
        have hjs : j < ops.size := by omega
        have hp : ops[j]? = some ops[j] := by simp [hjs]
        have hd : ops[j].dst = some t := by rw [hp] at h2; simpa using h2
        have := (anyOk_head hany ho him (show j < m by omega) hp hd).2 ht
        exact (k3 t).1 j (by omega) (reach_listed hany hi.closed i o j ho this.2 hedges) h2
      · rw [h2]
        refine (k3 t).2 fun j hj hd => ?_
        by_cases hji : j < i
        · exact h1 j hji hd
        · have hjs : j < ops.size := by omega
          have hp : ops[j]? = some ops[j] := by simp [hjs]
          have hd' : ops[j].dst = some t := by rw [hp] at hd; simpa using hd
          have := (anyOk_head hany ho him hj hp hd').2 ht
          omega
    have hopk := regionOk_op hok ho
    have hopsrep : Ops o (Tk ops V T0 i) ρ a := by
      intro x hx
      simp only [opOk, Bool.and_eq_true, Array.all_eq_true_iff_forall_mem] at hopk
      cases x with
      | tmp t => exact hlook t (looksAt_op hx)
      | global g => trivial
      | func f => exact ⟨rfl, rfl⟩
      | const c =>
        have h := hopk.1.1 _ hx
        simp only [operandOk] at h
        unfold constOk at h
        split at h <;> first
          | (cases h; done)
          | exact rfl
          | exact ⟨rfl, rfl⟩
    have hdst : ∀ d, o.dst = some d → d < a.tmps.size := fun d hd => by rw [k5]; exact opOk_dst hopk d hd
    have hwant : ∀ c, Guard ops (Tk ops V T0 i) o c → Region.wanted o (yielded ops a.tmps) = c := fun c hg =>
      hg.wanted (ρ := ρ) fun j b t e1 e2 => ⟨hlook t (looksAt_guard e1 e2), by rw [k5]; exact regionOk_guard hok j t e2⟩
    have hW : ∀ b, w.heap.size ≤ b → E.W b := fun b hb => E.hW b (Nat.le_trans k7.size hb)
    obtain ⟨rest, hrest⟩ := Hk_app N (show i + 1 ≤ m by omega)
    have hrest' : ∀ X, Hk N X m = Hk N X i ++ ((N i).map some ++ rest) := fun X => by rw [hrest]; simp only [Hk, List.append_assoc]
    have hnone : ∀ i', i' < (N i).length → ρ ((Hk N H0 i).length + i') = none := by
      intro i' hi'
      cases hr : ρ ((Hk N H0 i).length + i') with
      | none => rfl
      | some x =>
        rcases k4 _ x hr with h | ⟨j, h1, h2, h3, h4⟩
        · obtain ⟨r, hr⟩ := Hk_le (N := N) (H0 := H0) (Nat.zero_le i)
          simp only [Hk] at hr
          rw [hr] at h; simp at h; omega
        · rcases Nat.lt_trichotomy i j with h5 | h5 | h5
          · have := Hk_len (N := N) (H0 := H0) h5; omega
          · subst h5; rw [hif] at h2; cases h2
          · have := Hk_len (N := N) (H0 := H0) h5; omega
    -- the step
    have hinv : ∀ (v' : Value) (w' : World) (ρ' : Rho), Rle ρ ρ' → HRep E.W ρ' (Hk N (bif (listed.setIfInBounds i true).getD k0 false then H1 else H0) m) w' → (∀ id x, ρ' id = some x → ρ id = some x ∨ ((Hk N H0 i).length ≤ id ∧ id < (Hk N H0 i).length + (N i).length)) → Fr E.W w w' → (V i).rep ρ' v' → InvM E ops m k0 V N T0 H0 H1 (listed.setIfInBounds i true) (a.put o.dst v') w' := by
      intro v' w' ρ' hrle hheap hold hfr hv
      have hset : ∀ j, j ≠ i → (listed.setIfInBounds i true).getD j false = listed.getD j false := fun j hj => getD_set_ne false (Ne.symm hj)
      have hseti : (listed.setIfInBounds i true).getD i false = true := by simp [hi.size, his]
      refine ⟨by simpa using hi.size, fun j p hp hjl e he hb => ?_, fun j h1 h2 => by rw [hset j (by omega)]; exact hi.late j h1 h2, ρ', k1.trans hrle, hheap, fun t => ?_, fun id x hx => ?_, (put_size _ _ _).trans k5, (by rw [put_defers]; exact k6.fr hfr), k7.trans hfr⟩
      · have keep : ∀ x, listed.getD x false = true → (listed.setIfInBounds i true).getD x false = true := fun x hx => getD_set_true hx
        by_cases hji : j = i
        · subst hji
          rw [ho] at hp
          cases hp
          exact keep _ (hedges e he hb)
        · rw [hset j hji] at hjl
          exact keep _ (hi.closed j p hp hjl e he hb)
      · have hslot : (a.put o.dst v').tmps.getD t undef = if o.dst = some t then v' else a.tmps.getD t undef := by
          cases hd : o.dst with
          | none => simp [Act.put]
          | some d =>
            simp only [Act.put]
            rw [getD_set _ _ _ _ (hdst d hd)]
            simp
        rw [hslot]
        refine ⟨fun j hj hlj hdj => ?_, fun hno => ?_⟩
        · by_cases hji : j = i
          · subst hji
            rw [ho] at hdj
            have hdj : o.dst = some t := by simpa using hdj
            rw [if_pos hdj]; exact hv
          · have hjs : j < ops.size := by omega
            have hp : ops[j]? = some ops[j] := by simp [hjs]
            have hd' : ops[j].dst = some t := by rw [hp] at hdj; simpa using hdj
            have h1 := (anyOk_head hany ho him hj hp hd').1
            rw [if_neg (h1.resolve_left hji)]
            rw [hset j hji] at hlj
            exact AV.rep_le hrle ((k3 t).1 j hj hlj hdj)
        · have : o.dst ≠ some t := by have := hno i him; rw [ho] at this; simpa using this
          rw [if_neg this]
          exact AV.rep_le hrle ((k3 t).2 hno)
      · rcases hold id x hx with h | ⟨h1, h2⟩
        · rcases k4 id _ h with h | ⟨j, h1, h2, h3⟩
          · exact .inl h
          · refine .inr ⟨j, h1, ?_, h3⟩
            by_cases hji : j = i
            · subst hji; exact hseti
            · rw [hset j hji]; exact h2
        · exact .inr ⟨i, him, hseti, h1, h2⟩
    have hus' : ∀ j, j < m → (listed.setIfInBounds i true).getD j false = false → j ∈ us.erase i := by
      intro j hj hjf
      by_cases hji : j = i
      · subst hji; simp [hi.size, his] at hjf
      · rw [getD_set_ne false (Ne.symm hji)] at hjf
        exact (List.mem_erase_of_ne hji).2 (hus j hj hjf)
    have hlen' : (us.erase i).length + l.length ≤ fuel := by
      have hmem := hus i him hif
      rw [List.length_erase_of_mem hmem]
      have := List.length_pos_of_mem hmem
      omega
    have hsubv : HRep E.W ρ (Hk N Hv i) w := by
      refine HRep.sub_pre (r := (N i).map some ++ rest) ?_
      rw [← hrest']
      refine k2.sub fun id k hk => ?_
      obtain ⟨R, hR⟩ := Hk_app N (Nat.zero_le m)
      simp only [Hk] at hR
      rw [hR] at hk ⊢
      have hB : (bif listed.getD k0 false then H1 else H0).length = Hv.length := by cases listed.getD k0 false <;> simp [hlen1, hlenv]
      by_cases hid : id < Hv.length
      · rw [List.getElem?_append_left hid] at hk
        rw [List.getElem?_append_left (by omega)]
        cases listed.getD k0 false
        · exact hv0 id k hk
        · exact hv1 id k hk
      · rw [List.getElem?_append_right (by omega)] at hk
        rw [List.getElem?_append_right (by omega), hB]; exact hk
    unfold wpOp
    simp only [ho]
    by_cases hik : i = k0
    · subst hik
      obtain ⟨o', hs, ho', hNi, hg, hlow, hvl, hlH, hmut⟩ := hmut
      rw [ho] at ho'
      cases ho'
      rw [hwant _ hg]
      simp only [if_true]
      rw [hif] at k2
      simp only [cond_false] at k2
      refine .inl ?_
      obtain ⟨R, hR⟩ := Hk_app N (Nat.zero_le m)
      simp only [Hk] at hR
      refine mut_step (R := R) hs hlen1 hmut (by rw [← hR]; exact k2) hW hopsrep hlow hvl hlH (fun id x hx => ?_) _ Q ?_
      · rcases k4 id x hx with h | ⟨j, h1, h2, h3, h4⟩
        · exact Nat.lt_of_lt_of_le h (by simp)
        · have := Hk_len (N := N) (H0 := H0) h1
          rw [← hR H0]; omega
      · rintro v' w' ⟨hheap, hfr, hv⟩
        refine ih (us.erase i) _ _ _ hus' hlen' (hinv v' w' ρ (.refl _) ?_ (fun id x hx => .inl hx) hfr hv)
        simp only [show (listed.setIfInBounds i true).getD i false = true by simp [hi.size, his], cond_true]
        rw [hR]; exact hheap
    · obtain ⟨o', ho', hso⟩ := hstep i him hik
      rw [ho] at ho'
      cases ho'
      have hsk : (listed.setIfInBounds i true).getD k0 false = listed.getD k0 false := getD_set_ne false hik
      have hlv := Hk_same (N := N) (X := Hv) (Y := H0) hlenv i
      have hBl : (bif listed.getD k0 false then H1 else H0).length = H0.length := by cases listed.getD k0 false <;> simp [hlen1]
      have hBi := Hk_same (N := N) (X := bif listed.getD k0 false then H1 else H0) (Y := H0) hBl i
      rcases hso with ⟨hg, hh⟩ | ⟨hg, hv, hn⟩
      · rw [hwant _ hg]
        simp only [if_true]
        refine .inl (hh E.W ρ a w hsubv (fun i' hi' => by rw [hlv]; exact hnone i' hi') hopsrep _ Q ?_)
        rintro v' w' ⟨ρ', hnew, hv⟩
        rw [hlv] at hnew
        refine ih (us.erase i) _ _ _ hus' hlen' (hinv v' w' ρ' hnew.le ?_ (fun id x hx => ?_) (hnew.ext.fr _) hv)
        · rw [hsk]
          refine k2.new' hW hnone (fun i' hi' => ?_) hnew
          rw [hrest', List.getElem?_append_right (by omega), ← hBi, Nat.add_sub_cancel_left, List.getElem?_append_left (by simpa using hi')]
          simp [hi']
        · obtain ⟨b, off⟩ := x
          rcases hnew.old id b off hx with h | ⟨h1, h2, _, _⟩
          · exact .inl h
          · exact .inr ⟨h1, h2⟩
      · rw [hwant _ hg]
        simp only [Bool.false_eq_true, if_false]
        refine ih (us.erase i) _ _ _ hus' hlen' (hinv undef w ρ (.refl _) (by rw [hsk]; exact k2) (fun id x hx => .inl hx) (.refl _ _) ?_)
        rw [hv]; trivial

theorem Rep.invM {E : Env} {ops : Array Oper} {m k0 : Nat} {V : Nat → AV} {N : Nat → List Blk} {T0 : Tm} {H0 H1 : Heap} {a : Act} {w : World} (h : Rep E T0 H0 a w) : InvM E ops m k0 V N T0 H0 H1 (Array.replicate ops.size false) a w := by
  obtain ⟨s1, s2, s3, ρ, k1, k2, k3⟩ := (h.inv : Inv E ops m V N T0 H0 (Array.replicate ops.size false) a w)
  exact ⟨s1, s2, s3, ρ, k1, by rw [getD_rep_false]; exact k2, k3⟩
/-- What is hidden is not told. -/
def visH (hs : List Nat) (H : Heap) : Heap := H.mapIdx fun i k => if i ∈ hs then none else k
theorem visH_get {hs : List Nat} {H : Heap} {id : Nat} {k : Blk} (h : (visH hs H)[id]? = some (some k)) : id ∉ hs ∧ H[id]? = some (some k) := by
  simp only [visH, List.getElem?_mapIdx] at h
  cases h0 : H[id]? with
  | none => rw [h0] at h; cases h
  | some q =>
    rw [h0] at h
    simp only [Option.map_some, Option.some.injEq] at h
    by_cases hi : id ∈ hs
    · rw [if_pos hi] at h; cases h
    · rw [if_neg hi] at h; subst h; exact ⟨hi, rfl⟩
def setB (H : Heap) : List (Nat × Blk) → Heap
  | [] => H
  | p :: r => (setB H r).set p.1 (some p.2)
theorem setB_len (H : Heap) (nw : List (Nat × Blk)) : (setB H nw).length = H.length := by
  induction nw with
  | nil => rfl
  | cons p r ih => simp [setB, ih]
theorem setB_out {H : Heap} {nw : List (Nat × Blk)} {id : Nat} (h : id ∉ nw.map (·.1)) : (setB H nw)[id]? = H[id]? := by
  induction nw with
  | nil => rfl
  | cons p r ih =>
    simp only [List.map_cons, List.mem_cons, not_or] at h
    rw [setB, List.getElem?_set_ne (Ne.symm h.1)]
    exact ih h.2
theorem setB_in {H : Heap} {nw : List (Nat × Blk)} {id : Nat} (h : id ∈ nw.map (·.1)) (hl : ∀ p ∈ nw, p.1 < H.length) : ∃ p ∈ nw, p.1 = id ∧ (setB H nw)[id]? = some (some p.2) := by
  induction nw with
  | nil => cases h
  | cons p r ih =>
    by_cases hp : p.1 = id
    · refine ⟨p, by simp, hp, ?_⟩
      rw [setB, ← hp, List.getElem?_set_self (by rw [setB_len]; exact hl p (by simp))]
    · have h2 : id ∈ r.map (·.1) := by
        rw [List.map_cons, List.mem_cons] at h
        rcases h with e | e
        · exact absurd e.symm hp
        · exact e
      obtain ⟨q, h3, h4, h5⟩ := ih h2 (fun q hq => hl q (by simp [hq]))
      exact ⟨q, by simp [h3], h4, by rw [setB, List.getElem?_set_ne hp]; exact h5⟩
def ownOk (nw : List (Nat × Blk)) (H : Heap) : Bool := nw.all fun p => p.2.rw && p.2.segs.all (Seg.lowB 0) && (match H[p.1]? with | some (some k) => k.rw | _ => false)
theorem own_of {nw : List (Nat × Blk)} {H : Heap} (h : ownOk nw H = true) : Own (nw.map (·.1)) H (setB H nw) := by
  simp only [ownOk, List.all_eq_true, Bool.and_eq_true] at h
  have old : ∀ p ∈ nw, ∃ k, H[p.1]? = some (some k) ∧ k.rw = true := by
    intro p hp
    have := (h p hp).2
    split at this
    · rename_i k hk; exact ⟨k, hk, this⟩
    · cases this
  refine ⟨fun id hid => ?_, fun id hid => ?_, fun id hid => setB_out hid⟩
  · obtain ⟨p, hp, rfl⟩ := List.mem_map.1 hid
    exact old p hp
  · obtain ⟨p, hp, _, e2⟩ := setB_in (H := H) hid (fun p hp => by obtain ⟨k, e, _⟩ := old p hp; exact (List.getElem?_eq_some_iff.1 e).1)
    exact ⟨p.2, e2, (h p hp).1.1, List.all_eq_true.2 (h p hp).1.2⟩
/-- **A region that draws its order**, one of whose operations writes. -/
theorem region_anyM {E : Env} {id : Nat} {ops : Array Oper} {Q : Exit → Act → World → Prop} {m k0 : Nat} (hmix : E.P.follows .mixedOrders = true) (hok : regionOk E.n ops = true) (hany : anyOk ops m = true) {la lb l2 : List Oper} {o : Oper} (hl : ops.toList = la ++ o :: (lb ++ l2)) (hk : la.length = k0) (hm : k0 + 1 + lb.length = m)
    {T Ta T1 T' : Tm} {H H1 Ha Hb H' : Heap} {v : AV} (hs : List Nat) (own : Own hs H H1) (hlen1 : H1.length = H.length) (hA : HSteps E.P ops la T (visH hs H) Ta Ha)
    (hg : Guard ops Ta o true) (hlow : ∀ x ∈ o.op.operands, (ev Ta x).lowB H.length = true) (hvl : v.lowB 0 = true) (hlH : H.all (fun | none => true | some k => k.segs.all (Seg.lowB H.length)) = true) (hM : MOk E.P o Ta (roH hs H) v (roH hs H1))
    (hB : HSteps E.P ops lb (put Ta o.dst v) Ha T1 Hb) (h2 : Steps E.P ops l2 T1 (H1 ++ Hb.drop H.length) T' H') {a : Act} {w : World} (hr : Rep E T H a w) (hQ : ∀ a' w', Rep E T' H' a' w' → Q .normal a' w') : (Code.region id ops true).wp E.P Q a w := by
  have hsz : ops.size = m + l2.length := by rw [← Array.length_toList, hl]; simp; omega
  have hget : ∀ j, ops[j]? = (la ++ o :: (lb ++ l2))[j]? := fun j => by rw [← Array.getElem?_toList, hl]
  have ho : ops[k0]? = some o := by rw [hget, ← hk]; simp
  have gA : ∀ j, j < la.length → la[j]? = ops[0 + j]? := fun j hj => by rw [Nat.zero_add, hget, List.getElem?_append_left hj]
  have gB : ∀ j, j < lb.length → lb[j]? = ops[k0 + 1 + j]? := fun j hj => by
    rw [hget, List.getElem?_append_right (by omega), show k0 + 1 + j - la.length = j + 1 by omega, List.getElem?_cons_succ, List.getElem?_append_left hj]
  obtain ⟨V1, N1, _, a2, a3, a4⟩ := trace' hA T (visH hs H) 0 (fun _ => .s .junk) (fun _ => []) gA rfl rfl
  rw [Nat.zero_add, hk] at a3 a4
  let V2 : Nat → AV := fun j => if j = k0 then v else V1 j
  let N2 : Nat → List Blk := fun j => if j = k0 then [] else N1 j
  have eT : Tk ops V2 T k0 = Ta := by rw [← a3]; exact Tk_congr fun j hj => by simp [V2, show j ≠ k0 by omega]
  have eH : Hk N2 (visH hs H) k0 = Ha := by rw [← a4]; exact Hk_congr fun j hj => by simp [N2, show j ≠ k0 by omega]
  obtain ⟨V, N, b1, b2, b3, b4⟩ := trace' hB T (visH hs H) (k0 + 1) V2 N2 gB (by simp only [Tk, eT, ho, Option.bind_some]; simp [V2]) (by simp only [Hk, eH]; simp [N2])
  rw [hm] at b3 b4
  have eTk : ∀ k, k ≤ k0 → Tk ops V T k = Tk ops V1 T k := fun k hk' => Tk_congr fun j hj => by rw [(b1 j (by omega)).1]; simp [V2, show j ≠ k0 by omega]
  have eHk : ∀ k, k ≤ k0 → Hk N (visH hs H) k = Hk N1 (visH hs H) k := fun k hk' => Hk_congr fun j hj => by rw [(b1 j (by omega)).2]; simp [N2, show j ≠ k0 by omega]
  have hvl' : V k0 = v := by rw [(b1 k0 (by omega)).1]; simp [V2]
  have hNl : N k0 = [] := by rw [(b1 k0 (by omega)).2]; simp [N2]
  have eTa : Tk ops V T k0 = Ta := by rw [eTk k0 (Nat.le_refl _), a3]
  have hstep : ∀ k, k < m → k ≠ k0 → StepOk E.P ops V N T (visH hs H) k := by
    intro k hk1 hk2
    rcases Nat.lt_or_gt_of_ne hk2 with h | h
    · have := a2 k (Nat.zero_le _) (by omega)
      unfold StepOk at this ⊢
      rw [eTk k (by omega), eHk k (by omega), (b1 k (by omega)).1, (b1 k (by omega)).2]
      simpa [V2, N2, hk2] using this
    · exact b2 k (by omega) (by omega)
  have hstepM : StepM E.P ops V N T H H1 k0 := ⟨o, hs, ho, hNl, by rw [eTa]; exact hg, by rw [eTa]; exact hlow, by rw [hvl']; exact hvl, hlH, own, by rw [eTa, hvl']; exact hM⟩
  have hHb : Hk N H1 m = H1 ++ Hb.drop H.length := by
    obtain ⟨R, hR⟩ := Hk_app N (Nat.zero_le m)
    simp only [Hk] at hR
    rw [hR] at b4
    rw [hR, ← b4, show H.length = (visH hs H).length by simp [visH], List.drop_left]
  refine wp_region_any hmix ?_
  refine head_anyM (k0 := k0) hok hany (by omega) (by omega) hlen1 (Hv := visH hs H) (by simp [visH]) (fun id k h => (visH_get h).2) (fun id k h => by rw [own.out id (visH_get h).1]; exact (visH_get h).2) hstep hstepM (l := l2) (fun j => ?_) (by omega) (by rw [b3, hHb]; exact h2) hQ ops.size (List.range m) _ a _ (fun j hj _ => List.mem_range.2 hj) (by simp; omega) hr.drew.invM
  rw [hget, List.getElem?_append_right (by omega), show m + j - la.length = (lb.length + j) + 1 by omega, List.getElem?_cons_succ, List.getElem?_append_right (by omega), Nat.add_sub_cancel_left]
/-! Short forms -/
def TG (P : Program) (ops : Array Oper) (l : List Oper) (T : Tm) (H : Heap) (F : Tm → Heap → Prop) : Prop := ∃ T1 H1, HSteps P ops l T H T1 H1 ∧ F T1 H1
section steps
variable {P : Program} {ops : Array Oper} {T : Tm} {H : Heap} {ty : TypeId} {pos : String} {af : Array Edge} {r : List Oper} {op : Op} {d : Nat} {F : Tm → Heap → Prop}
theorem g_nil (h : F T H) : TG P ops [] T H F := ⟨T, H, .nil, h⟩
theorem g_p {v : AV} (h : HOk P ⟨some d, op, ty, pos, af, none⟩ T H v []) (k : TG P ops r ((d, v) :: T) H F) : TG P ops (⟨some d, op, ty, pos, af, none⟩ :: r) T H F :=
  let ⟨T', H', k1, k2⟩ := k
  ⟨T', H', .cons (.free rfl) h (by simpa [put] using k1), k2⟩
theorem g_a {v : AV} {b : Blk} {H1 : Heap} (h : HOk P ⟨some d, op, ty, pos, af, none⟩ T H v [b]) (e : H ++ [some b] = H1) (k : TG P ops r ((d, v) :: T) H1 F) : TG P ops (⟨some d, op, ty, pos, af, none⟩ :: r) T H F :=
  let ⟨T', H', k1, k2⟩ := k
  ⟨T', H', .cons (.free rfl) h (by subst e; simpa [put] using k1), k2⟩
theorem g_on {j t : Nat} {b B : Bool} {v : AV} (ht : (ops[j]?).bind (·.dst) = some t) (hv : look T t = .s (.bool B)) (hB : B = b) (h : HOk P ⟨some d, op, ty, pos, af, some (j, b)⟩ T H v []) (k : TG P ops r ((d, v) :: T) H F) : TG P ops (⟨some d, op, ty, pos, af, some (j, b)⟩ :: r) T H F :=
  let ⟨T', H', k1, k2⟩ := k
  ⟨T', H', .cons (.on rfl ht hv hB) h (by simpa [put] using k1), k2⟩
end steps
theorem c_anyM {E : Env} {T : Tm} {H : Heap} {Q : Exit → Tm → Heap → Prop} {id : Nat} {ops : Array Oper} (m k0 : Nat) {la lb l2 : List Oper} {d : Nat} {op : Op} {ty : TypeId} {pos : String} {af : Array Edge} (nw : List (Nat × Blk)) {Hv Hr H1r H1 : Heap} (hmix : E.P.follows .mixedOrders = true) (hok : regionOk E.n ops = true) (hany : anyOk ops m = true)
    (hla : ops.toList.take k0 = la) (ho : ops[k0]? = some ⟨some d, op, ty, pos, af, none⟩) (hlb : (ops.toList.drop (k0 + 1)).take (m - k0 - 1) = lb) (hl2 : ops.toList.drop m = l2) (hkm : Nat.blt k0 m = true) (hms : Nat.ble m ops.size = true)
    (hvis : visH (nw.map (·.1)) H = Hv) (hro : roH (nw.map (·.1)) H = Hr) (hset : setB H nw = H1) (hro1 : roH (nw.map (·.1)) H1 = H1r) (hown : ownOk nw H = true) (hlH : H.all (fun | none => true | some k => k.segs.all (Seg.lowB H.length)) = true)
    (h : TG E.P ops la T Hv fun Ta Ha => ∃ v : AV, (op.operands.toList.all fun x => (ev Ta x).lowB H.length) = true ∧ v.lowB 0 = true ∧ MOk E.P ⟨some d, op, ty, pos, af, none⟩ Ta Hr v H1r ∧
      TG E.P ops lb ((d, v) :: Ta) Ha fun Tb Hb => SK E.P ops l2 Tb (H1 ++ Hb.drop H.length) (Q .normal)) : Wp E (.region id ops true) T H Q := by
  intro a w hr
  obtain ⟨Ta, Ha, hA, v, hlow, hvl, hM, Tb, Hb, hB, T', H', hS, hK⟩ := h
  have h1 : k0 < m := Nat.blt_eq.mp hkm
  have h2 : m ≤ ops.toList.length := by rw [Array.length_toList]; exact Nat.le_of_ble_eq_true hms
  have hd : ops.toList.drop k0 = ⟨some d, op, ty, pos, af, none⟩ :: ops.toList.drop (k0 + 1) := by
    rw [List.drop_eq_getElem_cons (by omega)]
    congr 1
    have : ops.toList[k0]? = some ⟨some d, op, ty, pos, af, none⟩ := by rw [Array.getElem?_toList]; exact ho
    exact (List.getElem?_eq_some_iff.1 this).2
  have hsp : ops.toList.drop (k0 + 1) = lb ++ l2 := by
    rw [← hlb, ← hl2]
    have := (List.take_append_drop (m - k0 - 1) (ops.toList.drop (k0 + 1))).symm
    rw [List.drop_drop, show k0 + 1 + (m - k0 - 1) = m by omega] at this
    exact this
  subst hvis; subst hro; subst hset; subst hro1
  refine region_anyM (k0 := k0) hmix hok hany (la := la) (lb := lb) (l2 := l2) (by rw [← hsp, ← hd, ← hla, List.take_append_drop]) (by rw [← hla, List.length_take]; omega) (by rw [← hlb, List.length_take, List.length_drop]; omega) _ (own_of hown) (setB_len _ _) hA (.free rfl) (fun x hx => ?_) hvl hlH hM (by simpa [put] using hB) hS hr fun _ _ hr' => ⟨T', H', hK, hr'⟩
  exact List.all_eq_true.1 hlow x (by simpa using hx)
end Go.Ab
