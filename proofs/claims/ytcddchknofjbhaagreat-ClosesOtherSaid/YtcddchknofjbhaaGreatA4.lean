/- A part of the proofs of this claim: Bx20, Bx21, Bx22, BShaS, Bx23, BxZ, BShaT, BRowS, BRowT, BShaS2, BMacS, BMacT, BNumS, BNumS2, BNumS3, Bx24. No conditions. -/
import Derived.Test.YtcddchknofjbhaaGreatA3
import Derived.RangeFuncRecord
import Derived.RangeFuncCalls
import Derived.Test.YtcddchknofjbhaaGreatProg
import Derived.KernelRfl
set_option linter.unusedVariables false
set_option linter.unusedSimpArgs false
section
/- A block that may be written, told as a value for one call's time. No program. -/
namespace Go.Bx
def SV.plainB : SV → Bool
  | .int .. => true | .bool _ => true | .nilp => true | .nils => true | .val _ => true | .ptr .. => true | .slice .. => true | .slx .. => true | .gro .. => true | .junk => true
  | _ => false
def Seg.plainB : Seg → Bool
  | .ints .. => true
  | .one v => v.plainB
  | .rows .. => false
def AV.plainB : AV → Bool
  | .s v => v.plainB
  | .agg l => l.all Seg.plainB
  | .tup l => l.all fun | .s v => v.plainB | .agg l => l.all Seg.plainB | .tup _ => true
theorem SV.rep_plain {ρ ρ' : Rho} (hm : ρ'.m = ρ.m) (hs : ρ'.sz = ρ.sz) {x : SV} {v : Value} (hx : x.plainB = true) (h : x.rep ρ v) : x.rep ρ' v := by
  cases x <;> first | exact h | (cases hx; done) | (simp only [SV.rep] at h ⊢; rw [hm]; exact h) | (simp only [SV.rep] at h ⊢; rw [hm, hs]; exact h)
theorem atS_plain : ∀ {l : List Seg} {i : Nat} {x : SV}, l.all Seg.plainB = true → atS l i = some x → x.plainB = true
  | [], _, _, _, h => by simp [atS] at h
  | s :: r, i, x, hb, h => by
    simp only [List.all_cons, Bool.and_eq_true] at hb
    simp only [atS] at h
    by_cases hi : i < s.size
    · rw [if_pos hi] at h
      have h := Option.some.inj h
      subst h
      cases s with
      | one v => exact hb.1
      | ints k m l => rfl
      | rows n w g => cases hb.1
    · rw [if_neg hi] at h
      exact atS_plain hb.2 h
theorem RowRep.plain {ρ ρ' : Rho} (hm : ρ'.m = ρ.m) (hs : ρ'.sz = ρ.sz) {l : List Seg} {g : Nat → Option Value} (hl : l.all Seg.plainB = true) (h : RowRep ρ l g) : RowRep ρ' l g := fun i x hx => by
  obtain ⟨v, h1, h2, h3⟩ := h i x hx
  exact ⟨v, h1, SV.rep_plain hm hs (atS_plain hl hx) h2, h3⟩
theorem AV.rep_plain {ρ ρ' : Rho} (hm : ρ'.m = ρ.m) (hs : ρ'.sz = ρ.sz) {x : AV} {v : Value} (hx : x.plainB = true) (h : x.rep ρ v) : x.rep ρ' v := by
  cases x with
  | s x => exact SV.rep_plain hm hs hx h
  | agg l => obtain ⟨cs, e1, e2, e3⟩ := h; exact ⟨cs, e1, e2, e3.plain hm hs hx⟩
  | tup l =>
    obtain ⟨vs, e1, e2⟩ := h
    simp only [AV.plainB, List.all_eq_true] at hx
    refine ⟨vs, e1, fun i y hy => ?_⟩
    obtain ⟨u, hu, hr⟩ := e2 i y hy
    have hp := hx y (List.mem_of_getElem? hy)
    refine ⟨u, hu, ?_⟩
    cases y with
    | s x => exact SV.rep_plain hm hs hp hr
    | agg l => obtain ⟨cs, e1, e2, e3⟩ := hr; exact ⟨cs, e1, e2, e3.plain hm hs hp⟩
    | tup q => exact hr.elim
def othersOk (H : Heap) (id : Nat) (F : List Nat) : Bool := F.all fun j => Nat.beq j id || match hget H j with | some b => !b.rw || b.segs.all Seg.plainB | none => true
theorem othersOk_at {H : Heap} {id : Nat} {F : List Nat} (h : othersOk H id F = true) {j : Nat} (hj : j ∈ F) (hn : j ≠ id) {b : Blk} (hb : hget H j = some b) : b.rw = false ∨ b.segs.all Seg.plainB = true := by
  simp only [othersOk, List.all_eq_true] at h
  have := h j hj
  rw [hb] at this
  simp only [Bool.or_eq_true, Bool.not_eq_true'] at this
  rcases this with h1 | h1
  · exact absurd (Nat.eq_of_beq_eq_true h1) hn
  · exact h1

theorem lok_tmp {P : Program} {o : Oper} {T : Tm} {H : Heap} {v : AV} {F : List Nat} (id : Nat) {segs : List Seg} (hb : hget H id = some ⟨true, segs⟩) (h : LOk P o T (H.set id (some ⟨false, segs⟩)) (H.set id (some ⟨false, segs⟩)) v F []) (hF : id ∈ F) (ho : othersOk H id F = true) (hv : v.plainB = true) : LOk P o T H H v F [] := by
  have hlt := hget_lt hb
  refine ⟨Nat.le_refl _, fun _ _ _ => rfl, fun _ h => (by cases h), fun j hj => by have := h.lt j hj; simpa using this, ?_⟩
  have hrun := h.run
  rw [List.length_set, msk_set _ _ _ hF] at hrun
  have hbm : hget (msk F H.length H) id = some ⟨true, segs⟩ := by rw [hget_msk, if_pos (.inl hF)]; exact hb
  have hom : ∀ j b, j ≠ id → hget (msk F H.length H) j = some b → b.rw = false ∨ b.segs.all Seg.plainB = true := by
    intro j b hj hg
    rw [hget_msk] at hg
    split at hg
    · rename_i h1
      rcases h1 with h1 | h1
      · exact othersOk_at ho h1 hj hg
      · have := hget_lt hg; omega
    · cases hg
  generalize hH0 : msk F H.length H = H0 at *
  have hl0 : H0.length = H.length := by rw [← hH0, msk_len]
  intro W ρ a w hH hn hW hops next Q hq
  have hlt0 := hget_lt hbm
  cases hm : ρ.m id with
  | none =>
    have hHf : HRep W ρ (hget (H0.set id (some ⟨false, segs⟩))) w := by
      refine ⟨hH.lt, fun j b o k e1 e2 => ?_, fun j j' b o o' k k' hne e1 e2 e3 e4 => ?_, hH.fz, hH.sz⟩
      · rw [hget_set hlt0] at e2
        by_cases hj : j = id
        · subst hj; rw [hm] at e1; cases e1
        · rw [if_neg hj] at e2; exact hH.rep j b o k e1 e2
      · rw [hget_set hlt0] at e3 e4
        by_cases hj : j = id
        · subst hj; rw [hm] at e1; cases e1
        · by_cases hj' : j' = id
          · subst hj'; rw [hm] at e2; cases e2
          · rw [if_neg hj] at e3; rw [if_neg hj'] at e4; exact hH.apart j j' b o o' k k' hne e1 e2 e3 e4
    refine hrun W ρ a w hHf (fun i a1 a2 => by rw [List.length_set] at a1 a2; omega) hW hops next Q ?_
    rintro v' w' ⟨ρ', W', k, hv'⟩
    rw [List.length_set] at k
    have hmm : ∀ i x, ρ'.m i = some x → ρ.m i = some x := fun i x e => by
      rcases k.old i x e with h1 | h1
      · exact h1
      · omega
    refine hq v' w' ⟨ρ', W', ⟨k.le, k.old, ⟨k.rep.lt, fun j b o k' e1 e2 => ?_, fun j j' b o o' k1 k2 hne e1 e2 e3 e4 => ?_, k.rep.fz, k.rep.sz⟩, k.fr, k.sub, k.fresh, k.fzn⟩, hv'⟩
    · refine k.rep.rep j b o k' e1 ?_
      rw [hget_set hlt0, if_neg]; exact e2
      intro e; subst e; have := hmm _ _ e1; rw [hm] at this; cases this
    · exact hH.apart j j' b o o' k1 k2 hne (hmm _ _ e1) (hmm _ _ e2) e3 e4
  | some x =>
    obtain ⟨b0, o0⟩ := x
    obtain ⟨hB0, hW0⟩ := hH.rep id b0 o0 _ hm hbm
    have hW0 := hW0 rfl
    have hnone : ρ.fz b0 = none := by
      cases h : ρ.fz b0 with
      | none => rfl
      | some c => exact absurd hW0 (hH.fz b0 c h).1
    obtain ⟨ρ1, W1, h1, h2, h3, h4, h5, h6⟩ := hrep_frz hH hbm hW
    have hf1 : ∃ cells, ρ1.fz b0 = some cells := by
      obtain ⟨⟨cells, t, fr, g1, g2, g3, g4⟩, _⟩ := h3.rep id b0 o0 ⟨false, segs⟩ (by rw [h2]; exact hm) (by rw [hget_set hlt0, if_pos rfl])
      exact ⟨cells, g3 rfl⟩
    obtain ⟨cells1, hf1⟩ := hf1
    have hnW1 : ¬ W1 b0 := (h3.fz b0 _ hf1).1
    refine hrun W1 ρ1 a w h3 (fun i a1 a2 => by rw [List.length_set] at a1 a2; omega) h5 (fun x hx => AV.rep_le h1 (hops x hx)) next Q ?_
    rintro v' w' ⟨ρ', W', k, hv'⟩
    rw [List.length_set] at k
    have hmm : ρ'.m = ρ.m := by
      funext i
      cases h7 : ρ'.m i with
      | none =>
        cases h8 : ρ.m i with
        | none => rfl
        | some x => have := k.le.m i x (h1.m i x h8); rw [h7] at this; cases this
      | some x =>
        rcases k.old i x h7 with h8 | h8
        · rw [h2] at h8; exact h8.symm
        · omega
    let ρ2 : Rho := ⟨ρ'.m, fun b => if b = b0 then none else ρ'.fz b, ρ'.sz⟩
    have hle2 : Rle ρ ρ2 := ⟨fun i x e => by show ρ'.m i = some x; rw [hmm]; exact e, fun b x e => by
      show (if b = b0 then none else ρ'.fz b) = some x
      by_cases hbb : b = b0
      · subst hbb; rw [hnone] at e; cases e
      · rw [if_neg hbb]; exact k.le.fz b x (h1.fz b x e), fun b x e => k.le.sz b x (h1.sz b x e)⟩
    have hfz2 : ∀ b x, ρ2.fz b = some x → b ≠ b0 ∧ ρ'.fz b = some x := fun b x e => by
      have e : (if b = b0 then none else ρ'.fz b) = some x := e
      by_cases hbb : b = b0
      · rw [if_pos hbb] at e; cases e
      · rw [if_neg hbb] at e; exact ⟨hbb, e⟩
    have hsame : ∀ b, b < w.heap.size → ¬ W1 b → w'.heap[b]? = w.heap[b]? := fun b h7 h8 => k.fr.block b h7 h8
    refine hq v' w' ⟨ρ2, fun b => W' b ∨ b = b0, ⟨hle2, fun i x e => .inl (by have e : ρ'.m i = some x := e; rwa [hmm] at e), ⟨fun j b o e => k.rep.lt j b o e, fun j b o kk e1 e2 => ?_, fun j j' b o o' k1 k2 hne e1 e2 e3 e4 => ?_, fun b cs e => ?_, k.rep.sz⟩, k.fr.mono h4, fun b hb => ?_, fun b hb => .inl (k.fresh b hb), fun b c e => ?_⟩, AV.rep_plain (ρ := ρ') (ρ' := ρ2) rfl rfl hv hv'⟩
    · have e1 : ρ'.m j = some (b, o) := e1
      have e1' : ρ.m j = some (b, o) := by rwa [hmm] at e1
      by_cases hj : j = id
      · subst hj
        rw [hm] at e1'; cases e1'
        obtain ⟨q1, q2⟩ := hH.rep j b0 o0 kk hm e2
        exact ⟨(q1.world (hsame b0 (hH.lt _ _ _ hm) hnW1)).le hle2, fun _ => .inr rfl⟩
      · rcases hom j kk hj e2 with hk | hk
        · obtain ⟨q1, q2⟩ := hH.rep j b o kk e1' e2
          obtain ⟨cells, t, fr, g1, g2, g3, g4⟩ := q1
          have hnW : ¬ W1 b := fun h7 => (hH.fz b _ (g3 hk)).1 (h4 b h7)
          have q1 : BRep ρ kk w b o := ⟨cells, t, fr, g1, g2, g3, g4⟩
          exact ⟨(q1.world (hsame b (hH.lt _ _ _ e1') hnW)).le hle2, fun h7 => (by rw [hk] at h7; cases h7)⟩
        · obtain ⟨⟨cells, t, fr, g1, g2, g3, g4⟩, q2⟩ := k.rep.rep j b o kk e1 (by rw [hget_set hlt0, if_neg hj]; exact e2)
          refine ⟨⟨cells, t, fr, g1, g2, fun h7 => ?_, g4.plain (ρ := ρ') (ρ' := ρ2) rfl rfl hk⟩, fun h7 => .inl (q2 h7)⟩
          show (if b = b0 then none else ρ'.fz b) = some cells
          rw [if_neg ?_]; exact g3 h7
          intro e
          subst e
          have := (hH.apart j id b o o0 kk _ hj e1' hm e2 hbm).2
          cases this
    · have e1 : ρ'.m j = some (b, o) := e1
      have e2 : ρ'.m j' = some (b, o') := e2
      rw [hmm] at e1 e2
      exact hH.apart j j' b o o' k1 k2 hne e1 e2 e3 e4
    · obtain ⟨h7, h8⟩ := hfz2 b cs e
      exact ⟨fun h9 => h9.elim (k.rep.fz b cs h8).1 h7, (k.rep.fz b cs h8).2⟩
    · rcases hb with h7 | h7
      · exact h4 b (k.sub b h7)
      · subst h7; exact hW0
    · obtain ⟨h7, h8⟩ := hfz2 b c e
      rcases k.fzn b c h8 with h9 | h9
      · exact h6 b c h9
      · exact .inr (h4 b h9)
end Go.Bx
namespace Go.Bx
theorem k_tmp {P : Program} {o : Oper} {T : Tm} {H : Heap} {v : AV} {F : List Nat} (id : Nat) {segs : List Seg} (hb : hget H id = some ⟨true, segs⟩ := by rfl) (h : LOk P o T (H.set id (some ⟨false, segs⟩)) (H.set id (some ⟨false, segs⟩)) v F []) (hF : List.elem id F = true := by rfl) (ho : othersOk H id F = true := by rfl) (hv : v.plainB = true := by rfl) : LOk P o T H H v F [] := lok_tmp id hb h (List.mem_of_elem_eq_true hF) ho hv
end Go.Bx
namespace Go.Bx
section
variable {E : Env} {P : Program} {T : Tm} {H : Heap}
theorem lset_getD (l : List Int) (i : Nat) (v : Int) (j : Nat) : (l.set i v).getD j 0 = if i = j ∧ i < l.length then v else l.getD j 0 := by
  simp only [List.getD_eq_getElem?_getD, List.getElem?_set]
  by_cases h : i = j
  · subst h
    by_cases h2 : i < l.length
    · simp [h2]
    · simp [h2]
  · simp [h]
theorem weak_drop (id : Nat) {H' : Heap} (hH : H.set id none = H') : Weak E T H T H' := by
  subst hH
  rintro a w ⟨ρ, W, p, hn, hT, hE⟩
  refine ⟨ρ, W, ⟨p.le, p.rep.sub fun j b hj => ?_, p.size, p.defs, p.fr, p.sub, p.fresh, p.fzn, p.old⟩, fun i hi => hn i (by simpa using hi), hT, by simpa using hE⟩
  by_cases hlt : id < H.length
  · rw [hget_set hlt] at hj
    split at hj
    · cases hj
    · exact hj
  · rw [List.set_eq_of_length_le (by omega)] at hj; exact hj
theorem frz_ptr (t n : Nat) {id : Nat} {segs : List Seg} {H' : Heap} (hx : look T t = .s (.ptr id 0 0) := by rfl) (hb : hget H id = some ⟨true, segs⟩ := by rfl) (hn : sizeS segs = n := by rfl) (hid : segs.all (Seg.idB fun _ => false) = true := by rfl) (hH : H.set id none = H' := by repeat (first | exact hset_0 | apply hset_s)) : Weak E T H ((t, .s (.fptr n (cellsF segs) 0 0)) :: T) H' := by
  have hlt := hget_lt hb
  refine (weak_frz id hb rfl).trans ((weak_conv t hx (conv_ptr (k := ⟨false, segs⟩) (by rw [hget_set hlt, if_pos rfl]) rfl hn hid)).trans (weak_drop id ?_))
  rw [List.set_set]; exact hH
theorem frz_sl (t : Nat) {id base idx len cap n : Nat} {kk : IntKind} {l l' : List Int} {segs : List Seg} {H' : Heap} (hx : look T t = .s (.slice id base idx len cap) := by rfl) (hb : hget H id = some ⟨true, segs⟩ := by rfl) (hs : segAt segs base = some (.ints kk n l) := by rfl) (hn : idx + len ≤ n := by omega) (hc : len ≤ cap := by omega) (hl : l.length = n := by first | assumption | omega | simp [*]) (hl' : (l.drop idx).take len = l' := by rfl) (hH : H.set id none = H' := by repeat (first | exact hset_0 | apply hset_s)) : Weak E T H ((t, .s (.fzi kk l')) :: T) H' := by
  have hlt := hget_lt hb
  refine (weak_frz id hb rfl).trans ((weak_conv t hx (conv_sl (k := ⟨false, segs⟩) (by rw [hget_set hlt, if_pos rfl]) rfl hs hn hc hl hl')).trans (weak_drop id ?_))
  rw [List.set_set]; exact hH
theorem frz_gro (t : Nat) {id len n : Nat} {kk : IntKind} {l l' : List Int} {H' : Heap} (hx : look T t = .s (.gro id 1 len) := by rfl) (hb : hget H id = some ⟨true, [.ints kk n l]⟩ := by rfl) (hn : len ≤ n := by omega) (hl : l.length = n := by first | assumption | omega | simp [*]) (hl' : l.take len = l' := by rfl) (hH : H.set id none = H' := by repeat (first | exact hset_0 | apply hset_s)) : Weak E T H ((t, .s (.fzi kk l')) :: T) H' := by
  have hlt := hget_lt hb
  refine (weak_frz id hb rfl).trans ((weak_conv t hx (conv_gro (k := ⟨false, [.ints kk n l]⟩) (by rw [hget_set hlt, if_pos rfl]) rfl rfl hn hl hl')).trans (weak_drop id ?_))
  rw [List.set_set]; exact hH
end
end Go.Bx
end

section
/- Loops over functions: rounds. No program. -/
namespace Go.Bx
def FW (r : Option Nat) : Fence := { Fence.wide with round := r }
def noDefer (ops : Array Oper) : Bool := ops.toList.all fun o => match o.op with | .defer .. => false | _ => true
theorem noDefer_op {ops : Array Oper} (h : noDefer ops = true) {i : Nat} {o : Oper} (ho : ops[i]? = some o) : ∀ c, o.op ≠ .defer c := by
  intro c e
  have := List.all_eq_true.1 h o (List.mem_of_getElem? (i := i) (by simpa using ho))
  rw [e] at this; cases this
theorem upon_in {P : Program} {o : Oper} {a : Act} {next : Act → World → Prop} {Q : Exit → Act → World → Prop} {r : Result Next} {ro : Option Nat} (h : o.upon P a next Q r) : o.uponIn (FW ro) 0 P a next Q r := by
  cases r with
  | ok x w' =>
    cases x with
    | value v => exact h
    | skip => exact h
    | defer d => exact h
    | enter f args =>
      refine ⟨fun e => (by cases e), ?_⟩
      have h : Calls P f args w' _ := h
      exact CallsIn.mono (show CallsIn (FW ro) (0 - 1) P f args w' _ from (callsIn_wide (n := 0 - 1)).2 h) (fun e w hr => by cases e <;> exact hr)
    | row row args =>
      refine ⟨fun e => (by cases e), fun c cs _ => ?_⟩
      have h : Rows P row args w' _ := h
      obtain ⟨v, w2, r, s⟩ := h c cs
      exact ⟨v, w2, r, stepsIn_wide.2 s⟩
    | _ => exact h.elim
  | halt x w' => cases x <;> first | exact h | exact h.elim
theorem gives_in {P : Program} {o : Oper} {a : Act} {w : World} {R : Value → World → Prop} {next : Act → World → Prop} {Q : Exit → Act → World → Prop} {ro : Option Nat} (hd : ∀ c, o.op ≠ .defer c) (h : Gives P o a w R) (hk : ∀ v w', R v w' → next (a.put o.dst v) w') : o.wpIn (FW ro) 0 P a w next Q :=
  ⟨fun _ _ => trivial, by rw [show (FW ro).round = ro from rfl, Oper.semAt_eq _ _ _ hd]; exact upon_in (h next Q hk)⟩
theorem steps_opsIn {E : Env} {ops : Array Oper} {Q : Exit → Act → World → Prop} {ro : Option Nat} (hok : regionOk E.n ops = true) (hnd : noDefer ops = true) {l : List Oper} {fs : Trail} {T T' : Tm} {H H' : Heap} (hs : Steps E.P ops l T H fs T' H') :
    ∀ (k : Nat) (rest : List Nat), (∀ j, j < l.length → l[j]? = ops[k + j]?) → (∀ a w, Rep E T' H' a w → wpOpsIn (FW ro) 0 E.P ops Q rest a w) → ∀ a w, Rep E T H a w → wpOpsIn (FW ro) 0 E.P ops Q (List.range' k l.length ++ rest) a w := by
  induction hs with
  | nil => exact fun k rest _ hk a w hr => hk a w hr
  | @cons o r T H H1 v F M fs T' H' hg h _ ih =>
    intro k rest hl hk a w hr
    have h0 : ops[k]? = some o := by have := hl 0 (by simp); simpa using this.symm
    rw [List.length_cons, List.range'_succ, List.cons_append]
    obtain ⟨ρ, W, p, hn, hT, hE⟩ := hr
    have hw := hg.wanted (ρ := ρ) (a := a) (fun j b t e1 e2 => ⟨hT t, by rw [p.size]; exact regionOk_guard hok j t e2⟩)
    simp only [wpOpsIn, h0, hw, if_true]
    exact gives_in (noDefer_op hnd h0) (rep_lok h (regionOk_op hok h0) ⟨ρ, W, p, hn, hT, hE⟩) fun v' w' hr' => ih (k + 1) rest (fun j hj => by have := hl (j + 1) (by simpa using hj); simpa [Nat.add_assoc, Nat.add_comm 1 j] using this) hk _ _ hr'
  | @skip o r T H F fs T' H' hg _ ih =>
    intro k rest hl hk a w hr
    have h0 : ops[k]? = some o := by have := hl 0 (by simp); simpa using this.symm
    rw [List.length_cons, List.range'_succ, List.cons_append]
    obtain ⟨ρ, W, p, hn, hT, hE⟩ := hr
    have hw := hg.wanted (ρ := ρ) (a := a) (fun j b t e1 e2 => ⟨hT t, by rw [p.size]; exact regionOk_guard hok j t e2⟩)
    have hopk := regionOk_op hok h0
    simp only [wpOpsIn, h0, hw, Bool.false_eq_true, if_false]
    refine ⟨fun _ _ => trivial, ih (k + 1) rest (fun j hj => by have := hl (j + 1) (by simpa using hj); simpa [Nat.add_assoc, Nat.add_comm 1 j] using this) hk _ _ ⟨ρ, W, ⟨p.le, p.rep, (put_size _ _ _).trans p.size, (by rw [put_defers]; exact p.defs), p.fr, p.sub, p.fresh, p.fzn, p.old⟩, hn, hT.put (fun i hi => by rw [p.size]; exact opOk_dst hopk i hi) trivial, hE⟩⟩

def WpI (ro : Option Nat) (E : Env) (c : Code) (T : Tm) (H : Heap) (Q : Exit → Tm → Heap → Prop) : Prop :=
  ∀ a w, Rep E T H a w → c.wpIn (FW ro) 0 E.P (fun e a' w' => ∃ T' H', Q e T' H' ∧ Rep E T' H' a' w') a w
section code
variable {ro : Option Nat} {E : Env} {T : Tm} {H : Heap} {Q : Exit → Tm → Heap → Prop}
theorem i_skip (h : Q .normal T H) : WpI ro E .skip T H Q := fun _ _ hr => wpIn_skip ⟨T, H, h, hr⟩
theorem i_exit {i : Nat} (h : Q (.exit i) T H) : WpI ro E (.exit i) T H Q := fun _ _ hr => wpIn_exit ⟨T, H, h, hr⟩
theorem i_seq {x y : Code} (h : WpI ro E x T H (Thn (fun T H => WpI ro E y T H Q) Q)) : WpI ro E (.seq x y) T H Q := by
  intro a w hr
  refine wpIn_seq (wpIn_mono (h a w hr) ?_)
  rintro e a' w' ⟨T', H', h1, h2⟩
  cases e with
  | normal => exact h1 a' w' h2
  | exit i => exact ⟨T', H', h1, h2⟩
  | goto l => exact ⟨T', H', h1, h2⟩
  | ret => exact ⟨T', H', h1, h2⟩
  | panic ch => exact ⟨T', H', h1, h2⟩
  | outgrown => exact ⟨T', H', h1, h2⟩
theorem i_block {i : Nat} {c : Code} (h : WpI ro E c T H (Blo i Q)) : WpI ro E (.block i c) T H Q := by
  intro a w hr
  refine wpIn_block (wpIn_mono (h a w hr) ?_)
  rintro e a' w' ⟨T', H', h1, h2⟩
  cases e with
  | normal => exact ⟨T', H', h1, h2⟩
  | exit j =>
    simp only [Exit.inBlock]
    simp only [Blo] at h1
    split <;> rename_i hj
    · rw [if_pos hj] at h1; exact ⟨T', H', h1, h2⟩
    · rw [if_neg hj] at h1; exact ⟨T', H', h1, h2⟩
  | goto l => exact ⟨T', H', h1, h2⟩
  | ret => exact ⟨T', H', h1, h2⟩
  | panic ch => exact ⟨T', H', h1, h2⟩
  | outgrown => exact ⟨T', H', h1, h2⟩
theorem i_cond {t : Nat} {x y : Code} {b : Bool} (hc : look T t = .s (.bool b)) (h1 : b = true → WpI ro E x T H Q) (h2 : b = false → WpI ro E y T H Q) : WpI ro E (.cond (.tmp t) x y) T H Q := by
  intro a w hr
  have hr' := hr
  obtain ⟨ρ, W, p, hn, hT, _⟩ := hr
  exact wpIn_cond_split (eval_tmp hT hc) (fun e => h1 e a w hr') (fun e => h2 e a w hr')
theorem i_reg {id : Nat} {ops : Array Oper} {l : List Oper} (hok : regionOk E.n ops = true) (hnd : noDefer ops = true) (hl : ops.toList = l) (h : SK E.P ops l T H (fun _ => True) (Q .normal)) : WpI ro E (.region id ops false) T H Q := by
  obtain ⟨fs, T', H', hs, _, hq⟩ := h
  subst hl
  intro a w hr
  refine wpIn_region ?_
  have := steps_opsIn (ro := ro) (Q := fun e a' w' => ∃ T' H', Q e T' H' ∧ Rep E T' H' a' w') hok hnd hs 0 [] (fun j _ => by simp) (fun a w hr => ⟨T', H', hq, hr⟩) a w hr
  simpa [List.range_eq_range'] using this
theorem i_regY {id : Nat} {ops : Array Oper} {l1 l2 : List Oper} {y : Oper} (k : Nat) (hok : regionOk E.n ops = true) (hnd : noDefer ops = true) (hk : ops[k]? = some y) (hl1 : ops.toList.take k = l1) (hl2 : ops.toList.drop (k + 1) = l2) (hg : y.guard = none)
    (h1 : SK E.P ops l1 T H (fun _ => True) fun T1 H1 => ∃ T2 H2, (∀ a w, Rep E T1 H1 a w → ∀ (K : Act → World → Prop) (Q' : Exit → Act → World → Prop), (∀ a' w', Rep E T2 H2 a' w' → K a' w') → y.wpIn (FW ro) 0 E.P a w K Q') ∧ SK E.P ops l2 T2 H2 (fun _ => True) (Q .normal)) : WpI ro E (.region id ops false) T H Q := by
  obtain ⟨fs, T1, H1, hs, _, T2, H2, hy, fs2, T3, H3, hs2, _, hq⟩ := h1
  intro a w hr
  refine wpIn_region ?_
  have hks : k < ops.size := (Array.getElem?_eq_some_iff.1 hk).1
  have e1 : l1.length = k := by rw [← hl1, List.length_take, Array.length_toList]; omega
  have e2 : l2.length = ops.size - (k + 1) := by rw [← hl2, List.length_drop, Array.length_toList]
  have hr0 : List.range ops.size = List.range' 0 l1.length ++ k :: (List.range' (k + 1) l2.length ++ []) := by
    rw [List.range_eq_range', e1, e2, List.append_nil]
    have : ops.size = k + (1 + (ops.size - (k + 1))) := by omega
    rw [this, ← List.range'_append_1, Nat.zero_add, Nat.add_comm 1, List.range'_succ]
    congr 3
    omega
  rw [hr0]
  refine steps_opsIn hok hnd hs 0 _ (fun j hj => ?_) (fun a w hr => ?_) a w hr
  · rw [← hl1, List.getElem?_take_of_lt (by omega), Nat.zero_add]; simp
  · have hw : Region.wanted y (yielded ops a.tmps) = true := by simp [Region.wanted, hg]
    simp only [wpOpsIn, hk, hw, if_true]
    refine hy a w hr _ _ fun a' w' hr' => ?_
    refine steps_opsIn (Q := fun e a' w' => ∃ T' H', Q e T' H' ∧ Rep E T' H' a' w') hok hnd hs2 (k + 1) [] (fun j hj => ?_) (fun a w hr => ⟨T3, H3, hq, hr⟩) a' w' hr'
    rw [← hl2, List.getElem?_drop]; simp
theorem i_loop {c : Code} (I : Nat → Tm → Heap → Prop) (n0 : Nat) {T' : Tm} {H' : Heap} (h0 : I n0 T' H') (hw : Weak E T H T' H')
    (round : ∀ n T H, I n T H → WpI ro E c T H (Thn (fun T1 H1 => ∃ n', n' < n ∧ ∃ T2 H2, Weak E T1 H1 T2 H2 ∧ I n' T2 H2) Q)) : WpI ro E (.loop c) T H Q := by
  intro a w hr
  let J : Nat → Act → World → Prop := fun n a w => ∃ T H, I n T H ∧ Rep E T H a w
  refine wpIn_loop (fun a w => ∃ n, J n a w) (fun a w => leastOf (fun n => J n a w)) ⟨n0, T', H', h0, hw a w hr⟩ ?_
  intro a w hI
  obtain ⟨T, H, hI', hr⟩ := (leastOf_spec hI).1
  refine wpIn_mono (round _ T H hI' a w hr) ?_
  rintro e a' w' ⟨T1, H1, h1, h2⟩
  cases e with
  | normal =>
    obtain ⟨n', hlt, T2, H2, hw2, hI2⟩ := h1
    have hJ : J n' a' w' := ⟨T2, H2, hI2, hw2 _ _ h2⟩
    exact ⟨⟨n', hJ⟩, Nat.lt_of_le_of_lt ((leastOf_spec ⟨n', hJ⟩).2 n' hJ) hlt⟩
  | exit i => exact ⟨T1, H1, h1, h2⟩
  | goto l => exact ⟨T1, H1, h1, h2⟩
  | ret => exact ⟨T1, H1, h1, h2⟩
  | panic ch => exact ⟨T1, H1, h1, h2⟩
  | outgrown => exact ⟨T1, H1, h1, h2⟩
theorem ni_wp {y : Code} (h : WpI ro E y T H Q) : Thn (fun T H => WpI ro E y T H Q) Q .normal T H := h
end code
def roundT (ps : List Tmp) (vs : List AV) (T : Tm) : Tm := (ps.zip vs).foldl (fun t p => (p.1, p.2) :: t) T
def YRound (P : Program) (n : Nat) (assign body : Code) (T : Tm) (H H' : Heap) : Prop :=
  H.length ≤ H'.length ∧ ∃ Ta, ∀ (l : Nat) (E : Env), E.P = P → E.n = n → E.nE = H.length → WpI (some l) E assign T H (fun e T1 H1 => e = .normal ∧ Weak E T1 H1 Ta H) ∧ WpI (some l) E body Ta H (fun e T1 H1 => e = .normal ∧ Weak E T1 H1 [] H')
theorem HRep.put {W : Nat → Prop} {ρ : Rho} {h : Nat → Option Blk} {w : World} (hH : HRep W ρ h w) {l : Nat} {o : Obj} (o' : Obj) (hl : w.heap[l]? = some o) (ho : o.isCells = false) : HRep W ρ h (w.putObj l o') := by
  have hne : ∀ {b : Nat} {cs : Array Value} {t : TypeId} {fr : Nat × Nat}, w.heap[b]? = some (.cells cs t fr) → b ≠ l := by
    intro b cs t fr h e
    subst e
    rw [hl] at h
    cases h
    exact absurd ho (by simp [Obj.isCells])
  refine ⟨fun id b off e => by simpa using hH.lt id b off e, fun id b off k e hk => ?_, hH.apart, fun b cs e => ?_, fun b n e => ?_⟩
  · have hr := hH.rep id b off k e hk
    obtain ⟨cells, t, fr, g1, _⟩ := hr.1
    exact ⟨hr.1.world (World.putObj_heap_other (hne g1)), hr.2⟩
  · obtain ⟨q1, t, fr, q2⟩ := hH.fz b cs e
    exact ⟨q1, t, fr, by rw [World.putObj_heap_other (hne q2)]; exact q2⟩
  · obtain ⟨cs, t, fr, q1, q2⟩ := hH.sz b n e
    exact ⟨cs, t, fr, by rw [World.putObj_heap_other (hne q1)]; exact q1, q2⟩
theorem TRep.foldl {ρ : Rho} : ∀ (ps : List Tmp) (avs : List AV) (vs : List Value) (T : Tm) (t : Array Value), (∀ p ∈ ps, p < t.size) → ps.length = avs.length → avs.length = vs.length → TRep ρ T { tmps := t, defers := [] } → (∀ (i : Nat) (x : AV) (v : Value), avs[i]? = some x → vs[i]? = some v → x.rep ρ v) →
    TRep ρ (roundT ps avs T) { tmps := (ps.zip vs).foldl (fun t p => t.setIfInBounds p.1 p.2) t, defers := [] }
  | [], _, _, T, t, _, _, _, h, _ => h
  | p :: ps, [], _, _, _, _, h1, _, _, _ => by simp at h1
  | p :: ps, x :: avs, [], _, _, _, _, h2, _, _ => by simp at h2
  | p :: ps, x :: avs, v :: vs, T, t, hp, h1, h2, h, hv => by
    simp only [roundT, List.zip_cons_cons, List.foldl_cons]
    refine TRep.foldl ps avs vs ((p, x) :: T) (t.setIfInBounds p v) (fun q hq => by simpa using hp q (by simp [hq])) (by simpa using h1) (by simpa using h2) ?_ (fun i y u h3 h4 => hv (i + 1) y u (by simpa using h3) (by simpa using h4))
    have := TRep.put (d := some p) (a := { tmps := t, defers := [] }) h (fun i hi => by cases hi; exact hp p (by simp)) (hv 0 x v rfl rfl)
    exact this
theorem foldl_size (ps : List (Tmp × Value)) (t : Array Value) : (ps.foldl (fun t p => t.setIfInBounds p.1 p.2) t).size = t.size := by
  induction ps generalizing t with
  | nil => rfl
  | cons p r ih => rw [List.foldl_cons, ih]; simp
theorem round_in {P : Program} {n l : Nat} {fn : FuncId} {assign body : Code} {T : Tm} {H H' : Heap} {ps : Array Tmp} {avs : List AV} {vs : Array Value} {W : Nat → Prop} {ρ : Rho} {w : World} {tm : Array Value} {D : Nat}
    (hY : YRound P n assign body (roundT ps.toList avs T) H H') (hH : HRep W ρ (hget H) w) (hdom : ∀ id, H.length ≤ id → ρ.m id = none) (hW : ∀ b, w.heap.size ≤ b → W b) (hT : TRep ρ T { tmps := tm, defers := [] }) (hn : tm.size = n)
    (hl : w.heap[l]? = some (.loop { state := .ready, pending := none, fn, tmps := tm, params := ps, assign, body, defers := D })) (hps : ∀ p ∈ ps.toList, p < n) (hlen : ps.toList.length = avs.length) (hvs : avs.length = vs.toList.length) (hv : ∀ (i : Nat) (x : AV) (v : Value), avs[i]? = some x → vs.toList[i]? = some v → x.rep ρ v) :
    RoundIn (FW none) 0 P l fn ((ps.zip vs).foldl (fun tmps (t, a) => tmps.setIfInBounds t a) tm) assign body w fun e w' => e = .returned (.bool true) ∧ ∃ ρ' W', Nx H.length H'.length ρ ρ' W W' (hget H') w w' ∧ ∀ id, H'.length ≤ id → ρ'.m id = none := by
  obtain ⟨hHH, Ta, hY⟩ := hY
  let E1 : Env := ⟨P, W, w, ρ, n, H.length, hW, hdom, [], false⟩
  obtain ⟨hA, _⟩ := hY l E1 rfl rfl rfl
  refine roundIn_of_wpIn (F := FW none) trivial ?_
  have htm : (ps.zip vs).foldl (fun tmps (t, a) => tmps.setIfInBounds t a) tm = (ps.toList.zip vs.toList).foldl (fun t p => t.setIfInBounds p.1 p.2) tm := by
    rw [← Array.foldl_toList, Array.toList_zip]
  rw [htm]
  have hrep : Rep E1 (roundT ps.toList avs T) H { tmps := (ps.toList.zip vs.toList).foldl (fun t p => t.setIfInBounds p.1 p.2) tm, defers := [] } w :=
    ⟨ρ, W, ⟨.refl _, hH, by rw [foldl_size]; exact hn, DefT.nil _ _ _ _, .refl _ _, fun _ h => h, hW, fun _ _ h => .inl h, fun _ _ h => .inl h⟩, hdom, TRep.foldl _ _ _ T tm (fun p hp => by rw [hn]; exact hps p hp) hlen hvs hT hv, Nat.le_refl _⟩
  refine wpIn_mono (hA _ w hrep) ?_
  rintro e a1 w1 ⟨T1, H1, ⟨rfl, hwk⟩, hr1⟩
  obtain ⟨ρ1, W1, p1, hn1, hT1, _⟩ := hwk a1 w1 hr1
  have hl1 := p1.fr.others l _ hl rfl
  have hlt1 : l < w1.heap.size := (Array.getElem?_eq_some_iff.1 hl1).1
  refine ⟨_, run_beginRound hl1 rfl, ?_⟩
  have hltw : l < w.heap.size := (Array.getElem?_eq_some_iff.1 hl).1
  obtain ⟨busy, hbusy⟩ : ∃ busy : Obj, busy = .loop { state := .busy, pending := none, fn, tmps := tm, params := ps, assign, body, defers := D } := ⟨_, rfl⟩
  rw [← hbusy]
  let wz : World := w.putObj l busy
  let w2 : World := w1.putObj l busy
  have hl2 : wz.heap[l]? = some busy := World.putObj_heap_same hltw
  have hWz : ∀ b, wz.heap.size ≤ b → W b := fun b hb => hW b (by simpa [wz] using hb)
  let E2 : Env := ⟨P, W, wz, ρ, n, H.length, hWz, hdom, [], false⟩
  obtain ⟨_, hB⟩ := hY l E2 rfl rfl rfl
  have hpo : ∀ (u : World) k, k ≠ l → (u.putObj l busy).heap[k]? = u.heap[k]? := fun u k hk => World.putObj_heap_other hk
  have k7 : Fr W w w1 := p1.fr
  have hF2 : Fr W wz w2 := ⟨k7.os, k7.tape, k7.output, by have := k7.size; simpa [wz, w2] using this, fun k hk hnn => by
      by_cases hkl : k = l
      · subst hkl
        show (w1.putObj k busy).heap[k]? = (w.putObj k busy).heap[k]?
        rw [World.putObj_heap_same hlt1, World.putObj_heap_same hltw]
      · show (w1.putObj l busy).heap[k]? = (w.putObj l busy).heap[k]?
        rw [hpo _ _ hkl, hpo _ _ hkl]; exact k7.block k (by simpa [wz] using hk) hnn, fun k x hk hc => by
      by_cases hkl : k = l
      · subst hkl
        rw [hl2] at hk
        cases hk
        exact World.putObj_heap_same hlt1
      · have hk : (w.putObj l busy).heap[k]? = some x := hk
        rw [hpo _ _ hkl] at hk
        show (w1.putObj l busy).heap[k]? = some x
        rw [hpo _ _ hkl]; exact k7.others k x hk hc, fun k cs t fr hk => by
      have hkl : k ≠ l := by intro e; subst e; rw [hl2, hbusy] at hk; cases hk
      have hk : (w.putObj l busy).heap[k]? = _ := hk
      rw [hpo _ _ hkl] at hk
      show ∃ cs' t' fr', (w1.putObj l busy).heap[k]? = _ ∧ _
      rw [hpo _ _ hkl]; exact k7.sizes k cs t fr hk⟩
  have q1 : DefOk w a1.defers w1 := DefT.flat0 p1.defs
  have hd1 : DefT wz [] false a1.defers w2 := ⟨a1.defers, by simp, ⟨q1.nodup, fun d hd => by
    obtain ⟨D', e1, e2, e3⟩ := q1.mark d hd
    refine ⟨D', e1, by simpa [wz] using e2, ?_⟩
    show (w1.putObj l busy).heap[D']? = _
    rw [hpo _ _ (by intro e; subst e; rw [hl1] at e3; cases e3)]; exact e3⟩, fun h => by cases h⟩
  refine wpIn_mono (hB a1 w2 ⟨ρ1, W1, ⟨p1.le, p1.rep.put _ hl1 rfl, p1.size, hd1, hF2, p1.sub, fun b hb => p1.fresh b (by simpa [w2] using hb), p1.fzn, p1.old⟩, hn1, hT1, Nat.le_refl _⟩) ?_
  rintro e a3 w3 ⟨T3, H3, ⟨rfl, hwk3⟩, hr3⟩
  obtain ⟨ρ3, W3, p3, hn3, _, _⟩ := hwk3 a3 w3 hr3
  have hl3 := p3.fr.others l _ hl2 (by rw [hbusy]; rfl)
  have hlt3 : l < w3.heap.size := (Array.getElem?_eq_some_iff.1 hl3).1
  rw [hbusy] at hl3
  have m7 : Fr W wz w3 := p3.fr
  refine ⟨_, _, run_endRound none hl3, rfl, ρ3, W3, ⟨p3.le, fun id x e => ?_, p3.rep.put _ hl3 rfl, ?_, p3.sub, fun b hb => p3.fresh b (by simpa using hb), p3.fzn⟩, hn3⟩
  · rcases p3.old id x e with h4 | h4
    · exact .inl h4
    · refine .inr ⟨h4.1, ?_, h4.2⟩
      rcases Nat.lt_or_ge id H'.length with h5 | h5
      · exact h5
      · rw [hn3 id h5] at e; cases e
  -- what was ready is ready again
  refine ⟨m7.os, m7.tape, m7.output, by have := m7.size; simpa [wz] using this, fun k hk hnn => ?_, fun k x hk hc => ?_, fun k cs t fr hk => ?_⟩
  · by_cases hkl : k = l
    · subst hkl
      rw [hl]; exact World.putObj_heap_same hlt3
    · rw [World.putObj_heap_other hkl, m7.block k (by simpa [wz] using hk) hnn]
      exact hpo _ _ hkl
  · by_cases hkl : k = l
    · subst hkl
      rw [hl] at hk
      cases hk
      exact World.putObj_heap_same hlt3
    · rw [World.putObj_heap_other hkl]
      refine m7.others k x ?_ hc
      show (w.putObj l busy).heap[k]? = some x
      rw [hpo _ _ hkl]; exact hk
  · have hkl : k ≠ l := by intro e; subst e; rw [hl] at hk; cases hk
    rw [World.putObj_heap_other hkl]
    refine m7.sizes k cs t fr ?_
    show (w.putObj l busy).heap[k]? = _
    rw [hpo _ _ hkl]; exact hk
end Go.Bx
end

section
/- The call that asks for a round; the loop over a function. No program. -/
namespace Go.Bx
theorem yield_op {E : Env} {T1 Trow : Tm} {H H' : Heap} {d t n l D : Nat} {xs : Array Operand} {at_ : Array TypeId} {ty : TypeId} {pos : String} {af : Array Edge} {avs : List AV} {fn : FuncId} {assign body : Code} {ps : Array Tmp} {tm : Array Value}
    (ht : look T1 t = .s (.val (.func (.yield l) #[] #[]))) (hxs : xs.toList.map (ev T1) = avs) (hok : opOk E.n ⟨some d, .call ⟨.value (.tmp t), xs, at_⟩, ty, pos, af, none⟩ = true)
    (hrec : E.w0.heap[l]? = some (.loop { state := .ready, pending := none, fn, tmps := tm, params := ps, assign, body, defers := D })) (hTr : TRep E.ρ0 Trow { tmps := tm, defers := [] }) (htm : tm.size = n)
    (hps : ∀ p ∈ ps.toList, p < n) (hlen : ps.toList.length = avs.length) (hY : YRound E.P n assign body (roundT ps.toList avs Trow) H H') :
    ∀ a w, Rep E T1 H a w → ∀ (K : Act → World → Prop) (Q' : Exit → Act → World → Prop), (∀ a' w', Rep E ((d, .s (.bool true)) :: T1) H' a' w' → K a' w') → Oper.wpIn (FW none) 0 E.P ⟨some d, .call ⟨.value (.tmp t), xs, at_⟩, ty, pos, af, none⟩ a w K Q' := by
  intro a w ⟨ρ, W, p, hno, hT, hE⟩ K Q' hK
  refine ⟨fun _ _ => trivial, ?_⟩
  have hev : a.eval (.tmp t) = .func (.yield l) #[] #[] := by
    have := hT t
    rw [ht] at this
    exact this.1
  have hops := opOk_ops hok hT
  have hl := p.fr.others l _ hrec rfl
  have hsz : (xs.map a.eval).size = ps.size := by
    have := congrArg List.length hxs
    simp at this
    simp; rw [this, ← hlen]; simp
  have hrun : ((Oper.semAt (FW none).round a.eval ⟨some d, .call ⟨.value (.tmp t), xs, at_⟩, ty, pos, af, none⟩).run E.P w) = .ok (.round l fn ((ps.zip (xs.map a.eval)).foldl (fun tmps (t, a) => tmps.setIfInBounds t a) tm) assign body) w := by
    rw [show (FW none).round = none from rfl, Oper.semAt_none]
    have hy := run_yield (P := E.P) (args := xs.map a.eval) hl hsz
    simp only [execOp, resolve]
    rw [hev]
    simp only [Deferred.ofValue, Array.empty_append, Sem.run_bind, Sem.run_pure, Result.andThen_ok, invoke]
    exact hy
  rw [hrun]
  refine ⟨fun e => (by cases e), ?_⟩
  refine (round_in hY p.rep hno p.fresh (hTr.le p.le) htm hl hps hlen (by have := congrArg List.length hxs; simpa using this.symm) (fun i x v hx hv => ?_)).mono ?_
  · subst hxs
    simp only [List.getElem?_map, Option.map_eq_some_iff] at hx
    obtain ⟨y, hy, rfl⟩ := hx
    have hy' : xs[i]? = some y := by simpa using hy
    have hv' : v = a.eval y := by
      have : (xs.map a.eval).toList[i]? = some (a.eval y) := by simp [hy']
      rw [this] at hv
      exact (Option.some.inj hv).symm
    subst hv'
    refine hops y ?_
    simp only [Op.operands, Call.operands]
    exact Array.mem_append.2 (.inr (Array.mem_of_getElem? hy'))
  · rintro e w' ⟨rfl, ρ', W', k, hno'⟩
    exact hK _ _ ⟨ρ', W', p.nx (d := some d) hE k, hno', TRep.put (d := some d) (hT.le k.le) (fun i hi => by rw [p.size]; exact opOk_dst hok i hi) (show (AV.s (SV.bool true)).rep ρ' (.bool true) from rfl), Nat.le_trans hE hY.1⟩
def Iter (E : Env) (gf n : Nat) (q : Nat → SV) (ps : Array Tmp) (assign body : Code) (T : Tm) (H Hend : Heap) : Prop :=
  ∀ (l D : Nat) (ρ : Rho) (W : Nat → Prop) (tm : Array Value) (w1 : World) (fn : FuncId) (vs : Array Value), HRep W ρ (hget H) w1 → (∀ id, H.length ≤ id → ρ.m id = none) → TRep ρ T { tmps := tm, defers := [] } → tm.size = E.n → (∀ b, w1.heap.size ≤ b → W b) →
    w1.heap[l]? = some (.loop { state := .ready, pending := none, fn, tmps := tm, params := ps, assign, body, defers := D }) →
    (vs.size = n ∧ ∀ i, i < n → ∃ u, vs[i]? = some u ∧ (q i).rep ρ u) →
    Calls E.P gf (#[.func (.yield l) #[] #[]] ++ vs) w1 fun e w' => (∃ v, e = .returned v) ∧ ∃ ρ' W', Nx H.length Hend.length ρ ρ' W W' (hget Hend) w1 w' ∧ ∀ id, Hend.length ≤ id → ρ'.m id = none
theorem w_rangeFunc {E : Env} {T : Tm} {H Hend : Heap} {Q : Exit → Tm → Heap → Prop} {t gf n : Nat} {q : Nat → SV} {ps : Array Tmp} {assign body : Code} (hfl : E.flat = false) (ht : look T t = .s (.clo gf n q)) (hgf : Callable E.P gf) (hle : H.length ≤ Hend.length) (hit : Iter E gf n q ps assign body T H Hend) (hq : Q .normal T Hend) : Wp E (.rangeFunc (.tmp t) ps assign body) T H Q := by
  intro a w ⟨ρ, W, p, hno, hT, hE⟩
  refine (wpIn_wide (n := 0)).1 (wpIn_rangeFunc ?_)
  intro fn _
  have hx := hT t
  rw [ht] at hx
  obtain ⟨vs, e1, e2, e3⟩ := hx
  have hev : a.eval (.tmp t) = .func (.func gf) #[] vs := e1
  obtain ⟨rec, hrec⟩ : ∃ rec : Loop, rec = { state := .ready, pending := none, fn, tmps := a.tmps, params := ps, assign, body, defers := w.heap.size } := ⟨_, rfl⟩
  obtain ⟨W1, hW1⟩ : ∃ W1, (w.alloc (.deferred (some []))).alloc (.loop rec) = W1 := ⟨_, rfl⟩
  have hx1 : Ext w W1 := by rw [← hW1]; exact (Ext.alloc w _).trans (Ext.alloc _ _)
  have hs1 : W1.heap.size = w.heap.size + 2 := by rw [← hW1]; simp
  have hL1 : W1.heap[w.heap.size + 1]? = some (.loop rec) := by
    rw [← hW1]; have := World.alloc_heap_new (w.alloc (.deferred (some []))) (.loop rec); rwa [World.size_alloc] at this
  have hK1 : W1.heap[w.heap.size]? = some (.deferred (some [])) := by
    rw [← hW1]; exact (Go.RowKit.Below.heap_alloc _ _ _ (by simp)).trans (World.alloc_heap_new w _)
  refine ⟨w.heap.size + 1, [{ target := .collected w.heap.size, args := #[] }], W1, { target := .fn (.func gf) vs, args := #[.func (.yield (w.heap.size + 1)) #[] #[]] }, W1, gf, #[.func (.yield (w.heap.size + 1)) #[] #[]] ++ vs, W1, ?_, ?_, ?_, ?_, fun e => (by cases e), ?_⟩
  · rw [← hW1, hrec]; exact run_enterLoop_outer _ _ _ _ _
  · simp only [resolve, hev]
    simp [Deferred.ofValue]
    rfl
  · intro f' _; trivial
  · simp [invoke, Sem.run_bind, run_callFunc hgf]
  · have hc := hit (w.heap.size + 1) w.heap.size ρ W a.tmps W1 fn vs (p.rep.ext hx1) hno (fun i => hT i) p.size (fun b hb => p.fresh b (by omega)) (by rw [hL1, hrec]) ⟨e2, e3⟩
    refine ((callsIn_wide (n := 0 - 1)).2 hc).mono ?_
    rintro e w2 ⟨⟨v, rfl⟩, ρ', W', k, hno'⟩
    have m4 := k.fr
    have hl2 := m4.others _ _ hL1 rfl
    have hk2 := m4.others _ _ hK1 rfl
    have hlt2 : w.heap.size + 1 < w2.heap.size := (Array.getElem?_eq_some_iff.1 hl2).1
    have hne : ∀ {b : Nat} {cs : Array Value} {t : TypeId} {fr : Nat × Nat}, w2.heap[b]? = some (.cells cs t fr) → b ≠ w.heap.size + 1 := by
      intro b cs t fr h e; subst e; rw [hl2] at h; cases h
    refine ⟨none, _, by have := run_endLoop (P := E.P) hl2 (by rw [hrec]; simp); rw [show rec.pending = none by rw [hrec]] at this; exact this, ?_⟩
    have hsz := p.fr.size
    have hf : Fr W w w2 := ⟨m4.os.trans hx1.os, m4.tape.trans hx1.tape, m4.output.trans hx1.output, by have := m4.size; omega, fun j hj hnn => by rw [m4.block j (by omega) hnn]; exact (hx1.fr W).block j hj hnn, fun j o hj hc => m4.others j o (hx1.obj hj) hc, fun j cs t fr hj => m4.sizes j cs t fr (hx1.obj hj)⟩
    obtain ⟨ms, hms, hd0, _⟩ := p.defs.ex
    have hnx := p.nx (d := none) (v := .bool true) hE (⟨k.le, k.old, k.rep, hf, k.sub, k.fresh, k.fzn⟩ : Nx H.length Hend.length ρ ρ' W W' (hget Hend) w w2)
    refine ⟨T, Hend, hq, ρ', W', ⟨hnx.le, k.rep.put _ hl2 rfl, p.size, ⟨_ :: ms, by rw [hms]; rfl, ⟨?_, fun d hd => ?_⟩, fun h => by rw [hfl] at h; cases h⟩, ?_, hnx.sub, fun b hb => k.fresh b (by simpa using hb), hnx.fzn, hnx.old⟩, hno', fun i => AV.rep_le k.le (hT i), Nat.le_trans hE hle⟩
    · refine List.nodup_cons.2 ⟨fun hm => ?_, hd0.nodup⟩
      obtain ⟨D', f1, f2, f3⟩ := hd0.mark _ hm
      cases f1
      have := (Array.getElem?_eq_some_iff.1 f3).1
      omega
    · rcases List.mem_cons.1 hd with rfl | hd
      · exact ⟨w.heap.size, rfl, hsz, by rw [World.putObj_heap_other (by omega)]; exact hk2⟩
      · obtain ⟨D', f1, f2, f3⟩ := hd0.mark d hd
        have := (Array.getElem?_eq_some_iff.1 f3).1
        exact ⟨D', f1, f2, by rw [World.putObj_heap_other (by omega)]; exact m4.others _ _ (hx1.obj f3) rfl⟩
    · have hf := hnx.fr
      refine ⟨hf.os, hf.tape, hf.output, by simpa using hf.size, fun j hj hn => ?_, fun j o hj hc => ?_, fun j cs t fr hj => ?_⟩
      · rw [World.putObj_heap_other (by omega)]; exact hf.block j hj hn
      · have := (Array.getElem?_eq_some_iff.1 hj).1
        rw [World.putObj_heap_other (by omega)]; exact hf.others j o hj hc
      · have := (Array.getElem?_eq_some_iff.1 hj).1
        rw [World.putObj_heap_other (by omega)]; exact hf.sizes j cs t fr hj
end Go.Bx
namespace Go.Bx
theorem wrap_i64 {x : Int} (h : -9223372036854775808 ≤ x ∧ x < 9223372036854775808) : IntKind.i64.wrap x = x := by
  unfold IntKind.wrap; simp [IntKind.bits, IntKind.signed]; omega
theorem calls_none {P : Program} {f : FuncId} {fn : Func} {c : Code} {args : List AV} {H H' : Heap} {W : Nat → Prop} {ρ : Rho} {vals : Array Value} {w : World} (n : Nat) (hf : P.funcs[f]? = some fn) (hb : fn.body = some c) (hn : fn.ntmps = n) (hr : fn.results = #[]) (hl : args.length ≤ n)
    (hH : HRep W ρ (hget H) w) (hdom : ∀ id, H.length ≤ id → ρ.m id = none) (hW : ∀ b, w.heap.size ≤ b → W b) (hargs : ArgsRep ρ args vals)
    (h : ∀ E : Env, E.P = P → E.n = n → E.nE = H.length → E.w0 = w → E.ρ0 = ρ → WpI none E c (argT 0 args) H fun e T1 H1 => (e = .ret ∨ e = .normal) ∧ Weak E T1 H1 [] H') :
    Calls P f vals w fun e w' => (∃ v, e = .returned v) ∧ ∃ ρ' W', Nx H.length H'.length ρ ρ' W W' (hget H') w w' ∧ ∀ id, H'.length ≤ id → ρ'.m id = none := by
  subst hn
  let E : Env := ⟨P, W, w, ρ, fn.ntmps, H.length, hW, hdom, [], false⟩
  refine (callsIn_wide (n := 0)).1 (callsIn_of_wp_marks hf hb trivial (wpIn_mono (h E rfl rfl rfl rfl rfl _ w ⟨ρ, W, ⟨.refl _, hH, ?_, DefT.nil _ _ _ _, .refl _ _, fun _ h => h, hW, fun _ _ h => .inl h, fun _ _ h => .inl h⟩, hdom, fun t => ?_, Nat.le_refl _⟩) ?_))
  · have := hargs.1
    show _ = fn.ntmps
    simp; omega
  · rw [look_argT, if_pos (Nat.zero_le _), Nat.sub_zero]
    cases hx : args[t]? with
    | none => trivial
    | some x =>
      have hlt : t < vals.size := by
        rw [hargs.1]
        exact (List.getElem?_eq_some_iff.1 hx).1
      have := hargs.2 t x hx
      simp only [Option.getD_some]
      simp only [Array.getD_eq_getD_getElem?] at this ⊢
      rw [Array.getElem?_append_left hlt]
      exact this
  · rintro e a' w' ⟨T, H1, ⟨he, hwk⟩, hrep⟩
    obtain ⟨ρ', W', p, hno, hT, _⟩ := hwk a' w' hrep
    have hl : LeavesInM Fence.wide 0 P fn a'.tmps (fun e w' => (∃ v, e = .returned v) ∧ ∃ ρ' W', Nx H.length H'.length ρ ρ' W W' (hget H') w w' ∧ ∀ id, H'.length ≤ id → ρ'.m id = none) a'.defers .returning w' := by
      refine leaves_marks (w0 := w) (Φ := fun w2 => HRep W' ρ' (hget H') w2 ∧ Fr W w w2 ∧ ∀ b, w2.heap.size ≤ b → W' b) (fun w2 D ⟨h1, h2, h3⟩ hD hd => ⟨hrep_mark h1 hd, fr_mark h2 hD, fun b hb => h3 b (by simpa using hb)⟩) (fun w2 ⟨h1, h2, h3⟩ => ⟨.tuple #[], by simp [results, hr, Sem.run_bind], ⟨_, rfl⟩, ρ', W', ⟨p.le, fun id x e => ?_, h1, h2, p.sub, h3, p.fzn⟩, hno⟩) a'.defers w' (DefT.flat0 p.defs) ⟨p.rep, p.fr, p.fresh⟩
      rcases p.old id x e with h4 | h4
      · exact .inl h4
      · refine .inr ⟨h4.1, ?_, h4.2⟩
        rcases Nat.lt_or_ge id H'.length with h5 | h5
        · exact h5
        · rw [hno id h5] at e; cases e
    rcases he with rfl | rfl
    · exact hl
    · exact hl
section
variable {ro : Option Nat} {E : Env} {P : Program} {T : Tm} {H : Heap} {Q : Exit → Tm → Heap → Prop}
theorem ig_reg {n : Nat} (hP : E.P = P) (hn : E.n = n) {id : Nat} {ops : Array Oper} {l : List Oper} (h : SK P ops l T H (fun _ => True) (Q .normal)) (hok : regionOk n ops = true := by kernel_rfl) (hnd : noDefer ops = true := by kernel_rfl) (hl : ops.toList = l := by rfl) : WpI ro E (.region id ops false) T H Q := by subst hP; subst hn; exact i_reg hok hnd hl h
theorem iw_if {t : Nat} {x y : Code} {p : Prop} [Decidable p] (hc : look T t = .s (.bool (decide p))) (h1 : p → WpI ro E x T H Q) (h2 : ¬ p → WpI ro E y T H Q) : WpI ro E (.cond (.tmp t) x y) T H Q := i_cond hc (fun h => h1 (of_decide_eq_true h)) (fun h => h2 (of_decide_eq_false h))
theorem iw_F {t : Nat} {x y : Code} (hc : look T t = .s (.bool false)) (h : WpI ro E y T H Q) : WpI ro E (.cond (.tmp t) x y) T H Q := i_cond hc (fun e => by cases e) (fun _ => h)
end
end Go.Bx
namespace Go.Bx
section
variable {P : Program} {T : Tm} {H : Heap} {d : Option Tmp} {ty : TypeId} {pos : String} {af : Array Edge} {g : Option (Nat × Bool)}
theorem a_copy0 {x y : Operand} {t tx e rt : TypeId} {id base idx dl dc m : Nat} {u : SV} [hu : Und P t (.slice e)] [hs : Sz P e 1] (hx : ev T x = .s (.slice id base idx dl dc) := by rfl) (hy : ev T y = .s u := by rfl) (hl : u.len = some m := by rfl) (hm : min m dl = 0 := by first | omega | (simp; omega)) :
    LOk P ⟨d, .call ⟨.builtin .copy, #[x, y], #[t, tx]⟩, rt, pos, af, g⟩ T H H (.s (.int .i64 ((0 : Nat) : Int))) [] [] :=
  lok_pure fun ρ a w ho => by
    have k1 : (ev T x).rep ρ (a.eval x) := ho x (by simp [Op.operands, Call.operands])
    have k2 : (ev T y).rep ρ (a.eval y) := ho y (by simp [Op.operands, Call.operands])
    rw [hx] at k1
    rw [hy] at k2
    obtain ⟨b, o, hρ, k1⟩ := k1
    obtain ⟨aa, c, k2⟩ := len_val hl k2
    refine ⟨.int .i64 0, ?_, rfl⟩
    have hmin : Nat.min m dl = 0 := hm
    have hf : (Builtin.firstCells 1 0 (.slice aa m c)).run P w = .ok #[] w := by
      cases aa with
      | none => simp [Builtin.firstCells]
      | some ad => exact run_firstCells_some w 1 0 ad m c [] (by simp) (fun j v hj => by simp at hj)
    simp [execOp, resolve, invoke, builtin, k1, k2, Builtin.copy_, Sem.run_bind, run_underlying hu.h, Builtin.lenOf, hs.h, hmin, hm, hf, goInt, storeCells]
end
end Go.Bx
namespace Go.Bx
def AllEq (T : Tm) : Tm → Prop
  | [] => True
  | (i, v) :: r => look T i = v ∧ AllEq T r
theorem allEq {T T' : Tm} (h : AllEq T T') : ∀ p ∈ T', look T p.1 = p.2 := by
  induction T' with
  | nil => intro p hp; cases hp
  | cons q r ih =>
    intro p hp
    cases hp with
    | head => exact h.1
    | tail _ hm => exact ih h.2 p hm
theorem weak_tm {E : Env} {T T' : Tm} {H : Heap} (h : AllEq T T' := by repeat (first | exact trivial | refine ⟨rfl, ?_⟩)) : Weak E T H T' H := by
  rintro a w ⟨ρ, W, p, hn, hT, hE⟩
  refine ⟨ρ, W, p, hn, fun i => ?_, hE⟩
  rcases look_mem T' i with h1 | ⟨q, hq, rfl, h1⟩
  · rw [h1]; trivial
  · rw [h1, ← allEq h q hq]; exact hT q.1
end Go.Bx
namespace Go.Bx
section
variable {E : Env} {P : Program} {T : Tm} {H : Heap}
theorem d_retw {fn : Func} {v v0 : AV} {H' : Heap} {e : Exit} {n : Nat} (hP : E.P = P) (hn : E.n = n) (hr : Ret P fn T H v0) (hw : Weak E ((0, v0) :: T) H [(0, v)] H') (h0 : Nat.blt 0 n = true := by rfl) (he : e = .ret ∨ e = .normal := by first | exact .inl rfl | exact .inr rfl) : DoneD E fn v H' e T H := by
  subst hP; subst hn; exact ⟨he, 0, v0, Nat.blt_eq.mp h0, hr, hw⟩
end
end Go.Bx
namespace Go.Bx
theorem conv_slz {H : Heap} {id base idx cap : Nat} {k : IntKind} : AConv [] H (.s (.slice id base idx 0 cap)) (.s (.fzi k [])) := fun _ _ _ _ _ _ _ ⟨_, _, _, h⟩ => .inl ⟨rfl, _, _, h⟩
end Go.Bx
namespace Go.Bx
section
variable {P : Program} {T : Tm} {H : Heap} {d : Option Tmp} {ty : TypeId} {pos : String} {af : Array Edge} {g : Option (Nat × Bool)}
theorem k_slf {t e : TypeId} {x : Operand} {n : Nat} {k : IntKind} {xs : List Int} [hu : Und P t (.array n e)] [hs : Sz P e 1] (hx : ev T x = .s (.fptr n (cellsF [.ints k n xs]) 0 0) := by rfl) (hl : xs.length = n := by first | assumption | exact spl_len _ _ _ _ _ | simp [*]) : LOk P ⟨d, .slice t x none none none, ty, pos, af, g⟩ T H H (.s (.fzi k xs)) [] [] :=
  l_slf (l := 0) (h := n) (m := n) (xs := xs) hx rfl rfl rfl rfl hu.h hs.h (Nat.zero_le _) (Nat.le_refl _) (Nat.le_refl _) (by omega) (fun i hi => by
    have h := segAt_at (l := [Seg.ints k n xs]) (b := 0) (s := .ints k n xs) rfl i hi
    unfold cellsF
    rw [show 0 + 0 + i = 0 + i by omega, h]; rfl) hl (by rw [List.drop_zero, Nat.sub_zero, ← hl, List.take_length])
end
end Go.Bx
namespace Go.Bx
section
variable {P : Program} {T : Tm} {H : Heap} {d : Option Tmp} {ty : TypeId} {pos : String} {af : Array Edge} {g : Option (Nat × Bool)}
end
end Go.Bx
end

section
/- What the program's sums compute, on lists. No program. -/
open Go Go.Bx
namespace Go.Proofs.X
def z (n : Nat) : List Int := List.replicate n 0
theorem z_len (n : Nat) : (z n).length = n := List.length_replicate
theorem wrap_u64_nonneg (x : Int) : 0 ≤ IntKind.u64.wrap x := by
  unfold IntKind.wrap
  simp [IntKind.bits, IntKind.signed]
  omega
def rs (k : Int) : Int := andK .u64 (IntKind.u64.wrap k) 31
theorem rs_nonneg (k : Int) : 0 ≤ rs k := wrap_u64_nonneg _
def rotI (x k : Int) : Int := orK .u32 (shlK .u32 x (rs k)) (shrK .u32 x (IntKind.u64.wrap (32 - rs k)))
def dnI (x : Int) (ps : List Int) : Nat → Int
  | 0 => 0
  | i + 1 => xorK .u32 (dnI x ps i) (rotI x (IntKind.i64.wrap (0 - ps.getD i 0)))
def KS : List Int := [1116352408, 1899447441, 3049323471, 3921009573, 961987163, 1508970993, 2453635748, 2870763221, 3624381080, 310598401, 607225278, 1426881987, 1925078388, 2162078206, 2614888103, 3248222580, 3835390401, 4022224774, 264347078, 604807628, 770255983, 1249150122, 1555081692, 1996064986, 2554220882, 2821834349, 2952996808, 3210313671, 3336571891, 3584528711, 113926993, 338241895, 666307205, 773529912, 1294757372, 1396182291, 1695183700, 1986661051, 2177026350, 2456956037, 2730485921, 2820302411, 3259730800, 3345764771, 3516065817, 3600352804, 4094571909, 275423344, 430227734, 506948616, 659060556, 883997877, 958139571, 1322822218, 1537002063, 1747873779, 1955562222, 2024104815, 2227730452, 2361852424, 2428436474, 2756734187, 3204031479, 3329325298]
def gI (w : List Int) : Nat → Int
  | 0 => 0
  | i + 1 => IntKind.u64.wrap (IntKind.u64.wrap (256 * gI w i) + IntKind.u64.wrap (w.getD i 0))
def getI (B : List Int) (m : Nat) : Int := gI (spl (z 8) (B.take m) (8 - m) m 8) 8
theorem spl_len (xs ys : List Int) (i n m : Nat) : (spl xs ys i n m).length = m := by simp [spl]
def wn1 (w : List Int) (t : Nat) : List Int := w.set (t % 16) (IntKind.u32.wrap (w.getD (t % 16) 0 + xorK .u32 (dnI (w.getD ((t + 1) % 16) 0) [7, 18] 2) (shrK .u32 (w.getD ((t + 1) % 16) 0) 3)))
def wn2 (w : List Int) (zz : Int) (t : Nat) : List Int := w.set (t % 16) (IntKind.u32.wrap (w.getD (t % 16) 0 + xorK .u32 (dnI zz [17, 19] 2) (shrK .u32 zz 10)))
def wn3 (w : List Int) (t : Nat) : List Int := w.set (t % 16) (IntKind.u32.wrap (w.getD (t % 16) 0 + w.getD ((t + 9) % 16) 0))
def wn (b w : List Int) (t : Nat) : List Int :=
  if t < 16 then w.set (t % 16) (IntKind.u32.wrap (getI ((b.drop (4 * t)).take (64 - 4 * t)) 4))
  else wn3 (wn2 (wn1 w t) (w.getD ((t + 14) % 16) 0) t) t
theorem wn_len (b w : List Int) (t : Nat) : (wn b w t).length = w.length := by
  unfold wn wn1 wn2 wn3; split <;> simp
theorem wn_lt (b w : List Int) {t : Nat} (h : t < 16) : wn b w t = w.set (t % 16) (IntKind.u32.wrap (getI ((b.drop (4 * t)).take (64 - 4 * t)) 4)) := if_pos h
theorem wn_ge (b w : List Int) {t : Nat} (h : ¬ t < 16) : wn b w t = wn3 (wn2 (wn1 w t) (w.getD ((t + 14) % 16) 0) t) t := if_neg h
def ws (b : List Int) : Nat → List Int
  | 0 => z 16
  | i + 1 => wn b (ws b i) i
theorem ws_len (b : List Int) (i : Nat) : (ws b i).length = 16 := by
  induction i with
  | zero => exact z_len _
  | succ i ih => rw [ws, wn_len, ih]
def comK (k : IntKind) (m : Int) : Int := xorK k (if k.signed then -1 else k.max) m
def rP (l : List Int) (k x : Int) : Int := IntKind.u32.wrap (IntKind.u32.wrap (IntKind.u32.wrap (IntKind.u32.wrap (l.getD 7 0 + dnI (l.getD 4 0) [6, 11, 25] 3) + orK .u32 (andK .u32 (l.getD 4 0) (l.getD 5 0)) (andK .u32 (comK .u32 (l.getD 4 0)) (l.getD 6 0))) + k) + x)
def rQ (l : List Int) : Int := IntKind.u32.wrap (dnI (l.getD 0 0) [2, 13, 22] 3 + xorK .u32 (andK .u32 (l.getD 0 0) (xorK .u32 (l.getD 1 0) (l.getD 2 0))) (andK .u32 (l.getD 1 0) (l.getD 2 0)))
def rS (l : List Int) : List Int := spl l ((l.drop 0).take 7) (0 + 1) 7 8
def rnd (l : List Int) (k x : Int) : List Int := ((rS l).set 4 (IntKind.u32.wrap ((rS l).getD 4 0 + rP l k x))).set 0 (IntKind.u32.wrap (rP l k x + rQ l))
theorem rnd_len (l : List Int) (k x : Int) : (rnd l k x).length = 8 := by simp [rnd, rS, spl]
def ls (s b : List Int) : Nat → List Int
  | 0 => s
  | i + 1 => rnd (ls s b i) (KS.getD i 0) ((ws b (i + 1)).getD (i % 16) 0)
theorem ls_len (s b : List Int) (h : s.length = 8) (i : Nat) : (ls s b i).length = 8 := by
  cases i with
  | zero => exact h
  | succ i => exact rnd_len _ _ _
def fin (s l : List Int) : Nat → List Int
  | 0 => l
  | i + 1 => (fin s l i).set i (IntKind.u32.wrap ((fin s l i).getD i 0 + s.getD i 0))
theorem fin_len (s l : List Int) (i : Nat) : (fin s l i).length = l.length := by
  induction i with
  | zero => rfl
  | succ i ih => simp [fin, ih]
def aft (s b : List Int) : List Int := fin s (ls s b 64) 8
theorem aft_len (s b : List Int) (h : s.length = 8) : (aft s b).length = 8 := (fin_len _ _ _).trans (ls_len _ _ h _)
abbrev RUN (s b : List Int) (n l : Int) : List Seg := [.one (.fptr 8 (cellsF [.ints .u32 8 s]) 0 0), .ints .u8 64 b, .one (.int .i64 n), .one (.int .u64 l)]
end Go.Proofs.X
end

section
/- What is literal is what it says: two operands, both literal, and what the model makes of them. No program. -/
namespace Go.Bx
def SV.litV : SV → Option Value
  | .int k n => some (.int k n)
  | .bool b => some (.bool b)
  | .nilp => some (.pointer none)
  | .nils => some (.slice none 0 0)
  | .val u => some u
  | _ => none
def litVS : List Seg → Option (List Value)
  | [] => some []
  | .one v :: r => match v.litV, litVS r with
    | some x, some l => some (x :: l)
    | _, _ => none
  | .ints k n l :: r => match litVS r with
    | some q => some ((List.range n).map (fun i => Value.int k (l.getD i 0)) ++ q)
    | none => none
  | .rows .. :: _ => none
def AV.litV : AV → Option Value
  | .s v => v.litV
  | .agg l => (litVS l).map fun c => .agg c.toArray
  | .tup _ => none
theorem SV.litV_eq {ρ : Rho} {x : SV} {u v : Value} (h : x.litV = some u) (hr : x.rep ρ v) : v = u := by
  cases x <;> simp only [SV.litV, Option.some.injEq, reduceCtorEq] at h <;> subst h <;> first | exact hr | exact hr.1
theorem litVS_at : ∀ {l : List Seg} {c : List Value}, litVS l = some c → c.length = sizeS l ∧ ∀ (i : Nat), i < sizeS l → ∃ x u, atS l i = some x ∧ x.litV = some u ∧ c[i]? = some u
  | [], c, h => by
    simp only [litVS, Option.some.injEq] at h
    subst h
    exact ⟨rfl, fun i hi => absurd hi (Nat.not_lt_zero i)⟩
  | .one v :: r, c, h => by
    simp only [litVS] at h
    split at h
    · rename_i x l hx hl
      simp only [Option.some.injEq] at h
      subst h
      obtain ⟨h1, h2⟩ := litVS_at hl
      refine ⟨by simp [sizeS, Seg.size, h1]; omega, fun i hi => ?_⟩
      match i with
      | 0 => exact ⟨v, x, by simp [atS, Seg.size, Seg.at], hx, rfl⟩
      | i + 1 =>
        obtain ⟨y, u, k1, k2, k3⟩ := h2 i (by simp only [sizeS, Seg.size] at hi; omega)
        exact ⟨y, u, by simp [atS, Seg.size, k1], k2, by simpa using k3⟩
    · simp at h
  | .ints k n l :: r, c, h => by
    simp only [litVS] at h
    split at h
    · rename_i q hl
      simp only [Option.some.injEq] at h
      subst h
      obtain ⟨h1, h2⟩ := litVS_at hl
      refine ⟨by simp [sizeS, Seg.size, h1], fun i hi => ?_⟩
      have hs : (Seg.ints k n l).size = n := rfl
      by_cases h3 : i < n
      · exact ⟨.int k (l.getD i 0), .int k (l.getD i 0), by rw [atS, hs, if_pos h3]; rfl, rfl, by rw [List.getElem?_append_left (by simpa using h3)]; simp [h3]⟩
      · obtain ⟨y, u, k1, k2, k3⟩ := h2 (i - n) (by simp only [sizeS, hs] at hi; omega)
        exact ⟨y, u, by rw [atS, hs, if_neg h3]; exact k1, k2, by rw [List.getElem?_append_right (by simp; omega)]; simpa using k3⟩
    · simp at h
  | .rows .. :: r, c, h => by simp [litVS] at h
theorem AV.litV_eq {ρ : Rho} {x : AV} {u v : Value} (h : x.litV = some u) (hr : x.rep ρ v) : v = u := by
  cases x with
  | s x => exact SV.litV_eq h hr
  | agg l =>
    simp only [AV.litV, Option.map_eq_some_iff] at h
    obtain ⟨c, hc, rfl⟩ := h
    obtain ⟨h1, h2⟩ := litVS_at hc
    obtain ⟨cs, rfl, hs, hr⟩ := hr
    congr 1
    apply Array.ext_getElem?
    intro i
    by_cases hi : i < sizeS l
    · obtain ⟨x, u, k1, k2, k3⟩ := h2 i hi
      obtain ⟨y, k4, k5, _⟩ := hr i x k1
      have := SV.litV_eq k2 k5
      subst this
      simp only at k4
      rw [k4, List.getElem?_toArray, k3]
    · rw [Array.getElem?_eq_none (by omega), List.getElem?_toArray, List.getElem?_eq_none (by omega)]
  | tup l => simp [AV.litV] at h
section rules
variable {P : Program} {T : Tm} {H : Heap} {d : Option Tmp} {ty : TypeId} {pos : String} {af : Array Edge} {g : Option (Nat × Bool)}
end rules
end Go.Bx
end

section
/- Several steps at once, as a walk types them. -/
open Go
namespace Go.Bx
section
variable {P : Program} {ops : Array Oper} {T : Tm} {H H1 H2 H3 H4 H5 H6 : Heap} {v1 v2 v3 v4 v5 v6 : AV} {F1 F2 F3 F4 F5 F6 M1 M2 M3 M4 M5 M6 : List Nat} {d1 d2 d3 d4 d5 d6 : Nat} {p1 p2 p3 p4 p5 p6 : Op} {t1 t2 t3 t4 t5 t6 : TypeId} {s1 s2 s3 s4 s5 s6 : String} {a1 a2 a3 a4 a5 a6 : Array Edge} {r : List Oper} {ok : Trail → Prop} {K : Tm → Heap → Prop}
theorem oo {o : Oper} (h : LOk P o T H H1 v1 F1 M1 := by first | exact k_mv | exact k_as | exact k_ld | exact k_ex | exact k_fa | exact k_al | exact k_add | exact k_ix | exact k_len | exact k_pk | exact k_lss | exact k_eql | exact k_nc | exact k_not | exact k_cv | exact k_mul | exact k_shr | exact k_sub | exact k_neq | exact k_gtr | exact k_rem | exact k_and | exact k_geq | exact k_quo | exact k_leq | exact k_shl | exact k_or | exact k_xor) : LOk P o T H H1 v1 F1 M1 := h
theorem o2 (k : SK P ops r ((d2, v2) :: (d1, v1) :: T) H2 (fun fs => ok ((F1, M1, H1.length - H.length) :: (F2, M2, H2.length - H1.length) :: fs)) K)
    (h1 : LOk P ⟨some d1, p1, t1, s1, a1, none⟩ T H H1 v1 F1 M1 := by exact oo) (h2 : LOk P ⟨some d2, p2, t2, s2, a2, none⟩ ((d1, v1) :: T) H1 H2 v2 F2 M2 := by exact oo) : SK P ops (⟨some d1, p1, t1, s1, a1, none⟩ :: ⟨some d2, p2, t2, s2, a2, none⟩ :: r) T H ok K := s_op h1 (s_op h2 k)
theorem o3 (k : SK P ops r ((d3, v3) :: (d2, v2) :: (d1, v1) :: T) H3 (fun fs => ok ((F1, M1, H1.length - H.length) :: (F2, M2, H2.length - H1.length) :: (F3, M3, H3.length - H2.length) :: fs)) K)
    (h1 : LOk P ⟨some d1, p1, t1, s1, a1, none⟩ T H H1 v1 F1 M1 := by exact oo) (h2 : LOk P ⟨some d2, p2, t2, s2, a2, none⟩ ((d1, v1) :: T) H1 H2 v2 F2 M2 := by exact oo) (h3 : LOk P ⟨some d3, p3, t3, s3, a3, none⟩ ((d2, v2) :: (d1, v1) :: T) H2 H3 v3 F3 M3 := by exact oo) : SK P ops (⟨some d1, p1, t1, s1, a1, none⟩ :: ⟨some d2, p2, t2, s2, a2, none⟩ :: ⟨some d3, p3, t3, s3, a3, none⟩ :: r) T H ok K := o2 (s_op h3 k) h1 h2
theorem o4 (k : SK P ops r ((d4, v4) :: (d3, v3) :: (d2, v2) :: (d1, v1) :: T) H4 (fun fs => ok ((F1, M1, H1.length - H.length) :: (F2, M2, H2.length - H1.length) :: (F3, M3, H3.length - H2.length) :: (F4, M4, H4.length - H3.length) :: fs)) K)
    (h1 : LOk P ⟨some d1, p1, t1, s1, a1, none⟩ T H H1 v1 F1 M1 := by exact oo) (h2 : LOk P ⟨some d2, p2, t2, s2, a2, none⟩ ((d1, v1) :: T) H1 H2 v2 F2 M2 := by exact oo) (h3 : LOk P ⟨some d3, p3, t3, s3, a3, none⟩ ((d2, v2) :: (d1, v1) :: T) H2 H3 v3 F3 M3 := by exact oo) (h4 : LOk P ⟨some d4, p4, t4, s4, a4, none⟩ ((d3, v3) :: (d2, v2) :: (d1, v1) :: T) H3 H4 v4 F4 M4 := by exact oo) : SK P ops (⟨some d1, p1, t1, s1, a1, none⟩ :: ⟨some d2, p2, t2, s2, a2, none⟩ :: ⟨some d3, p3, t3, s3, a3, none⟩ :: ⟨some d4, p4, t4, s4, a4, none⟩ :: r) T H ok K := o3 (s_op h4 k) h1 h2 h3
end
section
variable {E : Env} {P : Program} {T : Tm} {H : Heap} {Q : Exit → Tm → Heap → Prop} {ops' : Array Oper}
theorem qx {n : Nat} (hP : E.P = P) (hn : E.n = n) {id : Nat} {ops : Array Oper} {l : List Oper} {y : Code} {ok : Trail → Prop} (h : SK P ops l T H (fun _ => True) (Thn (fun T H => Wp E y T H Q) Q .normal)) (ho : ok [] := by trivial) (hok : regionOk n ops = true := by kernel_rfl) (hl : ops.toList = l := by rfl) : SK P ops' [] T H ok (Thn (fun T H => Wp E (.seq (.region id ops false) y) T H Q) Q .normal) :=
  s_nil ho (n_wp (w_seq (g_reg hP hn h hok hl)))
theorem qy {n : Nat} (hP : E.P = P) (hn : E.n = n) {id : Nat} {ops : Array Oper} {l : List Oper} {ok : Trail → Prop} (h : SK P ops l T H (fun _ => True) (Q .normal)) (ho : ok [] := by trivial) (hok : regionOk n ops = true := by kernel_rfl) (hl : ops.toList = l := by rfl) : SK P ops' [] T H ok (Thn (fun T H => Wp E (.region id ops false) T H Q) Q .normal) :=
  s_nil ho (n_wp (g_reg hP hn h hok hl))
theorem qz {n : Nat} (hP : E.P = P) (hn : E.n = n) {id : Nat} {ops : Array Oper} {l : List Oper} {y : Code} (h : SK P ops l T H (fun _ => True) (Thn (fun T H => Wp E y T H Q) Q .normal)) (hok : regionOk n ops = true := by kernel_rfl) (hl : ops.toList = l := by rfl) : Wp E (.seq (.region id ops false) y) T H Q := w_seq (g_reg hP hn h hok hl)
end
end Go.Bx
end

section
/- The types and functions of sums, as instances. -/
open Go Go.Bx Go.Proofs
namespace Go.Proofs.X
instance : Mix Tryz.prog := ⟨by kernel_rfl⟩
instance : Clb Tryz.prog 152 := ⟨_, Tryz.func152, by kernel_rfl, rfl⟩
instance : Clb Tryz.prog 143 := ⟨_, Tryz.func143, by kernel_rfl, rfl⟩
instance : Clb Tryz.prog 31 := ⟨_, Tryz.func31, by kernel_rfl, rfl⟩
instance : Clb Tryz.prog 142 := ⟨_, Tryz.func142, by kernel_rfl, rfl⟩
instance : Clb Tryz.prog 141 := ⟨_, Tryz.func141, by kernel_rfl, rfl⟩
instance : Clb Tryz.prog 151 := ⟨_, Tryz.func151, by kernel_rfl, rfl⟩
instance : Clb Tryz.prog 125 := ⟨_, Tryz.func125, by kernel_rfl, rfl⟩
instance : Clb Tryz.prog 98 := ⟨_, Tryz.func98, by kernel_rfl, rfl⟩
instance : Clb Tryz.prog 99 := ⟨_, Tryz.func99, by kernel_rfl, rfl⟩
instance : Clb Tryz.prog 106 := ⟨_, Tryz.func106, by kernel_rfl, rfl⟩
instance : Clb Tryz.prog 101 := ⟨_, Tryz.func101, by kernel_rfl, rfl⟩
instance : Clb Tryz.prog 104 := ⟨_, Tryz.func104, by kernel_rfl, rfl⟩
instance : Und Tryz.prog 3 (.int .i64) := ⟨Tryz.underlying3⟩
instance : Sz Tryz.prog 3 1 := ⟨Tryz.sizeOf3⟩
instance : Ag Tryz.prog 3 false := ⟨Tryz.isAgg3⟩
instance : Zv Tryz.prog 3 [.one (.int .i64 0)] := ⟨_, Tryz.zeroValue3, by kernel_rfl⟩
instance : Zi Tryz.prog 3 .i64 := ⟨Tryz.zeroValue3⟩
instance : Inf Tryz.prog 3 Tryz.t3 := ⟨by kernel_rfl⟩
instance : Und Tryz.prog 5 (.int .u8) := ⟨Tryz.underlying5⟩
instance : Sz Tryz.prog 5 1 := ⟨Tryz.sizeOf5⟩
instance : Ag Tryz.prog 5 false := ⟨Tryz.isAgg5⟩
instance : Zv Tryz.prog 5 [.one (.int .u8 0)] := ⟨_, Tryz.zeroValue5, by kernel_rfl⟩
instance : Zi Tryz.prog 5 .u8 := ⟨Tryz.zeroValue5⟩
instance : Inf Tryz.prog 5 Tryz.t5 := ⟨by kernel_rfl⟩
instance : Und Tryz.prog 22 (.int .u64) := ⟨Tryz.underlying22⟩
instance : Sz Tryz.prog 22 1 := ⟨Tryz.sizeOf22⟩
instance : Ag Tryz.prog 22 false := ⟨Tryz.isAgg22⟩
instance : Zv Tryz.prog 22 [.one (.int .u64 0)] := ⟨_, Tryz.zeroValue22, by kernel_rfl⟩
instance : Zi Tryz.prog 22 .u64 := ⟨Tryz.zeroValue22⟩
instance : Inf Tryz.prog 22 Tryz.t22 := ⟨by kernel_rfl⟩
instance : Und Tryz.prog 28 (.array 32 5) := ⟨Tryz.underlying28⟩
instance : Sz Tryz.prog 28 32 := ⟨Tryz.sizeOf28⟩
instance : Ag Tryz.prog 28 true := ⟨Tryz.isAgg28⟩
instance : Zv Tryz.prog 28 [.ints .u8 32 (zs (List.replicate 32 0))] := ⟨_, Tryz.zeroValue28, by kernel_rfl⟩
instance : Zb Tryz.prog 28 .u8 32 := ⟨_, Tryz.zeroValue28, by kernel_rfl⟩
instance : Inf Tryz.prog 28 Tryz.t28 := ⟨by kernel_rfl⟩
instance : Und Tryz.prog 34 (.int .u32) := ⟨Tryz.underlying34⟩
instance : Sz Tryz.prog 34 1 := ⟨Tryz.sizeOf34⟩
instance : Ag Tryz.prog 34 false := ⟨Tryz.isAgg34⟩
instance : Zv Tryz.prog 34 [.one (.int .u32 0)] := ⟨_, Tryz.zeroValue34, by kernel_rfl⟩
instance : Zi Tryz.prog 34 .u32 := ⟨Tryz.zeroValue34⟩
instance : Inf Tryz.prog 34 Tryz.t34 := ⟨by kernel_rfl⟩
instance : Und Tryz.prog 53 (.slice 5) := ⟨Tryz.underlying53⟩
instance : Sz Tryz.prog 53 1 := ⟨Tryz.sizeOf53⟩
instance : Ag Tryz.prog 53 false := ⟨Tryz.isAgg53⟩
instance : Zv Tryz.prog 53 [.one .nils] := ⟨_, Tryz.zeroValue53, by kernel_rfl⟩
instance : Zn Tryz.prog 53 := ⟨Tryz.zeroValue53⟩
instance : Inf Tryz.prog 53 Tryz.t53 := ⟨by kernel_rfl⟩
instance : Und Tryz.prog 126 (.array 8 5) := ⟨Tryz.underlying126⟩
instance : Sz Tryz.prog 126 8 := ⟨Tryz.sizeOf126⟩
instance : Ag Tryz.prog 126 true := ⟨Tryz.isAgg126⟩
instance : Zv Tryz.prog 126 [.ints .u8 8 (zs (List.replicate 8 0))] := ⟨_, Tryz.zeroValue126, by kernel_rfl⟩
instance : Zb Tryz.prog 126 .u8 8 := ⟨_, Tryz.zeroValue126, by kernel_rfl⟩
instance : Inf Tryz.prog 126 Tryz.t126 := ⟨by kernel_rfl⟩
instance : Und Tryz.prog 127 (.int .u64) := ⟨Tryz.underlying127⟩
instance : Sz Tryz.prog 127 1 := ⟨Tryz.sizeOf127⟩
instance : Ag Tryz.prog 127 false := ⟨Tryz.isAgg127⟩
instance : Zv Tryz.prog 127 [.one (.int .u64 0)] := ⟨_, Tryz.zeroValue127, by kernel_rfl⟩
instance : Zi Tryz.prog 127 .u64 := ⟨Tryz.zeroValue127⟩
instance : Inf Tryz.prog 127 Tryz.t127 := ⟨by kernel_rfl⟩
instance : Und Tryz.prog 160 (.slice 53) := ⟨Tryz.underlying160⟩
instance : Sz Tryz.prog 160 1 := ⟨Tryz.sizeOf160⟩
instance : Ag Tryz.prog 160 false := ⟨Tryz.isAgg160⟩
instance : Zv Tryz.prog 160 [.one .nils] := ⟨_, Tryz.zeroValue160, by kernel_rfl⟩
instance : Zn Tryz.prog 160 := ⟨Tryz.zeroValue160⟩
instance : Inf Tryz.prog 160 Tryz.t160 := ⟨by kernel_rfl⟩
instance : Und Tryz.prog 178 (.pointer 215) := ⟨Tryz.underlying178⟩
instance : Sz Tryz.prog 178 1 := ⟨Tryz.sizeOf178⟩
instance : Ag Tryz.prog 178 false := ⟨Tryz.isAgg178⟩
instance : Zv Tryz.prog 178 [.one .nilp] := ⟨_, Tryz.zeroValue178, by kernel_rfl⟩
instance : Inf Tryz.prog 178 Tryz.t178 := ⟨by kernel_rfl⟩
instance : Und Tryz.prog 185 (.array 64 5) := ⟨Tryz.underlying185⟩
instance : Sz Tryz.prog 185 64 := ⟨Tryz.sizeOf185⟩
instance : Ag Tryz.prog 185 true := ⟨Tryz.isAgg185⟩
instance : Zv Tryz.prog 185 [.ints .u8 64 (zs (List.replicate 64 0))] := ⟨_, Tryz.zeroValue185, by kernel_rfl⟩
instance : Zb Tryz.prog 185 .u8 64 := ⟨_, Tryz.zeroValue185, by kernel_rfl⟩
instance : Inf Tryz.prog 185 Tryz.t185 := ⟨by kernel_rfl⟩
instance : Und Tryz.prog 209 (.pointer 211) := ⟨Tryz.underlying209⟩
instance : Sz Tryz.prog 209 1 := ⟨Tryz.sizeOf209⟩
instance : Ag Tryz.prog 209 false := ⟨Tryz.isAgg209⟩
instance : Zv Tryz.prog 209 [.one .nilp] := ⟨_, Tryz.zeroValue209, by kernel_rfl⟩
instance : Inf Tryz.prog 209 Tryz.t209 := ⟨by kernel_rfl⟩
instance : Und Tryz.prog 211 (.array 8 34) := ⟨Tryz.underlying211⟩
instance : Sz Tryz.prog 211 8 := ⟨Tryz.sizeOf211⟩
instance : Ag Tryz.prog 211 true := ⟨Tryz.isAgg211⟩
instance : Zv Tryz.prog 211 [.ints .u32 8 (zs (List.replicate 8 0))] := ⟨_, Tryz.zeroValue211, by kernel_rfl⟩
instance : Zb Tryz.prog 211 .u32 8 := ⟨_, Tryz.zeroValue211, by kernel_rfl⟩
instance : Inf Tryz.prog 211 Tryz.t211 := ⟨by kernel_rfl⟩
instance : Und Tryz.prog 213 (.struct #[{ name := "b", type := 185, offset := 0, embedded := false, tag := "", pkgPath := "burrow/shas", byteOffset := 0 }, { name := "many", type := 3, offset := 64, embedded := false, tag := "", pkgPath := "burrow/shas", byteOffset := 64 }]) := ⟨Tryz.underlying213⟩
instance : Sz Tryz.prog 213 65 := ⟨Tryz.sizeOf213⟩
instance : Ag Tryz.prog 213 true := ⟨Tryz.isAgg213⟩
instance : Zv Tryz.prog 213 [.ints .u8 64 (zs (List.replicate 64 0)), .one (.int .i64 0)] := ⟨_, Tryz.zeroValue213, by kernel_rfl⟩
instance : FldC Tryz.prog 213 0 0 := ⟨_, _, _, Tryz.underlying213, rfl, Tryz.sizeOf185, by decide, rfl⟩
instance : FldC Tryz.prog 213 1 64 := ⟨_, _, _, Tryz.underlying213, rfl, Tryz.sizeOf3, by decide, rfl⟩
instance : Pl Tryz.prog 213 #[(0, 64), (64, 1)] := ⟨_, Tryz.underlying213, fun w => by kernel_rfl⟩
instance : Inf Tryz.prog 213 Tryz.t213 := ⟨by kernel_rfl⟩
instance : Und Tryz.prog 215 (.struct #[{ name := "s", type := 209, offset := 0, embedded := false, tag := "", pkgPath := "burrow/shas", byteOffset := 0 }, { name := "x", type := 213, offset := 1, embedded := false, tag := "", pkgPath := "burrow/shas", byteOffset := 8 }, { name := "many", type := 22, offset := 66, embedded := false, tag := "", pkgPath := "burrow/shas", byteOffset := 80 }]) := ⟨Tryz.underlying215⟩
instance : Sz Tryz.prog 215 67 := ⟨Tryz.sizeOf215⟩
instance : Ag Tryz.prog 215 true := ⟨Tryz.isAgg215⟩
instance : Zv Tryz.prog 215 [.one .nilp, .ints .u8 64 (zs (List.replicate 64 0)), .one (.int .i64 0), .one (.int .u64 0)] := ⟨_, Tryz.zeroValue215, by kernel_rfl⟩
instance : FldC Tryz.prog 215 0 0 := ⟨_, _, _, Tryz.underlying215, rfl, Tryz.sizeOf209, by decide, rfl⟩
instance : FldC Tryz.prog 215 1 1 := ⟨_, _, _, Tryz.underlying215, rfl, Tryz.sizeOf213, by decide, rfl⟩
instance : FldC Tryz.prog 215 2 66 := ⟨_, _, _, Tryz.underlying215, rfl, Tryz.sizeOf22, by decide, rfl⟩
instance : Pl Tryz.prog 215 #[(0, 1), (1, 65), (66, 1)] := ⟨_, Tryz.underlying215, fun w => by kernel_rfl⟩
instance : Inf Tryz.prog 215 Tryz.t215 := ⟨by kernel_rfl⟩
instance : Und Tryz.prog 217 (.pointer 213) := ⟨Tryz.underlying217⟩
instance : Sz Tryz.prog 217 1 := ⟨Tryz.sizeOf217⟩
instance : Ag Tryz.prog 217 false := ⟨Tryz.isAgg217⟩
instance : Zv Tryz.prog 217 [.one .nilp] := ⟨_, Tryz.zeroValue217, by kernel_rfl⟩
instance : Inf Tryz.prog 217 Tryz.t217 := ⟨by kernel_rfl⟩
instance : Und Tryz.prog 235 (.array 64 34) := ⟨Tryz.underlying235⟩
instance : Sz Tryz.prog 235 64 := ⟨Tryz.sizeOf235⟩
instance : Ag Tryz.prog 235 true := ⟨Tryz.isAgg235⟩
instance : Zv Tryz.prog 235 [.ints .u32 64 (zs (List.replicate 64 0))] := ⟨_, Tryz.zeroValue235, by kernel_rfl⟩
instance : Zb Tryz.prog 235 .u32 64 := ⟨_, Tryz.zeroValue235, by kernel_rfl⟩
instance : Inf Tryz.prog 235 Tryz.t235 := ⟨by kernel_rfl⟩
instance : Und Tryz.prog 238 (.slice 34) := ⟨Tryz.underlying238⟩
instance : Sz Tryz.prog 238 1 := ⟨Tryz.sizeOf238⟩
instance : Ag Tryz.prog 238 false := ⟨Tryz.isAgg238⟩
instance : Zv Tryz.prog 238 [.one .nils] := ⟨_, Tryz.zeroValue238, by kernel_rfl⟩
instance : Zn Tryz.prog 238 := ⟨Tryz.zeroValue238⟩
instance : Inf Tryz.prog 238 Tryz.t238 := ⟨by kernel_rfl⟩
instance : Und Tryz.prog 243 (.array 16 34) := ⟨Tryz.underlying243⟩
instance : Sz Tryz.prog 243 16 := ⟨Tryz.sizeOf243⟩
instance : Ag Tryz.prog 243 true := ⟨Tryz.isAgg243⟩
instance : Zv Tryz.prog 243 [.ints .u32 16 (zs (List.replicate 16 0))] := ⟨_, Tryz.zeroValue243, by kernel_rfl⟩
instance : Zb Tryz.prog 243 .u32 16 := ⟨_, Tryz.zeroValue243, by kernel_rfl⟩
instance : Inf Tryz.prog 243 Tryz.t243 := ⟨by kernel_rfl⟩
instance : Und Tryz.prog 245 (.slice 3) := ⟨Tryz.underlying245⟩
instance : Sz Tryz.prog 245 1 := ⟨Tryz.sizeOf245⟩
instance : Ag Tryz.prog 245 false := ⟨Tryz.isAgg245⟩
instance : Zv Tryz.prog 245 [.one .nils] := ⟨_, Tryz.zeroValue245, by kernel_rfl⟩
instance : Zn Tryz.prog 245 := ⟨Tryz.zeroValue245⟩
instance : Inf Tryz.prog 245 Tryz.t245 := ⟨by kernel_rfl⟩
end Go.Proofs.X
end

section
/- What nums.row computes, on lists. No program. -/
open Go Go.Bx
namespace Go.Proofs.X
def rb (out : List Int) (at_ : Nat) (v : Int) : Nat → List Int × Int
  | 0 => (out, v)
  | j + 1 => ((rb out at_ v j).1.set (at_ - (j + 1)) (IntKind.u8.wrap (rb out at_ v j).2), IntKind.u64.wrap ((rb out at_ v j).2.tdiv 256))
theorem rb_len (out : List Int) (at_ : Nat) (v : Int) (j : Nat) : (rb out at_ v j).1.length = out.length := by
  induction j with
  | zero => rfl
  | succ j ih => simp [rb, ih]
def rr (tot each N : Nat) (ws : List Int) : Nat → List Int
  | 0 => List.replicate tot 0
  | k + 1 => (rb (rr tot each N ws k) (tot - each * k) (ws.getD (N - 1 - k) 0) each).1
theorem rr_len (tot each N : Nat) (ws : List Int) (k : Nat) : (rr tot each N ws k).length = tot := by
  induction k with
  | zero => simp [rr]
  | succ k ih => rw [rr, rb_len, ih]
def rowL (tot : Nat) (B : List Int) (len each N : Nat) (ws : List Int) : List Int := if len = 0 then rr tot each N ws N else spl (rr tot each N ws N) (B.take len) 0 len tot
theorem rowL_len (tot : Nat) (B : List Int) (len each N : Nat) (ws : List Int) : (rowL tot B len each N ws).length = tot := by
  unfold rowL; split
  · exact rr_len _ _ _ _ _
  · exact spl_len _ _ _ _ _
end Go.Proofs.X
end

section
/- Types and functions of rows, as instances. -/
open Go Go.Bx Go.Proofs
namespace Go.Proofs.X
instance : Clb Tryz.prog 107 := ⟨_, Tryz.func107, by kernel_rfl, rfl⟩
instance : Clb Tryz.prog 129 := ⟨_, Tryz.func129, by kernel_rfl, rfl⟩
instance : Clb Tryz.prog 81 := ⟨_, Tryz.func81, by kernel_rfl, rfl⟩
instance : Clb Tryz.prog 52 := ⟨_, Tryz.func52, by kernel_rfl, rfl⟩
instance : Und Tryz.prog 4 (.bool) := ⟨Tryz.underlying4⟩
instance : Sz Tryz.prog 4 1 := ⟨Tryz.sizeOf4⟩
instance : Ag Tryz.prog 4 false := ⟨Tryz.isAgg4⟩
instance : Zv Tryz.prog 4 [.one (.bool false)] := ⟨_, Tryz.zeroValue4, by kernel_rfl⟩
instance : Inf Tryz.prog 4 Tryz.t4 := ⟨by kernel_rfl⟩
instance : Und Tryz.prog 188 (.slice 22) := ⟨Tryz.underlying188⟩
instance : Sz Tryz.prog 188 1 := ⟨Tryz.sizeOf188⟩
instance : Ag Tryz.prog 188 false := ⟨Tryz.isAgg188⟩
instance : Zv Tryz.prog 188 [.one .nils] := ⟨_, Tryz.zeroValue188, by kernel_rfl⟩
instance : Zn Tryz.prog 188 := ⟨Tryz.zeroValue188⟩
instance : Inf Tryz.prog 188 Tryz.t188 := ⟨by kernel_rfl⟩
end Go.Proofs.X
end

section
/- What the program's sums compute of bytes, one by one. No program. -/
open Go Go.Bx
namespace Go.Proofs.X
structure Run where
  s : List Int
  b : List Int
  m : Nat
structure RunOk (q : Run) : Prop where
  s : q.s.length = 8
  b : q.b.length = 64
  m : q.m < 64
def put1 (q : Run) (x : Int) : Run := if q.m + 1 = 64 then ⟨aft q.s (q.b.set q.m x), q.b.set q.m x, 0⟩ else ⟨q.s, q.b.set q.m x, q.m + 1⟩
def tk (q : Run) (l : List Int) : Run := l.foldl put1 q
theorem put1_ok {q : Run} (h : RunOk q) (x : Int) : RunOk (put1 q x) := by
  unfold put1
  split
  · exact ⟨aft_len _ _ h.s, by simpa using h.b, by show 0 < 64; omega⟩
  · exact ⟨h.s, by simpa using h.b, by have := h.m; show q.m + 1 < 64; omega⟩
theorem tk_ok {q : Run} (h : RunOk q) (l : List Int) : RunOk (tk q l) := by
  induction l generalizing q with
  | nil => exact h
  | cons x r ih => exact ih (put1_ok h x)
theorem tk_append (q : Run) (a b : List Int) : tk q (a ++ b) = tk (tk q a) b := List.foldl_append
theorem tk_nil (q : Run) : tk q [] = q := rfl
def chunk (q : Run) (c : List Int) (n : Nat) : Run := if q.m + n = 64 then ⟨aft q.s (spl q.b c (q.m) n 64), spl q.b c (q.m) n 64, 0⟩ else ⟨q.s, spl q.b c (q.m) n 64, q.m + n⟩
theorem eq_getD {a b : List Int} {n : Nat} (ha : a.length = n) (hb : b.length = n) (h : ∀ k, k < n → a.getD k 0 = b.getD k 0) : a = b := by
  apply List.ext_getElem (by omega)
  intro i h1 h2
  have := h i (by omega)
  simpa [List.getD_eq_getElem?_getD, h1, h2] using this
theorem spl_getD (xs ys : List Int) (i n m k : Nat) (hk : k < m) : (spl xs ys i n m).getD k 0 = if i ≤ k ∧ k < i + n then ys.getD (k - i) 0 else xs.getD k 0 := by
  simp [spl, List.getD_eq_getElem?_getD, hk]
theorem tk_chunk (q : Run) (h : RunOk q) (c : List Int) (n : Nat) (hc : c.length = n) (hn : q.m + n ≤ 64) (h0 : 0 < n) : tk q c = chunk q c n := by
  obtain ⟨n, rfl⟩ : ∃ k, n = k + 1 := ⟨n - 1, by omega⟩
  clear h0
  induction n generalizing c with
  | zero =>
    match c, hc with
    | [x], _ =>
      have e : q.b.set q.m x = spl q.b [x] (q.m) (0 + 1) 64 := eq_getD (n := 64) (by simp [h.b]) (spl_len _ _ _ _ _) fun k hk => by
        rw [lset_getD, spl_getD _ _ _ _ _ _ hk, h.b]
        by_cases hm : q.m = k
        · subst hm; rw [if_pos ⟨rfl, hk⟩, if_pos (by omega)]; simp
        · rw [if_neg (fun x => hm x.1), if_neg (by omega)]
      show put1 q x = _
      unfold put1 chunk
      rw [e]
  | succ n ih =>
    have hd : c = c.take (n + 1) ++ [c.getD (n + 1) 0] := by
      apply List.ext_getElem (by simp; omega)
      intro i h1 h2
      by_cases hi : i < n + 1
      · rw [List.getElem_append_left (by simp; omega)]; simp
      · have : i = n + 1 := by omega
        subst this
        rw [List.getElem_append_right (by simp; omega)]
        simp [List.getD_eq_getElem?_getD, h1]
    have hl : (c.take (n + 1)).length = n + 1 := by simp; omega
    have := ih (c.take (n + 1)) hl (by omega)
    rw [hd, tk_append, this]
    have e1 : chunk q (c.take (n + 1)) (n + 1) = ⟨q.s, spl q.b (c.take (n + 1)) (q.m) (n + 1) 64, q.m + (n + 1)⟩ := if_neg (by omega)
    rw [e1]
    have e : (spl q.b (c.take (n + 1)) (q.m) (n + 1) 64).set (q.m + (n + 1)) (c.getD (n + 1) 0) = spl q.b c (q.m) (n + 1 + 1) 64 := eq_getD (n := 64) (by simp [spl_len]) (spl_len _ _ _ _ _) fun k hk => by
      rw [lset_getD, spl_getD _ _ _ _ _ _ hk, spl_getD _ _ _ _ _ _ hk, spl_len]
      by_cases hm : q.m + (n + 1) = k
      · subst hm; rw [if_pos ⟨rfl, hk⟩, if_pos (by omega)]; congr 1; omega
      · rw [if_neg (fun x => hm x.1)]
        by_cases h2 : q.m ≤ k ∧ k < q.m + (n + 1)
        · rw [if_pos h2, if_pos (by omega)]
          rw [List.getD_eq_getElem?_getD, List.getD_eq_getElem?_getD, List.getElem?_take_of_lt (by omega)]
        · rw [if_neg h2, if_neg (by omega)]
    rw [← hd]
    show put1 _ (c.getD (n + 1) 0) = _
    unfold put1 chunk
    simp only
    rw [e]
    simp only [Nat.add_assoc]
theorem chunk_ok {q : Run} (h : RunOk q) (c : List Int) (n : Nat) (hn : q.m + n ≤ 64) : RunOk (chunk q c n) := by
  unfold chunk
  split
  · exact ⟨aft_len _ _ h.s, spl_len _ _ _ _ _, by show 0 < 64; omega⟩
  · exact ⟨h.s, spl_len _ _ _ _ _, by show q.m + n < 64; omega⟩
def S0 : List Int := [1779033703, 3144134277, 1013904242, 2773480762, 1359893119, 2600822924, 528734635, 1541459225]
def run0 : Run := ⟨S0, z 64, 0⟩
theorem run0_ok : RunOk run0 := ⟨rfl, z_len _, by show 0 < 64; omega⟩
abbrev RQ (q : Run) (tot : Nat) : Blk := ⟨true, RUN q.s q.b ((q.m : Nat) : Int) ((tot : Nat) : Int)⟩
abbrev ROWS (L : List (List Int)) : SV := .fz L.length 1 fun i _ => (L.map (SV.fzi .u8)).getD i .nils
theorem rows_at (L : List (List Int)) {i : Nat} (h : i < L.length) : (L.map (SV.fzi .u8)).getD i .nils = .fzi .u8 (L.getD i []) := by
  simp [List.getD_eq_getElem?_getD, h]
theorem flat_s (L : List (List Int)) {i : Nat} (h : i < L.length) : (L.take (i + 1)).flatten = (L.take i).flatten ++ L.getD i [] := by
  rw [List.take_add_one, List.flatten_append]
  simp [List.getD_eq_getElem?_getD, h]
end Go.Proofs.X
end

section
/- What sums, and sums by a key, are, on lists. No program. -/
open Go Go.Bx
namespace Go.Proofs.X
def ob (s : List Int) : Nat → List Int
  | 0 => []
  | i + 1 => rowL (4 * i + 4) (ob s i) (4 * i) 4 1 [IntKind.u64.wrap (s.getD i 0)]
theorem ob_len (s : List Int) (i : Nat) : (ob s i).length = 4 * i := by
  cases i with
  | zero => rfl
  | succ i => exact rowL_len _ _ _ _ _ _
def sumQ (q : Run) (tot : Nat) : Run := tk (tk (tk q [128]) (List.replicate ((119 - q.m) % 64) 0)) (rr 8 8 1 [IntKind.u64.wrap (8 * ((tot : Nat) : Int))] 1)
def sumL (q : Run) (tot : Nat) : List Int := spl (z 32) ((ob (sumQ q tot).s 8).take 32) 0 32 32
theorem sumL_len (q : Run) (tot : Nat) : (sumL q tot).length = 32 := spl_len _ _ _ _ _
def xk (k : List Int) (v : Int) : Nat → List Int
  | 0 => k
  | i + 1 => (xk k v i).set i (xorK .u8 ((xk k v i).getD i 0) v)
theorem xk_len (k : List Int) (v : Int) (i : Nat) : (xk k v i).length = k.length := by
  induction i with
  | zero => rfl
  | succ i ih => simp [xk, ih]
def k64 (K : List Int) : List Int := spl (z 64) (K.take K.length) 0 K.length 64
theorem k64_len (K : List Int) : (k64 K).length = 64 := spl_len _ _ _ _ _
def hmI (K : List Int) : Run := tk run0 (xk (k64 K) 54 64)
def hmO (K : List Int) (q : Run) (tot : Nat) : List Int := sumL (tk (tk run0 (xk (k64 K) 92 64)) (sumL q tot)) 96
theorem hmO_len (K : List Int) (q : Run) (tot : Nat) : (hmO K q tot).length = 32 := sumL_len _ _
theorem hmI_ok (K : List Int) : RunOk (hmI K) := tk_ok run0_ok _
end Go.Proofs.X
end

section
/- Types and functions of sums by a key, as instances. -/
open Go Go.Bx Go.Proofs
namespace Go.Proofs.X
instance : Clb Tryz.prog 79 := ⟨_, Tryz.func79, by kernel_rfl, rfl⟩
instance : Clb Tryz.prog 105 := ⟨_, Tryz.func105, by kernel_rfl, rfl⟩
instance : Clb Tryz.prog 119 := ⟨_, Tryz.func119, by kernel_rfl, rfl⟩
end Go.Proofs.X
end

section
/- Numbers of 256 bits, told by what they are: words, halves, sums, differences, products. No program. -/
open Go Go.Bx
namespace Go.Proofs.X
theorem map_getD (f : Nat → Nat) (m j : Nat) (h : j < m) : ((List.range m).map f).getD j 0 = f j := by
  simp [List.getD_eq_getElem?_getD, h]
theorem eqD {l k : List Nat} (hl : l.length = k.length) (h : ∀ i, i < l.length → l.getD i 0 = k.getD i 0) : l = k := by
  apply List.ext_getElem hl
  intro i h1 h2
  have := h i h1
  simpa [List.getD_eq_getElem?_getD, h1, h2] using this
theorem setD (l : List Nat) (i v j : Nat) (hi : i < l.length) : (l.set i v).getD j 0 = if i = j then v else l.getD j 0 := by
  by_cases h : i = j
  · subst h; simp [List.getD_eq_getElem?_getD, hi]
  · simp [List.getD_eq_getElem?_getD, List.getElem?_set_ne h, h]
def pf2 (f g : Nat → Nat) (m i : Nat) : List Nat := (List.range m).map fun j => if j < i then f j else g j
theorem pf2_len (f g : Nat → Nat) (m i : Nat) : (pf2 f g m i).length = m := by simp [pf2]
theorem pf2_getD (f g : Nat → Nat) (m i j : Nat) (h : j < m) : (pf2 f g m i).getD j 0 = if j < i then f j else g j := map_getD _ _ _ h
theorem pf2_0 (f g : Nat → Nat) (m : Nat) : pf2 f g m 0 = (List.range m).map g := by simp [pf2]
theorem pf2_at (f g : Nat → Nat) (m i : Nat) (h : i < m) : (pf2 f g m i).getD i 0 = g i := by rw [pf2_getD _ _ _ _ _ h]; simp
theorem pf2_m (f g : Nat → Nat) (m : Nat) : pf2 f g m m = (List.range m).map f := by
  unfold pf2
  apply List.map_congr_left
  intro j hj
  rw [if_pos (by simpa using hj)]
theorem pf2_eq (f g : Nat → Nat) (m i : Nat) (h : ∀ j, i ≤ j → j < m → g j = f j) : pf2 f g m i = (List.range m).map f := by
  unfold pf2
  apply List.map_congr_left
  intro j hj
  by_cases hji : j < i
  · rw [if_pos hji]
  · rw [if_neg hji, h j (by omega) (by simpa using hj)]
theorem pf2_set (f g : Nat → Nat) (m i x : Nat) (h : i < m) (hx : f i = x) : (pf2 f g m i).set i x = pf2 f g m (i + 1) := by
  apply eqD
  · simp [pf2]
  · intro j hj
    have hj : j < m := by simpa [pf2] using hj
    rw [setD _ _ _ _ (by rw [pf2_len]; exact h), pf2_getD _ _ _ _ _ hj, pf2_getD _ _ _ _ _ hj]
    by_cases h1 : i = j
    · subst h1; simp [hx]
    · rw [if_neg h1]
      by_cases h2 : j < i
      · rw [if_pos h2, if_pos (by omega)]
      · rw [if_neg h2, if_neg (by omega)]
def dg (B n i : Nat) : Nat := n / B ^ i % B
def wd (n : Nat) : List Nat := (List.range 4).map (dg 18446744073709551616 n)
def hv (n : Nat) : List Nat := (List.range 8).map (dg 4294967296 n)
def hw (n : Nat) : List Nat := (List.range 16).map (dg 4294967296 n)
theorem wd_len (n : Nat) : (wd n).length = 4 := by simp [wd]
theorem hv_len (n : Nat) : (hv n).length = 8 := by simp [hv]
theorem wd_at (n i : Nat) (h : i < 4) : (wd n).getD i 0 = dg 18446744073709551616 n i := map_getD _ _ _ h
theorem hv_at (n i : Nat) (h : i < 8) : (hv n).getD i 0 = dg 4294967296 n i := map_getD _ _ _ h
theorem hw_at (n i : Nat) (h : i < 16) : (hw n).getD i 0 = dg 4294967296 n i := map_getD _ _ _ h
theorem dg_lt (B n i : Nat) (h : 0 < B) : dg B n i < B := Nat.mod_lt _ h
theorem and32 (n : Nat) : n &&& 4294967295 = n % 4294967296 := Nat.and_two_pow_sub_one_eq_mod n 32
theorem apart_step (n i : Nat) (h : i < 8) : dg 4294967296 n i = (wd n).getD (i / 2) 0 / 2 ^ (i % 2 * 32) &&& 4294967295 := by
  rw [and32, wd_at _ _ (by omega)]
  simp only [dg]
  match i, h with
  | 0, _ => simp <;> omega
  | 1, _ => simp <;> omega
  | 2, _ => simp <;> omega
  | 3, _ => simp <;> omega
  | 4, _ => simp <;> omega
  | 5, _ => simp <;> omega
  | 6, _ => simp <;> omega
  | 7, _ => simp <;> omega
theorem or_add (a b : Nat) (hb : b < 4294967296) : a * 4294967296 ||| b = a * 4294967296 + b := by
  have := (Nat.two_pow_add_eq_or_of_lt (i := 32) hb a).symm
  rw [show (2 : Nat) ^ 32 = 4294967296 from rfl, Nat.mul_comm] at this
  exact this
theorem whole_step (n i : Nat) (h : i < 4) : dg 18446744073709551616 n i = (((hv n).getD (2 * i + 1) 0) * 2 ^ 32 % 18446744073709551616) ||| (hv n).getD (2 * i) 0 := by
  rw [hv_at _ _ (by omega), hv_at _ _ (by omega)]
  have h1 := dg_lt 4294967296 n (2 * i) (by omega)
  have h2 := dg_lt 4294967296 n (2 * i + 1) (by omega)
  rw [Nat.mod_eq_of_lt (by omega), show (2 : Nat) ^ 32 = 4294967296 from rfl, or_add _ _ h1]
  clear h1 h2
  simp only [dg]
  match i, h with
  | 0, _ => simp <;> omega
  | 1, _ => simp <;> omega
  | 2, _ => simp <;> omega
  | 3, _ => simp <;> omega
def val (l : List Nat) : Nat := l.getD 0 0 + 18446744073709551616 * (l.getD 1 0 + 18446744073709551616 * (l.getD 2 0 + 18446744073709551616 * l.getD 3 0))
def B64 (x : List Nat) : Prop := ∀ i, x.getD i 0 < 18446744073709551616
theorem wd_val (l : List Nat) (hl : l.length = 4) (h : B64 l) : wd (val l) = l := by
  apply eqD (by rw [wd_len, hl])
  intro i hi
  rw [wd_len] at hi
  rw [wd_at _ _ hi]
  have h0 := h 0
  have h1 := h 1
  have h2 := h 2
  have h3 := h 3
  match l, hl with
  | [a, b, c, d], _ =>
    unfold dg val
    simp at h0 h1 h2 h3
    match i, hi with
    | 0, _ => simp <;> omega
    | 1, _ => simp <;> omega
    | 2, _ => simp <;> omega
    | 3, _ => simp <;> omega
theorem val_wd (n : Nat) (h : n < 2 ^ 256) : val (wd n) = n := by
  unfold val
  rw [wd_at _ _ (by omega), wd_at _ _ (by omega), wd_at _ _ (by omega), wd_at _ _ (by omega)]
  unfold dg
  simp
  omega
theorem wd_mod (n : Nat) : wd (n % 2 ^ 256) = wd n := by
  apply eqD (by rw [wd_len, wd_len])
  intro i hi
  rw [wd_len] at hi
  rw [wd_at _ _ hi, wd_at _ _ hi]
  unfold dg
  match i, hi with
  | 0, _ => simp <;> omega
  | 1, _ => simp <;> omega
  | 2, _ => simp <;> omega
  | 3, _ => simp <;> omega
theorem wd_B64 (n : Nat) : B64 (wd n) := by
  intro i
  by_cases h : i < 4
  · rw [wd_at _ _ h]; exact dg_lt _ _ _ (by omega)
  · rw [List.getD_eq_getElem?_getD, List.getElem?_eq_none (by rw [wd_len]; omega)]; simp
theorem wd_inj {a b : Nat} (ha : a < 2 ^ 256) (hb : b < 2 ^ 256) : wd a = wd b ↔ a = b :=
  ⟨fun h => by rw [← val_wd a ha, h, val_wd b hb], fun h => by rw [h]⟩
theorem hv_inj {a b : Nat} (ha : a < 2 ^ 256) (hb : b < 2 ^ 256) : hv a = hv b ↔ a = b := by
  refine ⟨fun h => ?_, fun h => by rw [h]⟩
  have g : ∀ i, i < 8 → dg 4294967296 a i = dg 4294967296 b i := fun i hi => by rw [← hv_at _ _ hi, h, hv_at _ _ hi]
  have h0 := g 0 (by omega)
  have h1 := g 1 (by omega)
  have h2 := g 2 (by omega)
  have h3 := g 3 (by omega)
  have h4 := g 4 (by omega)
  have h5 := g 5 (by omega)
  have h6 := g 6 (by omega)
  have h7 := g 7 (by omega)
  unfold dg at *
  simp at *
  omega
theorem dg_split (B n i : Nat) : n / B ^ i = n / B ^ (i + 1) * B + dg B n i := by
  unfold dg
  rw [Nat.pow_succ, ← Nat.div_div_eq_div_mul, Nat.mul_comm]
  exact (Nat.div_add_mod _ _).symm
theorem cmp_up {B a b i : Nat} (h : a / B ^ (i + 1) = b / B ^ (i + 1)) (hd : dg B a i = dg B b i) : a / B ^ i = b / B ^ i := by
  rw [dg_split, dg_split B b, h, hd]
theorem cmp_lt {B a b i : Nat} (h : a / B ^ (i + 1) = b / B ^ (i + 1)) (hd : dg B a i < dg B b i) : a < b := by
  have : a / B ^ i < b / B ^ i := by rw [dg_split, dg_split B b, h]; omega
  exact Nat.lt_of_not_le fun hle => absurd (Nat.div_le_div_right (c := B ^ i) hle) (by omega)
def cmpI (a b : Nat) : Int := if a = b then 0 else if a < b then -1 else 1
def cy (B a b c i : Nat) : Nat := (a % B ^ i + b % B ^ i + c) / B ^ i
theorem mod_succ (B n i : Nat) : n % B ^ (i + 1) = n % B ^ i + B ^ i * dg B n i := by
  unfold dg
  rw [Nat.pow_succ]; exact Nat.mod_mul ..
theorem cy_split (B a b c i : Nat) (hB : 0 < B) : (a % B ^ (i + 1) + b % B ^ (i + 1) + c) / B ^ i = cy B a b c i + (dg B a i + dg B b i) := by
  unfold cy
  have hp : 0 < B ^ i := Nat.pow_pos hB
  rw [mod_succ, mod_succ, show a % B ^ i + B ^ i * dg B a i + (b % B ^ i + B ^ i * dg B b i) + c = (a % B ^ i + b % B ^ i + c) + B ^ i * (dg B a i + dg B b i) by rw [Nat.mul_add]; omega, Nat.add_mul_div_left _ _ hp]
theorem cy_succ (B a b c i : Nat) (hB : 0 < B) : (cy B a b c i + (dg B a i + dg B b i)) / B = cy B a b c (i + 1) := by
  rw [← cy_split B a b c i hB, Nat.div_div_eq_div_mul, ← Nat.pow_succ]; rfl
theorem cy_dg (B a b c i : Nat) (hB : 0 < B) : (cy B a b c i + (dg B a i + dg B b i)) % B = dg B (a + b + c) i := by
  rw [← cy_split B a b c i hB]
  unfold dg
  have hp : 0 < B ^ i := Nat.pow_pos hB
  have ha := Nat.mod_add_div a (B ^ (i + 1))
  have hb := Nat.mod_add_div b (B ^ (i + 1))
  have e : a + b + c = (a % B ^ (i + 1) + b % B ^ (i + 1) + c) + B ^ i * (B * (a / B ^ (i + 1) + b / B ^ (i + 1))) := by
    have e1 : B ^ i * (B * (a / B ^ (i + 1) + b / B ^ (i + 1))) = B ^ (i + 1) * (a / B ^ (i + 1)) + B ^ (i + 1) * (b / B ^ (i + 1)) := by
      rw [← Nat.mul_add, Nat.pow_succ, Nat.mul_assoc]
    rw [e1]; omega
  generalize a % B ^ (i + 1) + b % B ^ (i + 1) + c = s at e
  rw [e, Nat.add_mul_div_left _ _ hp, Nat.add_mul_mod_self_left]
theorem cy_0 (B a b c : Nat) : cy B a b c 0 = c := by simp [cy, Nat.mod_one]
theorem cy_lt (B a b c i : Nat) (hB : 0 < B) (hc : c ≤ 1) : cy B a b c i ≤ 1 := by
  unfold cy
  have hp : 0 < B ^ i := Nat.pow_pos hB
  have h1 := Nat.mod_lt a hp
  have h2 := Nat.mod_lt b hp
  have : (a % B ^ i + b % B ^ i + c) / B ^ i < 2 := by
    apply Nat.div_lt_of_lt_mul
    omega
  omega
theorem cy_8 (a b c : Nat) (ha : a < 2 ^ 256) (hb : b < 2 ^ 256) : cy 4294967296 a b c 8 = (a + b + c) / 2 ^ 256 := by
  unfold cy
  have e : (4294967296 : Nat) ^ 8 = 2 ^ 256 := rfl
  rw [e, Nat.mod_eq_of_lt ha, Nat.mod_eq_of_lt hb]
theorem not_dg (b i : Nat) (hb : b < 2 ^ 256) (h : i < 8) : 4294967295 - dg 4294967296 b i = dg 4294967296 (2 ^ 256 - 1 - b) i := by
  simp only [dg]
  match i, h with
  | 0, _ => simp <;> omega
  | 1, _ => simp <;> omega
  | 2, _ => simp <;> omega
  | 3, _ => simp <;> omega
  | 4, _ => simp <;> omega
  | 5, _ => simp <;> omega
  | 6, _ => simp <;> omega
  | 7, _ => simp <;> omega
def my (B v n at_ p : Nat) : Nat := (v % B ^ p + n * B ^ at_) / B ^ p
theorem my_at (B v n at_ : Nat) (hB : 0 < B) : my B v n at_ at_ = n := by
  unfold my
  have hp : 0 < B ^ at_ := Nat.pow_pos hB
  rw [Nat.add_mul_div_right _ _ hp, Nat.div_eq_of_lt (Nat.mod_lt _ hp), Nat.zero_add]
theorem my_split (B v n at_ p : Nat) (hB : 0 < B) : (v % B ^ (p + 1) + n * B ^ at_) / B ^ p = my B v n at_ p + dg B v p := by
  unfold my
  have hp : 0 < B ^ p := Nat.pow_pos hB
  rw [mod_succ, show v % B ^ p + B ^ p * dg B v p + n * B ^ at_ = (v % B ^ p + n * B ^ at_) + B ^ p * dg B v p by omega, Nat.add_mul_div_left _ _ hp]
theorem my_succ (B v n at_ p : Nat) (hB : 0 < B) : (my B v n at_ p + dg B v p) / B = my B v n at_ (p + 1) := by
  rw [← my_split B v n at_ p hB, Nat.div_div_eq_div_mul, ← Nat.pow_succ]; rfl
theorem my_dg (B v n at_ p : Nat) (hB : 0 < B) : (my B v n at_ p + dg B v p) % B = dg B (v + n * B ^ at_) p := by
  rw [← my_split B v n at_ p hB]
  unfold dg
  have hp : 0 < B ^ p := Nat.pow_pos hB
  have hv := Nat.mod_add_div v (B ^ (p + 1))
  have e : v + n * B ^ at_ = (v % B ^ (p + 1) + n * B ^ at_) + B ^ p * (B * (v / B ^ (p + 1))) := by
    have e1 : B ^ p * (B * (v / B ^ (p + 1))) = B ^ (p + 1) * (v / B ^ (p + 1)) := by
      conv => rhs; rw [Nat.pow_succ]
      rw [Nat.mul_assoc, ← Nat.pow_succ]
    rw [e1]; omega
  generalize v % B ^ (p + 1) + n * B ^ at_ = s at e
  rw [e, Nat.add_mul_div_left _ _ hp, Nat.add_mul_mod_self_left]
theorem dg_below (B v n at_ j : Nat) (hB : 0 < B) (h : j < at_) : dg B (v + n * B ^ at_) j = dg B v j := by
  unfold dg
  have hp : 0 < B ^ j := Nat.pow_pos hB
  have e : n * B ^ at_ = B ^ j * (B * (n * B ^ (at_ - j - 1))) := by
    rw [show at_ = j + (1 + (at_ - j - 1)) by omega, Nat.pow_add, Nat.pow_add, Nat.pow_one, show j + (1 + (at_ - j - 1)) - j - 1 = at_ - j - 1 by omega]
    simp only [Nat.mul_left_comm]
  rw [e, Nat.add_mul_div_left _ _ hp, Nat.add_mul_mod_self_left]
theorem my_0 (B v n at_ p j : Nat) (hB : 0 < B) (h : my B v n at_ p = 0) (hj : p ≤ j) : dg B v j = dg B (v + n * B ^ at_) j := by
  unfold dg
  have hp : 0 < B ^ p := Nat.pow_pos hB
  have h1 : v % B ^ p + n * B ^ at_ < B ^ p := by
    unfold my at h
    exact (Nat.div_eq_zero_iff_lt hp).1 h
  have e : (v + n * B ^ at_) / B ^ p = v / B ^ p := by
    have hv := Nat.mod_add_div v (B ^ p)
    rw [show v + n * B ^ at_ = (v % B ^ p + n * B ^ at_) + B ^ p * (v / B ^ p) by omega, Nat.add_mul_div_left _ _ hp, Nat.div_eq_of_lt h1, Nat.zero_add]
  rw [show j = p + (j - p) by omega, Nat.pow_add, ← Nat.div_div_eq_div_mul, ← Nat.div_div_eq_div_mul, e]
theorem my_top (v n at_ : Nat) (h : v + n * 4294967296 ^ at_ < 4294967296 ^ 16) : my 4294967296 v n at_ 16 = 0 := by
  unfold my
  apply Nat.div_eq_of_lt
  have := Nat.mod_le v (4294967296 ^ 16)
  omega
theorem hw_lo (v : Nat) : (hw v).take 8 = hv v := by
  unfold hw hv
  rw [← List.map_take]; rfl
theorem hw_hi (v : Nat) : (hw v).drop 8 = hv (v / 2 ^ 256) := by
  apply eqD
  · simp [hw, hv]
  · intro i hi
    have hi : i < 8 := by simpa [hw] using hi
    rw [hv_at _ _ hi]
    have : ((hw v).drop 8).getD i 0 = (hw v).getD (8 + i) 0 := by
      simp [List.getD_eq_getElem?_getD, List.getElem?_drop]
    rw [this, hw_at _ _ (by omega)]
    unfold dg
    rw [Nat.pow_add, ← Nat.div_div_eq_div_mul]
end Go.Proofs.X
end

section
/- Numbers of 256 bits: bits, moved, divided. No program. -/
open Go Go.Bx
namespace Go.Proofs.X
def bitsN (n : Nat) : Nat := if n = 0 then 0 else n.log2 + 1
theorem bitsN_0 : bitsN 0 = 0 := rfl
theorem bitsN_lt (n : Nat) : n < 2 ^ bitsN n := by
  unfold bitsN
  by_cases h : n = 0
  · simp [h]
  · rw [if_neg h]; exact Nat.lt_log2_self
theorem bitsN_le {n : Nat} (h : n ≠ 0) : 2 ^ (bitsN n - 1) ≤ n := by
  unfold bitsN
  rw [if_neg h]
  exact Nat.log2_self_le h
theorem bitsN_pos {n : Nat} (h : n ≠ 0) : 0 < bitsN n := by unfold bitsN; rw [if_neg h]; omega
theorem bitsN_eq {n m : Nat} (h1 : 2 ^ m ≤ n) (h2 : n < 2 ^ (m + 1)) : bitsN n = m + 1 := by
  have h0 : n ≠ 0 := by have := Nat.two_pow_pos m; omega
  unfold bitsN
  rw [if_neg h0]
  have a : n.log2 < m + 1 := (Nat.log2_lt h0).2 h2
  have b : ¬ n.log2 < m := fun h => absurd ((Nat.log2_lt h0).1 h) (by omega)
  omega
theorem bitsN_mono {n m : Nat} (h : n < 2 ^ m) : bitsN n ≤ m := by
  unfold bitsN
  by_cases h0 : n = 0
  · simp [h0]
  · rw [if_neg h0]; have := (Nat.log2_lt h0).2 h; omega
theorem bitsN_256 {n : Nat} (h : n < 2 ^ 256) : bitsN n ≤ 256 := bitsN_mono h
theorem bitsN_lt_imp {a b : Nat} (h : bitsN a < bitsN b) : a < b := by
  have h0 : b ≠ 0 := fun e => by rw [e, bitsN_0] at h; omega
  have h1 := bitsN_lt a
  have h2 := bitsN_le h0
  have : 2 ^ bitsN a ≤ 2 ^ (bitsN b - 1) := Nat.pow_le_pow_right (by omega) (by omega)
  omega
theorem bitsN_half (n i m : Nat) (h1 : 2 ^ m ≤ dg 4294967296 n i) (h2 : dg 4294967296 n i < 2 ^ (m + 1)) : bitsN (n % 4294967296 ^ (i + 1)) = 32 * i + m + 1 := by
  rw [mod_succ]
  have e : (4294967296 : Nat) ^ i = 2 ^ (32 * i) := by rw [Nat.pow_mul]
  have hl : n % 4294967296 ^ i < 4294967296 ^ i := Nat.mod_lt _ (Nat.pow_pos (by omega))
  rw [e] at *
  refine bitsN_eq (m := 32 * i + m) ?_ ?_
  · rw [Nat.pow_add]
    exact Nat.le_trans (Nat.mul_le_mul_left _ h1) (Nat.le_add_left _ _)
  · rw [show 32 * i + m + 1 = 32 * i + (m + 1) by omega, Nat.pow_add]
    generalize dg 4294967296 n i = d at *
    have : 2 ^ (32 * i) * (d + 1) ≤ 2 ^ (32 * i) * 2 ^ (m + 1) := Nat.mul_le_mul_left _ h2
    rw [Nat.mul_add] at this
    omega
theorem bitsN_half0 (n i : Nat) (h : dg 4294967296 n i = 0) : n % 4294967296 ^ (i + 1) = n % 4294967296 ^ i := by rw [mod_succ, h]; simp
theorem bit_at (n i : Nat) : dg 4294967296 n (i / 32) / 2 ^ (i % 32) &&& 1 = n / 2 ^ i % 2 := by
  have h1 : ∀ x : Nat, x &&& 1 = x % 2 := fun x => Nat.and_two_pow_sub_one_eq_mod x 1
  rw [h1]
  unfold dg
  have hr : i % 32 < 32 := Nat.mod_lt _ (by omega)
  have e : (4294967296 : Nat) ^ (i / 32) = 2 ^ (32 * (i / 32)) := by rw [Nat.pow_mul]
  have e2 : (4294967296 : Nat) = 2 ^ (i % 32) * (2 * 2 ^ (31 - i % 32)) := by
    rw [← Nat.mul_assoc, ← Nat.pow_succ, ← Nat.pow_add, show i % 32 + 1 + (31 - i % 32) = 32 by omega]
  rw [e]
  generalize hx : n / 2 ^ (32 * (i / 32)) = x
  rw [show x % 4294967296 = x % (2 ^ (i % 32) * (2 * 2 ^ (31 - i % 32))) by rw [← e2], Nat.mod_mul_right_div_self, Nat.mod_mul_right_mod, ← hx, Nat.div_div_eq_div_mul, ← Nat.pow_add, show 32 * (i / 32) + i % 32 = i by omega]
def shN (n : Nat) (s : Int) : Nat := n * 2 ^ (s + 256).toNat / 2 ^ 256
theorem shN_up (n k : Nat) : shN n (k : Int) = n * 2 ^ k := by
  unfold shN
  rw [show ((k : Int) + 256).toNat = k + 256 by omega, Nat.pow_add, ← Nat.mul_assoc, Nat.mul_div_cancel _ (Nat.two_pow_pos _)]
theorem shN_down (n k : Nat) (hk : k ≤ 256) : shN n (-(k : Int)) = n / 2 ^ k := by
  unfold shN
  rw [show (-(k : Int) + 256).toNat = 256 - k by omega]
  have e : (2 : Nat) ^ 256 = 2 ^ (256 - k) * 2 ^ k := by rw [← Nat.pow_add]; congr 1; omega
  rw [e, Nat.mul_comm n, Nat.mul_div_mul_left _ _ (Nat.two_pow_pos _)]
theorem or_dg {D p P u j : Nat} (hu : u ≤ 32) (hD : D < 2 ^ u * 4294967296 ^ P) (hp : p % 2 ^ u = 0) (hpl : p < 4294967296) : dg 4294967296 (D + p * 4294967296 ^ P) j = if j = P then dg 4294967296 D P ||| p else dg 4294967296 D j := by
  have hB : 0 < (4294967296 : Nat) := by omega
  have hpp : 0 < (4294967296 : Nat) ^ P := Nat.pow_pos hB
  have h32 : (2 : Nat) ^ u ≤ 4294967296 := Nat.pow_le_pow_right (j := 32) (by omega) hu
  have hr : D / 4294967296 ^ P < 2 ^ u := Nat.div_lt_of_lt_mul (by rw [Nat.mul_comm]; exact hD)
  have hpu : p + 2 ^ u ≤ 4294967296 := by
    obtain ⟨t, ht⟩ := Nat.dvd_of_mod_eq_zero hp
    have hs : (4294967296 : Nat) = 2 ^ u * 2 ^ (32 - u) := by rw [← Nat.pow_add, show u + (32 - u) = 32 by omega]
    rw [ht] at hpl ⊢
    rw [hs] at hpl ⊢
    have : t < 2 ^ (32 - u) := Nat.lt_of_mul_lt_mul_left hpl
    have := Nat.mul_le_mul_left (2 ^ u) (show t + 1 ≤ 2 ^ (32 - u) from this)
    rw [Nat.mul_add] at this
    omega
  rcases Nat.lt_trichotomy j P with h | h | h
  · rw [if_neg (by omega), dg_below _ _ _ _ _ hB h]
  · subst h
    rw [if_pos rfl]
    unfold dg
    rw [Nat.add_mul_div_right _ _ hpp, Nat.mod_eq_of_lt (a := D / _) (by omega), Nat.mod_eq_of_lt (by omega)]
    obtain ⟨t, ht⟩ := Nat.dvd_of_mod_eq_zero hp
    rw [ht, Nat.or_comm, ← Nat.two_pow_add_eq_or_of_lt hr t, Nat.add_comm]
  · rw [if_neg (by omega)]
    have hlt : D + p * 4294967296 ^ P < 4294967296 ^ (P + 1) := by
      rw [Nat.pow_succ]
      have : (p + 2 ^ u) * 4294967296 ^ P ≤ 4294967296 * 4294967296 ^ P := Nat.mul_le_mul_right _ hpu
      rw [Nat.add_mul] at this
      rw [Nat.mul_comm _ 4294967296]
      omega
    have hle : (4294967296 : Nat) ^ (P + 1) ≤ 4294967296 ^ j := Nat.pow_le_pow_right hB h
    unfold dg
    rw [Nat.div_eq_of_lt (by omega), Nat.div_eq_of_lt (by omega)]
def win (D : Nat) : List Nat := hv (D / 2 ^ 256)
theorem win_len (D : Nat) : (win D).length = 8 := hv_len _
theorem win_at (D j : Nat) (h : j < 8) : (win D).getD j 0 = dg 4294967296 D (j + 8) := by
  unfold win
  rw [hv_at _ _ h]
  unfold dg
  rw [show (2 : Nat) ^ 256 = 4294967296 ^ 8 from rfl, Nat.div_div_eq_div_mul, ← Nat.pow_add, Nat.add_comm 8 j]
theorem win_in {D p P u : Nat} (hu : u ≤ 32) (hD : D < 2 ^ u * 4294967296 ^ P) (hp : p % 2 ^ u = 0) (hpl : p < 4294967296) (h8 : 8 ≤ P) (h16 : P < 16) : (win D).set (P - 8) ((win D).getD (P - 8) 0 ||| p) = win (D + p * 4294967296 ^ P) := by
  apply eqD
  · rw [List.length_set, win_len, win_len]
  · intro j hj
    have hj : j < 8 := by simpa [win_len] using hj
    rw [setD _ _ _ _ (by rw [win_len]; omega), win_at _ _ hj, win_at _ _ hj, or_dg hu hD hp hpl, win_at _ _ (by omega)]
    by_cases h : P - 8 = j
    · rw [if_pos h, if_pos (by omega), show P - 8 + 8 = P by omega]
    · rw [if_neg h, if_neg (by omega)]
theorem win_out {D p P u : Nat} (hu : u ≤ 32) (hD : D < 2 ^ u * 4294967296 ^ P) (hp : p % 2 ^ u = 0) (hpl : p < 4294967296) (h : P < 8 ∨ 16 ≤ P) : win D = win (D + p * 4294967296 ^ P) := by
  apply eqD
  · rw [win_len, win_len]
  · intro j hj
    have hj : j < 8 := by simpa [win_len] using hj
    rw [win_at _ _ hj, win_at _ _ hj, or_dg hu hD hp hpl, if_neg (by omega)]
end Go.Proofs.X
end

section
/- Numbers of 256 bits: divided; a double word by a word. No program. -/
open Go Go.Bx
namespace Go.Proofs.X
theorem tb_dg (n j i : Nat) : (dg 18446744073709551616 n j).testBit i = (decide (i < 64) && n.testBit (64 * j + i)) := by
  unfold dg
  rw [show (18446744073709551616 : Nat) ^ j = 2 ^ (64 * j) by rw [Nat.pow_mul], show (18446744073709551616 : Nat) = 2 ^ 64 from rfl, Nat.testBit_mod_two_pow, Nat.testBit_div_two_pow, Nat.add_comm i]
theorem set_bit (x k : Nat) (hk : k < 256) (hx : x % 2 ^ (k + 1) = 0) : (wd x).set (k / 64) ((wd x).getD (k / 64) 0 ||| 2 ^ (k % 64)) = wd (x + 2 ^ k) := by
  obtain ⟨t, ht⟩ := Nat.dvd_of_mod_eq_zero hx
  have hor : x + 2 ^ k = x ||| 2 ^ k := by rw [ht]; exact Nat.two_pow_add_eq_or_of_lt (Nat.pow_lt_pow_right (by omega) (by omega)) t
  apply eqD
  · rw [List.length_set, wd_len, wd_len]
  · intro j hj
    have hj : j < 4 := by simpa [wd_len] using hj
    rw [setD _ _ _ _ (by rw [wd_len]; omega), wd_at _ _ hj, wd_at _ _ hj, wd_at _ _ (by omega), hor]
    apply Nat.eq_of_testBit_eq
    intro i
    by_cases h : k / 64 = j
    · rw [if_pos h, Nat.testBit_or, tb_dg, tb_dg, Nat.testBit_or, Nat.testBit_two_pow, Nat.testBit_two_pow, h]
      by_cases hi : i < 64
      · have : (k % 64 = i) ↔ (k = 64 * j + i) := by omega
        simp [hi, this]
      · have : ¬ (k % 64 = i) := by omega
        simp [hi, this]
    · rw [if_neg h, tb_dg, tb_dg, Nat.testBit_or, Nat.testBit_two_pow]
      by_cases hi : i < 64
      · have : ¬ (k = 64 * j + i) := by omega
        simp [this]
      · simp [hi]
theorem div_r (a b k : Nat) : a % (b * 2 ^ (k + 1)) = a % (b * 2 ^ k) + b * 2 ^ k * (a / (b * 2 ^ k) % 2) := by
  rw [show b * 2 ^ (k + 1) = b * 2 ^ k * 2 by rw [Nat.pow_succ, Nat.mul_assoc]]
  exact Nat.mod_mul
theorem div_q (a b k : Nat) : a / (b * 2 ^ k) = a / (b * 2 ^ (k + 1)) * 2 + a / (b * 2 ^ k) % 2 := by
  rw [show b * 2 ^ (k + 1) = b * 2 ^ k * 2 by rw [Nat.pow_succ, Nat.mul_assoc]]
  generalize b * 2 ^ k = d
  rw [← Nat.div_div_eq_div_mul]
  omega
theorem div_yes {a b k : Nat} (hb : 0 < b) (h : b * 2 ^ k ≤ a % (b * 2 ^ (k + 1))) : a % (b * 2 ^ (k + 1)) - b * 2 ^ k = a % (b * 2 ^ k) ∧ a / (b * 2 ^ (k + 1)) * 2 ^ (k + 1) + 2 ^ k = a / (b * 2 ^ k) * 2 ^ k := by
  have hd : 0 < b * 2 ^ k := Nat.mul_pos hb (Nat.two_pow_pos k)
  have h1 := Nat.mod_lt a hd
  have e := div_r a b k
  have q := div_q a b k
  have h2 : a / (b * 2 ^ k) % 2 = 1 := by
    rcases Nat.mod_two_eq_zero_or_one (a / (b * 2 ^ k)) with h0 | h0
    · rw [h0] at e; omega
    · exact h0
  rw [h2] at e q
  refine ⟨by omega, ?_⟩
  rw [q, Nat.pow_succ, Nat.add_mul, Nat.mul_assoc _ 2, Nat.mul_comm 2 (2 ^ k), Nat.one_mul]
theorem div_no {a b k : Nat} (hb : 0 < b) (h : ¬ b * 2 ^ k ≤ a % (b * 2 ^ (k + 1))) : a % (b * 2 ^ (k + 1)) = a % (b * 2 ^ k) ∧ a / (b * 2 ^ (k + 1)) * 2 ^ (k + 1) = a / (b * 2 ^ k) * 2 ^ k := by
  have e := div_r a b k
  have q := div_q a b k
  have h2 : a / (b * 2 ^ k) % 2 = 0 := by
    rcases Nat.mod_two_eq_zero_or_one (a / (b * 2 ^ k)) with h0 | h0
    · exact h0
    · rw [h0] at e; omega
  rw [h2] at e q
  refine ⟨by omega, ?_⟩
  rw [q, Nat.pow_succ, Nat.add_zero, Nat.mul_assoc _ 2, Nat.mul_comm 2 (2 ^ k)]
theorem div_start {a b : Nat} (hb : b ≠ 0) (h : bitsN b ≤ bitsN a) : a < b * 2 ^ (bitsN a - bitsN b + 1) := by
  have h1 := bitsN_lt a
  have h2 := bitsN_le hb
  have h3 := bitsN_pos hb
  have : 2 ^ bitsN a = 2 ^ (bitsN b - 1) * 2 ^ (bitsN a - bitsN b + 1) := by rw [← Nat.pow_add]; congr 1; omega
  have := Nat.mul_le_mul_right (2 ^ (bitsN a - bitsN b + 1)) h2
  omega
theorem div_fit {a b k : Nat} (hb : b < 2 ^ 256) (ha : bitsN a ≤ 256) (hk : k ≤ bitsN a - bitsN b) (h : bitsN b ≤ bitsN a) : b * 2 ^ k < 2 ^ 256 := by
  have h1 := bitsN_lt b
  have : 2 ^ bitsN b * 2 ^ k ≤ 2 ^ 256 := by rw [← Nat.pow_add]; exact Nat.pow_le_pow_right (by omega) (by omega)
  have := (Nat.mul_lt_mul_right (Nat.two_pow_pos k)).2 h1
  omega
theorem kn_ge {un un1 y1 y0 : Nat} (h1 : un1 < 4294967296) (hy : 0 < y1) : (un * 4294967296 + un1) / (y1 * 4294967296 + y0) ≤ un / y1 := by
  rw [Nat.le_div_iff_mul_le hy]
  have h := Nat.div_mul_le_self (un * 4294967296 + un1) (y1 * 4294967296 + y0)
  generalize (un * 4294967296 + un1) / (y1 * 4294967296 + y0) = q at *
  rw [Nat.mul_add, ← Nat.mul_assoc] at h
  omega
structure Kn (un un1 y1 y0 q rh : Nat) : Prop where
  e : q * y1 + rh = un
  ge : (un * 4294967296 + un1) / (y1 * 4294967296 + y0) ≤ q
theorem Kn.start {un un1 y1 y0 : Nat} (h1 : un1 < 4294967296) (hy : 0 < y1) : Kn un un1 y1 y0 (un / y1) (un % y1) :=
  ⟨Nat.div_add_mod' un y1, kn_ge h1 hy⟩
theorem Kn.next {un un1 y1 y0 q rh : Nat} (k : Kn un un1 y1 y0 q rh) (hy : 0 < y1) (hun : un < y1 * 4294967296 + y0) (h1 : un1 < 4294967296) (h : 4294967296 ≤ q ∨ 4294967296 * rh + un1 < q * y0) : 0 < q ∧ Kn un un1 y1 y0 (q - 1) (rh + y1) := by
  obtain ⟨e, g⟩ := k
  have hq : (un * 4294967296 + un1) / (y1 * 4294967296 + y0) < q := by
    rw [Nat.div_lt_iff_lt_mul (by omega)]
    rcases h with h | h
    · have h2 : 4294967296 * (y1 * 4294967296 + y0) ≤ q * (y1 * 4294967296 + y0) := Nat.mul_le_mul_right _ h
      have h3 : (un + 1) * 4294967296 ≤ (y1 * 4294967296 + y0) * 4294967296 := Nat.mul_le_mul_right _ hun
      rw [Nat.mul_comm 4294967296] at h2
      refine Nat.lt_of_lt_of_le ?_ (Nat.le_trans h3 h2)
      rw [Nat.add_mul]
      omega
    · have h2 : q * (y1 * 4294967296 + y0) = q * y1 * 4294967296 + q * y0 := by rw [Nat.mul_add, ← Nat.mul_assoc]
      rw [h2]
      omega
  have h0 : 0 < q := Nat.lt_of_le_of_lt (Nat.zero_le _) hq
  refine ⟨h0, ?_, Nat.le_sub_one_of_lt hq⟩
  obtain ⟨p, rfl⟩ : ∃ p, q = p + 1 := ⟨q - 1, by omega⟩
  rw [Nat.add_mul, Nat.one_mul] at e
  rw [Nat.add_sub_cancel, ← e]
  omega
theorem Kn.done {un un1 y1 y0 q rh : Nat} (k : Kn un un1 y1 y0 q rh) (hy : 0 < y1) (h : q * y0 ≤ 4294967296 * rh + un1) : q = (un * 4294967296 + un1) / (y1 * 4294967296 + y0) := by
  refine Nat.le_antisymm ?_ k.ge
  rw [Nat.le_div_iff_mul_le (by omega)]
  have e := k.e
  rw [Nat.mul_add, ← Nat.mul_assoc]
  omega
theorem Kn.far {un un1 y1 y0 q rh : Nat} (k : Kn un un1 y1 y0 q rh) (hy : 0 < y1) (hy0 : y0 < 4294967296) (hq : q ≤ 4294967296) (hr : 4294967296 ≤ rh) : q = (un * 4294967296 + un1) / (y1 * 4294967296 + y0) := by
  refine k.done hy ?_
  have h1 : q * y0 ≤ 4294967296 * y0 := Nat.mul_le_mul_right _ hq
  have h2 : 4294967296 * 4294967296 ≤ 4294967296 * rh := Nat.mul_le_mul_left _ hr
  omega
theorem kn_q {un un1 y : Nat} (hun : un < y) (h1 : un1 < 4294967296) : (un * 4294967296 + un1) / y < 4294967296 := by
  rw [Nat.div_lt_iff_lt_mul (by omega)]
  have : (un + 1) * 4294967296 ≤ y * 4294967296 := Nat.mul_le_mul_right _ hun
  omega
theorem kn_guess {un y1 y0 : Nat} (hun : un < y1 * 4294967296 + y0) (hy : 2147483648 ≤ y1) (hy0 : y0 < 4294967296) : un / y1 ≤ 4294967297 := by
  have : un / y1 < 4294967298 := by
    rw [Nat.div_lt_iff_lt_mul (by omega)]
    omega
  omega
theorem kn_two' {N q r un0 y : Nat} (hy : 0 < y) (e : y * q + r = N) : q * 4294967296 + (r * 4294967296 + un0) / y = (N * 4294967296 + un0) / y ∧ (r * 4294967296 + un0) % y = (N * 4294967296 + un0) % y := by
  have : N * 4294967296 + un0 = (r * 4294967296 + un0) + y * (q * 4294967296) := by
    rw [← Nat.mul_assoc, ← e, Nat.add_mul]
    omega
  rw [this, Nat.add_mul_div_left _ _ hy, Nat.add_mul_mod_self_left]
  exact ⟨Nat.add_comm .., rfl⟩
theorem kn_two {N un0 y : Nat} (hy : 0 < y) : N / y * 4294967296 + (N % y * 4294967296 + un0) / y = (N * 4294967296 + un0) / y ∧ (N % y * 4294967296 + un0) % y = (N * 4294967296 + un0) % y := kn_two' hy (Nat.div_add_mod N y)
theorem kn_up {N y s : Nat} : N * 2 ^ s / (y * 2 ^ s) = N / y ∧ N * 2 ^ s % (y * 2 ^ s) / 2 ^ s = N % y :=
  ⟨Nat.mul_div_mul_right _ _ (Nat.two_pow_pos s), by rw [Nat.mul_mod_mul_right, Nat.mul_div_cancel _ (Nat.two_pow_pos s)]⟩
end Go.Proofs.X
end

section
/- Slices of memory within slices; copies of whatever length; parts of frozen structs as slices. No program. -/
namespace Go.Bx
theorem LOk.wide {P : Program} {o : Oper} {T : Tm} {H H' : Heap} {v : AV} {F M F' M' : List Nat} (h : LOk P o T H H' v F M) (hF : ∀ id ∈ F, id ∈ F') (hM : ∀ id ∈ M, id ∈ M') (hs : ∀ id ∈ M', id ∈ F') (hl : ∀ id ∈ F', id < H.length) : LOk P o T H H' v F' M' := by
  refine ⟨h.len, fun id hi hn => h.keep id hi fun hm => hn (hM id hm), hs, hl, ?_⟩
  intro W ρ a w hH hfr hW ho
  rw [msk_len, msk_len] at hfr
  refine (h.frame (c := hget (msk F' H.length H)) hH (fun id hi _ => by rw [hget_msk, if_pos (.inl (hF id hi))]) hfr hW ho).mono fun v' w' ⟨ρ', W', hn, hv⟩ => ⟨ρ', W', ?_, hv⟩
  rw [msk_len, msk_len]
  refine (?_ : (fun id => if id ∈ M ∨ (H.length ≤ id ∧ id < H'.length) then hget H' id else hget (msk F' H.length H) id) = hget (msk F' H.length H')) ▸ hn
  funext id
  rw [hget_msk, hget_msk]
  by_cases h1 : id ∈ M
  · rw [if_pos (.inl h1), if_pos (.inl (hs id (hM id h1)))]
  · by_cases h2 : H.length ≤ id
    · by_cases h3 : id < H'.length
      · rw [if_pos (.inr ⟨h2, h3⟩), if_pos (.inr h2)]
      · rw [if_neg (fun e => e.elim h1 fun e => h3 e.2), if_pos (.inr h2), if_pos (.inr h2), hget_ge h2, hget_ge (by omega)]
    · rw [if_neg (fun e => e.elim h1 fun e => h2 e.1)]
      by_cases h4 : id ∈ F'
      · rw [if_pos (.inl h4), if_pos (.inl h4), h.keep id (by omega) h1]
      · rw [if_neg (fun e => e.elim h4 h2), if_neg (fun e => e.elim h4 h2)]
section
variable {P : Program} {T : Tm} {H : Heap} {d : Option Tmp} {ty : TypeId} {pos : String} {af : Array Edge} {g : Option (Nat × Bool)}
theorem a_slp {t e : TypeId} {x : Operand} {lo hi mx : Option Operand} {q : Nat} {segs : List Seg} {k : IntKind} {xs : List Int} {base len l h m : Nat} {ys : List Int} (hx : ev T x = .s (.fptr q (cellsF segs) base 0)) [hu : Und P t (.array len e)] [hs : Sz P e 1] (hsg : segAt segs base = some (.ints k len xs)) (hlo : Bnd T lo 0 l) (hhi : Bnd T hi len h) (hmx : Bnd T mx len m) (hho : (mx.isSome && hi.isNone) = false)
    (h1 : l ≤ h) (h2 : h ≤ m) (h3 : m ≤ len) (hq : base + len ≤ q) (hxl : xs.length = len) (hr : (xs.drop l).take (h - l) = ys) : LOk P ⟨d, .slice t x lo hi mx, ty, pos, af, g⟩ T H H (.s (.fzi k ys)) [] [] :=
  l_slf (xs := xs) hx hlo hhi hmx hho hu.h hs.h h1 h2 h3 (by omega) (fun i hi => by
    have h := segAt_at hsg i hi
    unfold cellsF
    rw [show base + 0 + i = base + i by omega, h]; rfl) hxl hr
theorem k_slp {t e : TypeId} {x : Operand} {q : Nat} {segs : List Seg} {k : IntKind} {xs : List Int} {base len : Nat} [hu : Und P t (.array len e)] [hs : Sz P e 1] (hx : ev T x = .s (.fptr q (cellsF segs) base 0) := by rfl) (hsg : segAt segs base = some (.ints k len xs) := by rfl) (hq : Nat.ble (base + len) q = true := by rfl) (hxl : xs.length = len := by first | assumption | exact spl_len _ _ _ _ _ | simp [*]) : LOk P ⟨d, .slice t x none none none, ty, pos, af, g⟩ T H H (.s (.fzi k xs)) [] [] :=
  a_slp (l := 0) (h := len) (m := len) hx hsg rfl rfl rfl rfl (Nat.zero_le _) (Nat.le_refl _) (Nat.le_refl _) (Nat.le_of_ble_eq_true hq) hxl (by rw [List.drop_zero, Nat.sub_zero, ← hxl, List.take_length])
end
section
variable {P : Program} {T : Tm} {H : Heap} {d : Option Tmp} {ty : TypeId} {pos : String} {af : Array Edge} {g : Option (Nat × Bool)}
end
end Go.Bx
end
