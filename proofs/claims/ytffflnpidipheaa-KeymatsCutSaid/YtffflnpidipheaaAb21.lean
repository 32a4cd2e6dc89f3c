/- Loops over functions: rounds. No program. -/
import Derived.Test.YtffflnpidipheaaAb20
import Derived.RangeFuncRecord
import Derived.RangeFuncCalls
namespace Go.Ab
/-- The wide fence, in a frame of such a make. -/
def FW (r : Option Nat) : Fence := { Fence.wide with round := r }
def noDefer (ops : Array Oper) : Bool := ops.toList.all fun o => match o.op with | .defer .. => false | _ => true
theorem noDefer_op {ops : Array Oper} (h : noDefer ops = true) {i : Nat} {o : Oper} (ho : ops[i]? = some o) : ∀ c, o.op ≠ .defer c := by
  intro c e
  have := List.all_eq_true.1 h o (List.mem_of_getElem? (i := i) (by simpa using ho))
  rw [e] at this; cases this
theorem upon_in {P : Program} {o : Oper} {a : Act} {next : Act → World → Prop} {Q : Exit → Act → World → Prop} {r : Result Next} {ro : Option Nat} (h : o.upon P a next Q r) : o.uponIn (FW ro) 0 P a next Q r := by
  cases r with
  | ok x w' =>
    cases x with
    | value v => exact h
    | skip => exact h
    | defer d => exact h
    | enter f args =>
      refine ⟨fun e => (by cases e), ?_⟩
      have h : Calls P f args w' _ := h
      exact CallsIn.mono (show CallsIn (FW ro) (0 - 1) P f args w' _ from (callsIn_wide (n := 0 - 1)).2 h) (fun e w hr => by cases e <;> exact hr)
    | row row args =>
      refine ⟨fun e => (by cases e), fun c cs _ => ?_⟩
      have h : Rows P row args w' _ := h
      obtain ⟨v, w2, r, s⟩ := h c cs
      exact ⟨v, w2, r, stepsIn_wide.2 s⟩
    | _ => exact h.elim
  | halt x w' => cases x <;> first | exact h | exact h.elim
theorem gives_in {P : Program} {o : Oper} {a : Act} {w : World} {R : Value → World → Prop} {next : Act → World → Prop} {Q : Exit → Act → World → Prop} {ro : Option Nat} (hd : ∀ c, o.op ≠ .defer c) (h : Gives P o a w R) (hk : ∀ v w', R v w' → next (a.put o.dst v) w') : o.wpIn (FW ro) 0 P a w next Q :=
  ⟨fun _ _ => trivial, by rw [show (FW ro).round = ro from rfl, Oper.semAt_eq _ _ _ hd]; exact upon_in (h next Q hk)⟩
theorem steps_opsIn {E : Env} {ops : Array Oper} {Q : Exit → Act → World → Prop} {ro : Option Nat} (hok : regionOk E.n ops = true) (hnd : noDefer ops = true) {l : List Oper} {T T' : Tm} {H H' : Heap} (hs : Steps E.P ops l T H T' H') :
    ∀ (k : Nat) (rest : List Nat), (∀ j, j < l.length → l[j]? = ops[k + j]?) → (∀ a w, Rep E T' H' a w → wpOpsIn (FW ro) 0 E.P ops Q rest a w) → ∀ a w, Rep E T H a w → wpOpsIn (FW ro) 0 E.P ops Q (List.range' k l.length ++ rest) a w := by
  have mstep : ∀ {o : Oper} {k : Nat} {T : Tm} {H H1 : Heap} {v : AV} {rest : List Nat}, ops[k]? = some o → Guard ops T o true → MOk E.P o T H v H1 → (∀ a w, Rep E (put T o.dst v) H1 a w → wpOpsIn (FW ro) 0 E.P ops Q rest a w) → ∀ a w, Rep E T H a w → wpOpsIn (FW ro) 0 E.P ops Q (k :: rest) a w := by
    intro o k T H H1 v rest h0 hg h hk a w ⟨ρ, h1, h2, h3, h4, h5, h6, h7⟩
    have hw := hg.wanted (ρ := ρ) (a := a) (fun j b t e1 e2 => ⟨h4 t, by rw [h5]; exact regionOk_guard hok j t e2⟩)
    have hopk := regionOk_op hok h0
    simp only [wpOpsIn, h0, hw, if_true]
    refine gives_in (noDefer_op hnd h0) (h E.W ρ a w h3 h2 (fun b hb => E.hW b (Nat.le_trans h7.size hb)) (opOk_ops hopk h4)) ?_
    rintro v' w' ⟨ρ', k1, k2, k3, k4, k5⟩
    exact hk _ _ ⟨ρ', h1.trans k2, k1, k3, (h4.le k2).put (fun i hi => by rw [h5]; exact opOk_dst hopk i hi) k5, (put_size _ _ _).trans h5, (by rw [put_defers]; exact h6.fr k4), h7.trans k4⟩
  induction hs with
  | nil => exact fun k rest _ hk a w hr => hk a w hr
  | @cons o r T H v nb T' H' hg h _ ih =>
    intro k rest hl hk a w hr
    have h0 : ops[k]? = some o := by have := hl 0 (by simp); simpa using this.symm
    rw [List.length_cons, List.range'_succ, List.cons_append]
    exact mstep h0 hg h.mok (fun a w hr => ih (k + 1) rest (fun j hj => by have := hl (j + 1) (by simpa using hj); simpa [Nat.add_assoc, Nat.add_comm 1 j] using this) hk a w hr) a w hr
  | @wr o r T H v H1 T' H' hg h _ ih =>
    intro k rest hl hk a w hr
    have h0 : ops[k]? = some o := by have := hl 0 (by simp); simpa using this.symm
    rw [List.length_cons, List.range'_succ, List.cons_append]
    exact mstep h0 hg h (fun a w hr => ih (k + 1) rest (fun j hj => by have := hl (j + 1) (by simpa using hj); simpa [Nat.add_assoc, Nat.add_comm 1 j] using this) hk a w hr) a w hr
  | @skip o r T H T' H' hg _ ih =>
    intro k rest hl hk a w hr
    have h0 : ops[k]? = some o := by have := hl 0 (by simp); simpa using this.symm
    rw [List.length_cons, List.range'_succ, List.cons_append]
    obtain ⟨ρ, h1, h2, h3, h4, h5, h6, h7⟩ := hr
    have hw := hg.wanted (ρ := ρ) (a := a) (fun j b t e1 e2 => ⟨h4 t, by rw [h5]; exact regionOk_guard hok j t e2⟩)
    have hopk := regionOk_op hok h0
    simp only [wpOpsIn, h0, hw, Bool.false_eq_true, if_false]
    refine ⟨fun _ _ => trivial, ih (k + 1) rest (fun j hj => by have := hl (j + 1) (by simpa using hj); simpa [Nat.add_assoc, Nat.add_comm 1 j] using this) hk _ _ ⟨ρ, h1, h2, h3, h4.put (fun i hi => by rw [h5]; exact opOk_dst hopk i hi) trivial, (put_size _ _ _).trans h5, (by rw [put_defers]; exact h6), h7⟩⟩

def WpI (ro : Option Nat) (E : Env) (c : Code) (T : Tm) (H : Heap) (Q : Exit → Tm → Heap → Prop) : Prop :=
  ∀ a w, Rep E T H a w → c.wpIn (FW ro) 0 E.P (fun e a' w' => ∃ T' H', Q e T' H' ∧ Rep E T' H' a' w') a w
section code
variable {ro : Option Nat} {E : Env} {T : Tm} {H : Heap} {Q : Exit → Tm → Heap → Prop}
theorem i_of {c : Code} (h : WpI none E c T H Q) : Wp E c T H Q := fun a w hr => (wpIn_wide (n := 0)).1 (h a w hr)
theorem i_wp {c : Code} (h : Wp E c T H Q) : WpI none E c T H Q := fun a w hr => (wpIn_wide (n := 0)).2 (h a w hr)
theorem i_skip (h : Q .normal T H) : WpI ro E .skip T H Q := fun _ _ hr => wpIn_skip ⟨T, H, h, hr⟩
theorem i_exit {i : Nat} (h : Q (.exit i) T H) : WpI ro E (.exit i) T H Q := fun _ _ hr => wpIn_exit ⟨T, H, h, hr⟩
theorem i_ret (h : Q .ret T H) : WpI ro E .ret T H Q := fun _ _ hr => wpIn_ret ⟨T, H, h, hr⟩
theorem i_seq {x y : Code} (h : WpI ro E x T H (Thn (fun T H => WpI ro E y T H Q) Q)) : WpI ro E (.seq x y) T H Q := by
  intro a w hr
  refine wpIn_seq (wpIn_mono (h a w hr) ?_)
  rintro e a' w' ⟨T', H', h1, h2⟩
  cases e with
  | normal => exact h1 a' w' h2
  | exit i => exact ⟨T', H', h1, h2⟩
  | goto l => exact ⟨T', H', h1, h2⟩
  | ret => exact ⟨T', H', h1, h2⟩
  | panic ch => exact ⟨T', H', h1, h2⟩
  | outgrown => exact ⟨T', H', h1, h2⟩
theorem i_block {i : Nat} {c : Code} (h : WpI ro E c T H (Blo i Q)) : WpI ro E (.block i c) T H Q := by
  intro a w hr
  refine wpIn_block (wpIn_mono (h a w hr) ?_)
  rintro e a' w' ⟨T', H', h1, h2⟩
  cases e with
  | normal => exact ⟨T', H', h1, h2⟩
  | exit j =>
    simp only [Exit.inBlock]
    simp only [Blo] at h1
    split <;> rename_i hj
    · rw [if_pos hj] at h1; exact ⟨T', H', h1, h2⟩
    · rw [if_neg hj] at h1; exact ⟨T', H', h1, h2⟩
  | goto l => exact ⟨T', H', h1, h2⟩
  | ret => exact ⟨T', H', h1, h2⟩
  | panic ch => exact ⟨T', H', h1, h2⟩
  | outgrown => exact ⟨T', H', h1, h2⟩
theorem i_cond {t : Nat} {x y : Code} {b : Bool} (hc : look T t = .s (.bool b)) (h1 : b = true → WpI ro E x T H Q) (h2 : b = false → WpI ro E y T H Q) : WpI ro E (.cond (.tmp t) x y) T H Q := by
  intro a w hr
  obtain ⟨ρ, k1, k2, k3, k4, k5, k6, k7⟩ := hr
  exact wpIn_cond_split (eval_tmp k4 hc) (fun e => h1 e a w ⟨ρ, k1, k2, k3, k4, k5, k6, k7⟩) (fun e => h2 e a w ⟨ρ, k1, k2, k3, k4, k5, k6, k7⟩)
theorem i_reg {id : Nat} {ops : Array Oper} {l : List Oper} (hok : regionOk E.n ops = true) (hnd : noDefer ops = true) (hl : ops.toList = l) (h : SK E.P ops l T H (Q .normal)) : WpI ro E (.region id ops false) T H Q := by
  obtain ⟨T', H', hs, hq⟩ := h
  subst hl
  intro a w hr
  refine wpIn_region ?_
  have := steps_opsIn (ro := ro) (Q := fun e a' w' => ∃ T' H', Q e T' H' ∧ Rep E T' H' a' w') hok hnd hs 0 [] (fun j _ => by simp) (fun a w hr => ⟨T', H', hq, hr⟩) a w hr
  simpa [List.range_eq_range'] using this
/-- A region, one of whose operations asks for a round. -/
theorem i_regY {id : Nat} {ops : Array Oper} {l1 l2 : List Oper} {y : Oper} (k : Nat) (hok : regionOk E.n ops = true) (hnd : noDefer ops = true) (hk : ops[k]? = some y) (hl1 : ops.toList.take k = l1) (hl2 : ops.toList.drop (k + 1) = l2) (hg : y.guard = none)
    (h1 : SK E.P ops l1 T H fun T1 H1 => ∃ T2 H2, (∀ a w, Rep E T1 H1 a w → ∀ (K : Act → World → Prop) (Q' : Exit → Act → World → Prop), (∀ a' w', Rep E T2 H2 a' w' → K a' w') → y.wpIn (FW ro) 0 E.P a w K Q') ∧ SK E.P ops l2 T2 H2 (Q .normal)) : WpI ro E (.region id ops false) T H Q := by
  obtain ⟨T1, H1, hs, T2, H2, hy, T3, H3, hs2, hq⟩ := h1
  intro a w hr
  refine wpIn_region ?_
  have hks : k < ops.size := (Array.getElem?_eq_some_iff.1 hk).1
  have e1 : l1.length = k := by rw [← hl1, List.length_take, Array.length_toList]; omega
  have e2 : l2.length = ops.size - (k + 1) := by rw [← hl2, List.length_drop, Array.length_toList]
  have hr0 : List.range ops.size = List.range' 0 l1.length ++ k :: (List.range' (k + 1) l2.length ++ []) := by
    rw [List.range_eq_range', e1, e2, List.append_nil]
    have : ops.size = k + (1 + (ops.size - (k + 1))) := by omega
    rw [this, ← List.range'_append_1, Nat.zero_add, Nat.add_comm 1, List.range'_succ]
    congr 3
    omega
  rw [hr0]
  refine steps_opsIn hok hnd hs 0 _ (fun j hj => ?_) (fun a w hr => ?_) a w hr
  · rw [← hl1, List.getElem?_take_of_lt (by omega), Nat.zero_add]; simp
  · have hw : Region.wanted y (yielded ops a.tmps) = true := by simp [Region.wanted, hg]
    simp only [wpOpsIn, hk, hw, if_true]
    refine hy a w hr _ _ fun a' w' hr' => ?_
    refine steps_opsIn (Q := fun e a' w' => ∃ T' H', Q e T' H' ∧ Rep E T' H' a' w') hok hnd hs2 (k + 1) [] (fun j hj => ?_) (fun a w hr => ⟨T3, H3, hq, hr⟩) a' w' hr'
    rw [← hl2, List.getElem?_drop]; simp
theorem i_loop {c : Code} (I : Nat → Tm → Heap → Prop) (n0 : Nat) {T' : Tm} {H' : Heap} (h0 : I n0 T' H') (hw : Weak E T H T' H')
    (round : ∀ n T H, I n T H → WpI ro E c T H (Thn (fun T1 H1 => ∃ n', n' < n ∧ ∃ T2 H2, Weak E T1 H1 T2 H2 ∧ I n' T2 H2) Q)) : WpI ro E (.loop c) T H Q := by
  intro a w hr
  let J : Nat → Act → World → Prop := fun n a w => ∃ T H, I n T H ∧ Rep E T H a w
  refine wpIn_loop (fun a w => ∃ n, J n a w) (fun a w => leastOf (fun n => J n a w)) ⟨n0, T', H', h0, hw a w hr⟩ ?_
  intro a w hI
  obtain ⟨T, H, hI', hr⟩ := (leastOf_spec hI).1
  refine wpIn_mono (round _ T H hI' a w hr) ?_
  rintro e a' w' ⟨T1, H1, h1, h2⟩
  cases e with
  | normal =>
    obtain ⟨n', hlt, T2, H2, hw2, hI2⟩ := h1
    have hJ : J n' a' w' := ⟨T2, H2, hI2, hw2 _ _ h2⟩
    exact ⟨⟨n', hJ⟩, Nat.lt_of_le_of_lt ((leastOf_spec ⟨n', hJ⟩).2 n' hJ) hlt⟩
  | exit i => exact ⟨T1, H1, h1, h2⟩
  | goto l => exact ⟨T1, H1, h1, h2⟩
  | ret => exact ⟨T1, H1, h1, h2⟩
  | panic ch => exact ⟨T1, H1, h1, h2⟩
  | outgrown => exact ⟨T1, H1, h1, h2⟩
theorem ni_wp {y : Code} (h : WpI ro E y T H Q) : Thn (fun T H => WpI ro E y T H Q) Q .normal T H := h
end code
/-! ### Rounds -/
/-- The temporaries of a round. -/
def roundT (ps : List Tmp) (vs : List AV) (T : Tm) : Tm := (ps.zip vs).foldl (fun t p => (p.1, p.2) :: t) T
/-- One round: the loop's variables, then the body, from heap to heap. -/
def YRound (P : Program) (n : Nat) (assign body : Code) (T : Tm) (H H' : Heap) : Prop :=
  ∃ Ta, ∀ (l : Nat) (W : Nat → Prop) (w : World) (ρ0 : Rho) (hW : ∀ b, w.heap.size ≤ b → W b) (hdom : ∀ id, H.length ≤ id → ρ0 id = none),
    WpI (some l) ⟨P, W, w, ρ0, n, H.length, hW, hdom⟩ assign T H (fun e T1 H1 => e = .normal ∧ Weak ⟨P, W, w, ρ0, n, H.length, hW, hdom⟩ T1 H1 Ta H) ∧
    WpI (some l) ⟨P, W, w, ρ0, n, H.length, hW, hdom⟩ body Ta H (fun e T1 H1 => e = .normal ∧ Weak ⟨P, W, w, ρ0, n, H.length, hW, hdom⟩ T1 H1 [] H')
theorem HRep.put {W : Nat → Prop} {ρ : Rho} {H : Heap} {w : World} (h : HRep W ρ H w) {l : Nat} {o : Obj} (o' : Obj) (hl : w.heap[l]? = some o) (ho : o.isCells = false) : HRep W ρ H (w.putObj l o') :=
  ⟨fun id b off e => by simpa using h.lt id b off e, fun id b off k e hk => by
    have hr := h.rep id b off k e hk
    refine ⟨hr.1.world (World.putObj_heap_other ?_), hr.2⟩
    intro e'
    subst e'
    obtain ⟨cells, t, fr, g1, _⟩ := hr.1
    rw [hl] at g1
    cases g1
    exact absurd ho (by simp [Obj.isCells]), h.apart⟩
/-- Putting an object of the loop's own, and putting it back. -/
theorem Fr.put {W : Nat → Prop} {w w' : World} {l : Nat} {o : Obj} (h : Fr W (w.putObj l o) w') (hw : W l) {o0 : Obj} (h0 : w.heap[l]? = some o0) (hb : w'.heap[l]? = some o0) : Fr W w w' :=
  ⟨h.os, h.tape, h.output, by simpa using h.size, fun k hk hn => by
    have hkl : k ≠ l := fun e => hn (e ▸ hw)
    rw [h.block k (by simpa using hk) hn, World.putObj_heap_other hkl], fun k x hk hc => by
    by_cases hkl : k = l
    · subst hkl; rw [hb, ← h0]; exact hk
    · exact h.others k x (by rw [World.putObj_heap_other hkl]; exact hk) hc⟩
theorem Fr.put' {W : Nat → Prop} {w w' : World} {l : Nat} {o : Obj} (h : Fr W w w') (hw : W l) (hn : w.heap[l]? = none ∨ ∃ o0, w.heap[l]? = some o0 ∧ o = o0) : Fr W w (w'.putObj l o) :=
  ⟨h.os, h.tape, h.output, by simpa using h.size, fun k hk hnn => by
    have hkl : k ≠ l := fun e => hnn (e ▸ hw)
    rw [World.putObj_heap_other hkl]; exact h.block k hk hnn, fun k x hk hc => by
    by_cases hkl : k = l
    · subst hkl
      rcases hn with e | ⟨o0, e, rfl⟩
      · rw [e] at hk; cases hk
      · rw [e] at hk
        cases hk
        have := h.others k o e hc
        exact World.putObj_heap_same (Array.getElem?_eq_some_iff.1 this).1
    · rw [World.putObj_heap_other hkl]; exact h.others k x hk hc⟩
theorem TRep.foldl {ρ : Rho} : ∀ (ps : List Tmp) (avs : List AV) (vs : List Value) (T : Tm) (t : Array Value), (∀ p ∈ ps, p < t.size) → ps.length = avs.length → avs.length = vs.length → TRep ρ T { tmps := t, defers := [] } → (∀ (i : Nat) (x : AV) (v : Value), avs[i]? = some x → vs[i]? = some v → x.rep ρ v) →
    TRep ρ (roundT ps avs T) { tmps := (ps.zip vs).foldl (fun t p => t.setIfInBounds p.1 p.2) t, defers := [] }
  | [], _, _, T, t, _, _, _, h, _ => h
  | p :: ps, [], _, _, _, _, h1, _, _, _ => by simp at h1
  | p :: ps, x :: avs, [], _, _, _, _, h2, _, _ => by simp at h2
  | p :: ps, x :: avs, v :: vs, T, t, hp, h1, h2, h, hv => by
    simp only [roundT, List.zip_cons_cons, List.foldl_cons]
    refine TRep.foldl ps avs vs ((p, x) :: T) (t.setIfInBounds p v) (fun q hq => by simpa using hp q (by simp [hq])) (by simpa using h1) (by simpa using h2) ?_ (fun i y u h3 h4 => hv (i + 1) y u (by simpa using h3) (by simpa using h4))
    have := TRep.put (d := some p) (a := { tmps := t, defers := [] }) h (fun i hi => by cases hi; exact hp p (by simp)) (hv 0 x v rfl rfl)
    exact this
theorem foldl_size (ps : List (Tmp × Value)) (t : Array Value) : (ps.foldl (fun t p => t.setIfInBounds p.1 p.2) t).size = t.size := by
  induction ps generalizing t with
  | nil => rfl
  | cons p r ih => rw [List.foldl_cons, ih]; simp
theorem round_in {P : Program} {n l : Nat} {fn : FuncId} {assign body : Code} {T : Tm} {H H' : Heap} {ps : Array Tmp} {avs : List AV} {vs : Array Value} {W : Nat → Prop} {ρ : Rho} {w : World} {tm : Array Value} {D : Nat}
    (hY : YRound P n assign body (roundT ps.toList avs T) H H') (hH : HRep W ρ H w) (hdom : ∀ id, H.length ≤ id → ρ id = none) (hW : ∀ b, w.heap.size ≤ b → W b) (hT : TRep ρ T { tmps := tm, defers := [] }) (hn : tm.size = n) (hWl : W l)
    (hl : w.heap[l]? = some (.loop { state := .ready, pending := none, fn, tmps := tm, params := ps, assign, body, defers := D })) (hps : ∀ p ∈ ps.toList, p < n) (hlen : ps.toList.length = avs.length) (hvs : avs.length = vs.toList.length) (hv : ∀ (i : Nat) (x : AV) (v : Value), avs[i]? = some x → vs.toList[i]? = some v → x.rep ρ v) :
    RoundIn (FW none) 0 P l fn ((ps.zip vs).foldl (fun tmps (t, a) => tmps.setIfInBounds t a) tm) assign body w fun e w' => e = .returned (.bool true) ∧ ∃ ρ', Rle ρ ρ' ∧ (∀ id, H'.length ≤ id → ρ' id = none) ∧ HRep W ρ' H' w' ∧ Fr W w w' := by
  obtain ⟨Ta, hY⟩ := hY
  obtain ⟨hA, _⟩ := hY l W w ρ hW hdom
  refine roundIn_of_wpIn (F := FW none) trivial ?_
  have htm : (ps.zip vs).foldl (fun tmps (t, a) => tmps.setIfInBounds t a) tm = (ps.toList.zip vs.toList).foldl (fun t p => t.setIfInBounds p.1 p.2) tm := by
    rw [← Array.foldl_toList, Array.toList_zip]
  rw [htm]
  have hrep : Rep ⟨P, W, w, ρ, n, H.length, hW, hdom⟩ (roundT ps.toList avs T) H { tmps := (ps.toList.zip vs.toList).foldl (fun t p => t.setIfInBounds p.1 p.2) tm, defers := [] } w :=
    ⟨ρ, .refl _, hdom, hH, TRep.foldl _ _ _ T tm (fun p hp => by rw [hn]; exact hps p hp) hlen hvs hT hv, by rw [foldl_size]; exact hn, DefOk.nil _ _, .refl _ _⟩
  refine wpIn_mono (hA _ w hrep) ?_
  rintro e a1 w1 ⟨T1, H1, ⟨rfl, hwk⟩, hr1⟩
  obtain ⟨ρ1, k1, k2, k3, k4, k5, k6, k7⟩ := hwk a1 w1 hr1
  have hl1 := k7.others l _ hl rfl
  have hlt1 : l < w1.heap.size := (Array.getElem?_eq_some_iff.1 hl1).1
  refine ⟨_, run_beginRound hl1 rfl, ?_⟩
  -- the body begins in a world of its own
  have hltw : l < w.heap.size := (Array.getElem?_eq_some_iff.1 hl).1
  obtain ⟨busy, hbusy⟩ : ∃ busy : Obj, busy = .loop { state := .busy, pending := none, fn, tmps := tm, params := ps, assign, body, defers := D } := ⟨_, rfl⟩
  let wz : World := w.putObj l busy
  let w2 : World := w1.putObj l busy
  have hWz : ∀ b, wz.heap.size ≤ b → W b := fun b hb => hW b (by simpa [wz] using hb)
  obtain ⟨_, hB⟩ := hY l W wz ρ hWz hdom
  have hl2 : wz.heap[l]? = some busy := World.putObj_heap_same hltw
  have hF2 : Fr W wz w2 := ⟨k7.os, k7.tape, k7.output, by have := k7.size; simpa [wz, w2] using this, fun k hk hnn => by
      have hkl : k ≠ l := fun e => hnn (e ▸ hWl)
      show (w1.putObj l busy).heap[k]? = (w.putObj l busy).heap[k]?
      rw [World.putObj_heap_other hkl, World.putObj_heap_other hkl]; exact k7.block k (by simpa [wz] using hk) hnn, fun k x hk hc => by
      by_cases hkl : k = l
      · subst hkl
        rw [hl2] at hk
        cases hk
        exact World.putObj_heap_same hlt1
      · have hk : (w.putObj l busy).heap[k]? = some x := hk
        rw [World.putObj_heap_other hkl] at hk
        show (w1.putObj l busy).heap[k]? = some x
        rw [World.putObj_heap_other hkl]; exact k7.others k x hk hc⟩
  have hd1 : DefOk wz a1.defers w2 := ⟨k6.nodup, fun d hd => by
    obtain ⟨D', e1, e2, e3⟩ := k6.mark d hd
    refine ⟨D', e1, by simpa [wz] using e2, ?_⟩
    show (w1.putObj l busy).heap[D']? = _
    rw [World.putObj_heap_other (by have : w.heap.size ≤ D' := e2; omega)]; exact e3⟩
  rw [← hbusy]
  refine wpIn_mono (hB a1 w2 ⟨ρ1, k1, k2, k3.put _ hl1 rfl, k4, k5, hd1, hF2⟩) ?_
  rintro e a3 w3 ⟨T3, H3, ⟨rfl, hwk3⟩, hr3⟩
  obtain ⟨ρ3, m1, m2, m3, m4, m5, m6, m7⟩ := hwk3 a3 w3 hr3
  have hl3 := m7.others l _ hl2 (by rw [hbusy]; rfl)
  have hlt3 : l < w3.heap.size := (Array.getElem?_eq_some_iff.1 hl3).1
  rw [hbusy] at hl3
  refine ⟨_, _, run_endRound none hl3, rfl, ρ3, m1, m2, m3.put _ hl3 rfl, ?_⟩
  -- what was ready is ready again
  refine ⟨m7.os, m7.tape, m7.output, by have := m7.size; simpa [wz] using this, fun k hk hnn => ?_, fun k x hk hc => ?_⟩
  · have hkl : k ≠ l := fun e => hnn (e ▸ hWl)
    rw [World.putObj_heap_other hkl, m7.block k (by simpa [wz] using hk) hnn]
    exact World.putObj_heap_other hkl
  · by_cases hkl : k = l
    · subst hkl
      rw [hl] at hk
      cases hk
      exact World.putObj_heap_same hlt3
    · rw [World.putObj_heap_other hkl]
      refine m7.others k x ?_ hc
      show (w.putObj l busy).heap[k]? = some x
      rw [World.putObj_heap_other hkl]; exact hk
end Go.Ab
