/- Code, loops, calls, entry. -/
import Derived.Test.YtffflnpidipheaaAb5
import Derived.Deep.LoopGhost
namespace Go.Ab

def Wp (E : Env) (c : Code) (T : Tm) (H : Heap) (Q : Exit → Tm → Heap → Prop) : Prop :=
  ∀ a w, Rep E T H a w → c.wp E.P (fun e a' w' => ∃ T' H', Q e T' H' ∧ Rep E T' H' a' w') a w

def Thn (K : Tm → Heap → Prop) (Q : Exit → Tm → Heap → Prop) : Exit → Tm → Heap → Prop
  | .normal, T, H => K T H
  | e, T, H => Q e T H
def Blo (i : Nat) (Q : Exit → Tm → Heap → Prop) : Exit → Tm → Heap → Prop
  | .exit j, T, H => if j = i then Q .normal T H else Q (.exit j) T H
  | e, T, H => Q e T H

section code
variable {E : Env} {T : Tm} {H : Heap} {Q : Exit → Tm → Heap → Prop}

theorem Wp.mono {c : Code} {Q' : Exit → Tm → Heap → Prop} (h : Wp E c T H Q) (hq : ∀ e T H, Q e T H → Q' e T H) : Wp E c T H Q' :=
  fun a w hr => wp_mono (h a w hr) fun _ _ _ ⟨T', H', h1, h2⟩ => ⟨T', H', hq _ _ _ h1, h2⟩

theorem w_skip (h : Q .normal T H) : Wp E .skip T H Q := fun _ _ hr => wp_skip ⟨T, H, h, hr⟩
theorem w_label {l : Nat} (h : Q .normal T H) : Wp E (.label l) T H Q := fun _ _ hr => wp_label ⟨T, H, h, hr⟩
theorem w_exit {i : Nat} (h : Q (.exit i) T H) : Wp E (.exit i) T H Q := fun _ _ hr => wp_exit ⟨T, H, h, hr⟩
theorem w_goto {i : Nat} (h : Q (.goto i) T H) : Wp E (.goto i) T H Q := fun _ _ hr => wp_goto ⟨T, H, h, hr⟩
theorem w_ret (h : Q .ret T H) : Wp E .ret T H Q := fun _ _ hr => wp_ret ⟨T, H, h, hr⟩
theorem w_seq {x y : Code} (h : Wp E x T H (Thn (fun T H => Wp E y T H Q) Q)) : Wp E (.seq x y) T H Q := by
  intro a w hr
  refine wp_seq (wp_mono (h a w hr) ?_)
  rintro e a' w' ⟨T', H', h1, h2⟩
  cases e with
  | normal => exact h1 a' w' h2
  | exit i => exact ⟨T', H', h1, h2⟩
  | goto l => exact ⟨T', H', h1, h2⟩
  | ret => exact ⟨T', H', h1, h2⟩
  | panic ch => exact ⟨T', H', h1, h2⟩
  | outgrown => exact ⟨T', H', h1, h2⟩
theorem w_block {i : Nat} {c : Code} (h : Wp E c T H (Blo i Q)) : Wp E (.block i c) T H Q := by
  intro a w hr
  refine wp_block (wp_mono (h a w hr) ?_)
  rintro e a' w' ⟨T', H', h1, h2⟩
  cases e with
  | normal => exact ⟨T', H', h1, h2⟩
  | exit j =>
    simp only [Exit.inBlock]
    simp only [Blo] at h1
    split <;> rename_i hj
    · rw [if_pos hj] at h1; exact ⟨T', H', h1, h2⟩
    · rw [if_neg hj] at h1; exact ⟨T', H', h1, h2⟩
  | goto l => exact ⟨T', H', h1, h2⟩
  | ret => exact ⟨T', H', h1, h2⟩
  | panic ch => exact ⟨T', H', h1, h2⟩
  | outgrown => exact ⟨T', H', h1, h2⟩

theorem eval_tmp {ρ : Rho} {a : Act} (hT : TRep ρ T a) {t : Nat} {b : Bool} (h : look T t = .s (.bool b)) : a.eval (.tmp t) = .bool b := by
  have := hT t
  rw [h] at this
  exact this

theorem w_cond {t : Nat} {x y : Code} {b : Bool} (hc : look T t = .s (.bool b)) (h1 : b = true → Wp E x T H Q) (h2 : b = false → Wp E y T H Q) : Wp E (.cond (.tmp t) x y) T H Q := by
  intro a w hr
  obtain ⟨ρ, k1, k2, k3, k4, k5, k6, k7⟩ := hr
  exact wp_cond_split (eval_tmp k4 hc) (fun e => h1 e a w ⟨ρ, k1, k2, k3, k4, k5, k6, k7⟩) (fun e => h2 e a w ⟨ρ, k1, k2, k3, k4, k5, k6, k7⟩)

theorem w_region {id : Nat} {ops : Array Oper} {T' : Tm} {H' : Heap} (hok : regionOk E.n ops = true) {l : List Oper} (hl : ops.toList = l) (hs : Steps E.P ops l T H T' H') (hq : Q .normal T' H') : Wp E (.region id ops false) T H Q := by
  subst hl
  intro a w hr
  refine wp_region ?_
  have := steps_wpOps (Q := fun e a' w' => ∃ T' H', Q e T' H' ∧ Rep E T' H' a' w') hok hs 0 (fun j => by simp) a w hr (fun a' w' hr' => ⟨T', H', hq, hr'⟩)
  simpa [List.range_eq_range'] using this

theorem w_region_any {id : Nat} {ops : Array Oper} (m : Nat) {T1 T' : Tm} {H1 H' : Heap} (hmix : E.P.follows .mixedOrders = true) (hok : regionOk E.n ops = true) (hany : anyOk ops m = true) {l1 l2 : List Oper} (hl : ops.toList = l1 ++ l2) (hm : l1.length = m)
    (h1 : HSteps E.P ops l1 T H T1 H1) (h2 : Steps E.P ops l2 T1 H1 T' H') (hq : Q .normal T' H') : Wp E (.region id ops true) T H Q :=
  fun _ _ hr => region_any hmix hok hany hl hm h1 h2 hr fun _ _ hr' => ⟨T', H', hq, hr'⟩

/-! ### Less is known -/
def SV.lowB (n : Nat) : SV → Bool
  | .ptr id _ _ => Nat.blt id n
  | .slice id _ _ _ _ => Nat.blt id n
  | .slx id _ _ _ => Nat.blt id n
  | .clo _ caps => caps.all fun c => Nat.blt c.1 n
  | _ => true
def Seg.lowB (n : Nat) : Seg → Bool
  | .one v => v.lowB n
  | .ints .. => true
  | .svs .. => false
def AV.lowB (n : Nat) : AV → Bool
  | .s v => v.lowB n
  | .agg l => l.all (Seg.lowB n)
  | .tup l => l.all fun | .s v => v.lowB n | .agg l => l.all (Seg.lowB n) | .tup _ => false
def belowAll (T : Tm) (H : Heap) : Bool := T.all (fun p => p.2.lowB H.length) && H.all fun | none => true | some k => k.segs.all (Seg.lowB H.length)

def cutR (ρ : Rho) (n : Nat) : Rho := fun id => if id < n then ρ id else none

theorem SV.rep_cut {ρ : Rho} {n : Nat} {x : SV} {v : Value} (h : x.rep ρ v) (hb : x.lowB n = true) : x.rep (cutR ρ n) v := by
  cases x <;> simp only [SV.rep, SV.lowB] at * <;> first
    | exact h
    | (obtain ⟨b, o, h1, h2⟩ := h; exact ⟨b, o, by simp [cutR, Nat.blt_eq.mp hb, h1], h2⟩)
    | (obtain ⟨b, o, c, h1, h2⟩ := h; exact ⟨b, o, c, by simp [cutR, Nat.blt_eq.mp hb, h1], h2⟩)
    | (obtain ⟨vs, h1, h2, h3⟩ := h; exact ⟨vs, h1, h2, fun i c hc => let ⟨b, o, h4, h5⟩ := h3 i c hc; ⟨b, o, by simp [cutR, Nat.blt_eq.mp (List.all_eq_true.1 hb c (List.mem_of_getElem? hc)), h4], h5⟩⟩)

theorem atS_below {n : Nat} : ∀ {l : List Seg} {i : Nat} {x : SV}, l.all (Seg.lowB n) = true → atS l i = some x → x.lowB n = true
  | [], _, _, _, h => by simp [atS] at h
  | s :: r, i, x, hb, h => by
    simp only [List.all_cons, Bool.and_eq_true] at hb
    simp only [atS] at h
    by_cases hi : i < s.size
    · rw [if_pos hi] at h
      have h := Option.some.inj h
      subst h
      cases s with
      | one v => exact hb.1
      | ints k m l => rfl
      | svs m f => simp [Seg.lowB] at hb
    · rw [if_neg hi] at h
      exact atS_below hb.2 h

theorem RowRep.cut {ρ : Rho} {n : Nat} {l : List Seg} {g : Nat → Option Value} (h : RowRep ρ l g) (hb : l.all (Seg.lowB n) = true) : RowRep (cutR ρ n) l g := fun i x hx => by
  obtain ⟨v, h1, h2, h3⟩ := h i x hx
  exact ⟨v, h1, SV.rep_cut h2 (atS_below hb hx), h3⟩

theorem AV.rep_cut {ρ : Rho} {n : Nat} {x : AV} {v : Value} (h : x.rep ρ v) (hb : x.lowB n = true) : x.rep (cutR ρ n) v := by
  cases x with
  | s x => exact SV.rep_cut h hb
  | agg l => obtain ⟨cs, e1, e2, e3⟩ := h; exact ⟨cs, e1, e2, e3.cut hb⟩
  | tup l =>
    obtain ⟨vs, e1, e2⟩ := h
    simp only [AV.lowB, List.all_eq_true] at hb
    refine ⟨vs, e1, fun i x hx => ?_⟩
    obtain ⟨u, hu, hr⟩ := e2 i x hx
    have h2 := hb x (List.mem_of_getElem? hx)
    refine ⟨u, hu, ?_⟩
    cases x with
    | s x => exact SV.rep_cut hr h2
    | agg l => obtain ⟨cs, e1, e2, e3⟩ := hr; exact ⟨cs, e1, e2, e3.cut h2⟩
    | tup l => exact hr.elim

def Weak (E : Env) (T : Tm) (H : Heap) (T' : Tm) (H' : Heap) : Prop := ∀ a w, Rep E T H a w → Rep E T' H' a w

theorem look_mem (T' : Tm) (t : Nat) : look T' t = .s .junk ∨ ∃ p ∈ T', p.1 = t ∧ look T' t = p.2 := by
  induction T' with
  | nil => exact .inl rfl
  | cons p r ih =>
    obtain ⟨j, v⟩ := p
    rw [look_cons]
    by_cases h : j = t
    · exact .inr ⟨(j, v), by simp, h, by simp [h]⟩
    · rw [if_neg h]
      rcases ih with h1 | ⟨p, h1, h2, h3⟩
      · exact .inl h1
      · exact .inr ⟨p, by simp [h1], h2, h3⟩

theorem weak {T' : Tm} {H' : Heap} (hT : ∀ p ∈ T', look T p.1 = p.2) (hH : H.take H'.length = H') (hb : belowAll T' H' = true) (hn : E.nE ≤ H'.length) : Weak E T H T' H' := by
  intro a w ⟨ρ, h1, h2, h3, h4, h5, h6, h7⟩
  simp only [belowAll, Bool.and_eq_true, List.all_eq_true] at hb
  have hget : ∀ (id : Nat) (k : Blk), H'[id]? = some (some k) → H[id]? = some (some k) := by
    intro id k hk
    rw [← hH] at hk
    rw [List.getElem?_take] at hk
    split at hk
    · exact hk
    · cases hk
  have hseg : ∀ (id : Nat) (k : Blk), H'[id]? = some (some k) → k.segs.all (Seg.lowB H'.length) = true := by
    intro id k hk
    exact hb.2 _ (List.mem_of_getElem? hk)
  have hc : ∀ id x, cutR ρ H'.length id = some x → ρ id = some x := by
    intro id x hx
    unfold cutR at hx
    split at hx
    · exact hx
    · cases hx
  refine ⟨cutR ρ H'.length, fun id x hx => ?_, fun id hid => by simp [cutR]; omega, ⟨fun id b o hr => h3.lt id b o (hc _ _ hr), fun id b o k hr hk => ?_, fun id id' b o o' k k' hne a1 a2 a3 a4 => h3.apart id id' b o o' k k' hne (hc _ _ a1) (hc _ _ a2) (hget _ _ a3) (hget _ _ a4)⟩, fun t => ?_, h5, h6, h7⟩
  · have := h1 id x hx
    have hid : id < H'.length := by
      rcases Nat.lt_or_ge id H'.length with h | h
      · exact h
      · rw [E.hdom id (by omega)] at hx; cases hx
    simp [cutR, hid, this]
  · obtain ⟨⟨cells, t, fr, g1, g2, g3⟩, hw⟩ := h3.rep id b o k (hc _ _ hr) (hget _ _ hk)
    exact ⟨⟨cells, t, fr, g1, g2, g3.cut (hseg id k hk)⟩, hw⟩
  · rcases look_mem T' t with h | ⟨p, hp, rfl, h⟩
    · rw [h]; trivial
    · rw [h]
      have hr := h4 p.1
      rw [hT p hp] at hr
      have hbl := hb.1 p hp
      cases hv : p.2 with
      | s v => rw [hv] at hr hbl; exact SV.rep_cut hr hbl
      | agg l =>
        rw [hv] at hr hbl
        obtain ⟨cs, e1, e2, e3⟩ := hr
        exact ⟨cs, e1, e2, e3.cut hbl⟩
      | tup l => rw [hv] at hr hbl; exact AV.rep_cut hr hbl

theorem w_weak {c : Code} {T' : Tm} {H' : Heap} (hw : Weak E T H T' H') (h : Wp E c T' H' Q) : Wp E c T H Q := fun a w hr => h a w (hw a w hr)

theorem w_loop {c : Code} (I : Nat → Tm → Heap → Prop) (n0 : Nat) (h0 : ∃ T' H', Weak E T H T' H' ∧ I n0 T' H')
    (round : ∀ n T H, I n T H → Wp E c T H (Thn (fun T1 H1 => ∃ n', n' < n ∧ ∃ T2 H2, Weak E T1 H1 T2 H2 ∧ I n' T2 H2) Q)) : Wp E (.loop c) T H Q := by
  intro a w hr
  obtain ⟨T', H', hw, hI⟩ := h0
  refine wp_loop_ghost (fun n a w => ∃ T H, I n T H ∧ Rep E T H a w) n0 ⟨T', H', hI, hw a w hr⟩ ?_
  rintro n a w ⟨T, H, hI, hr⟩
  refine wp_mono (round n T H hI a w hr) ?_
  rintro e a' w' ⟨T1, H1, h1, h2⟩
  cases e with
  | normal =>
    obtain ⟨n', hlt, T2, H2, hw2, hI2⟩ := h1
    exact ⟨n', hlt, T2, H2, hI2, hw2 _ _ h2⟩
  | exit i => exact ⟨T1, H1, h1, h2⟩
  | goto l => exact ⟨T1, H1, h1, h2⟩
  | ret => exact ⟨T1, H1, h1, h2⟩
  | panic ch => exact ⟨T1, H1, h1, h2⟩
  | outgrown => exact ⟨T1, H1, h1, h2⟩
end code

/-! ### Calls -/
def ArgsRep (ρ : Rho) (args : List AV) (vals : Array Value) : Prop := vals.size = args.length ∧ ∀ (i : Nat) (x : AV), args[i]? = some x → x.rep ρ (vals.getD i undef)

def ACall (P : Program) (f : FuncId) (H : Heap) (args : List AV) (v : AV) (nb : List Blk) : Prop :=
  ∀ (W : Nat → Prop) (ρ : Rho) (vals : Array Value) (w : World), HRep W ρ H w → (∀ i, i < nb.length → ρ (H.length + i) = none) → ArgsRep ρ args vals →
    Calls P f vals w fun e w' => ∃ v' ρ', e = .returned v' ∧ New ρ ρ' H.length nb w w' ∧ v.rep ρ' v'

def AMut (P : Program) (f : FuncId) (H : Heap) (args : List AV) (v : AV) (H' : Heap) : Prop :=
  ∀ (W : Nat → Prop) (ρ : Rho) (vals : Array Value) (w : World), HRep W ρ H w → (∀ id, H.length ≤ id → ρ id = none) → (∀ b, w.heap.size ≤ b → W b) → ArgsRep ρ args vals →
    Calls P f vals w fun e w' => ∃ v' ρ', e = .returned v' ∧ (∀ id, H'.length ≤ id → ρ' id = none) ∧ Rle ρ ρ' ∧ HRep W ρ' H' w' ∧ Fr W w w' ∧ v.rep ρ' v'

def Callable (P : Program) (f : FuncId) : Prop := ∃ fn, P.funcs[f]? = some fn ∧ (fn.name == "runtime.NumGoroutine") = false ∧ fn.body.isNone = false

section rules
variable {P : Program} {T : Tm} {H : Heap} {d : Option Tmp} {ty : TypeId} {pos : String} {af : Array Edge} {g : Option (Nat × Bool)}

theorem run_callFunc {f : FuncId} (hf : Callable P f) (vals : Array Value) (w : World) : (callFunc f vals).run P w = .ok (.enter f vals) w := by
  obtain ⟨fn, h1, h2, h3⟩ := hf
  have h2' : ¬ fn.name = "runtime.NumGoroutine" := by simpa using h2
  have h3' : ¬ fn.body = none := by intro h; rw [h] at h3; simp at h3
  simp [callFunc, Sem.run_bind, h1, h2', h3']

theorem run_call {f : FuncId} (hf : Callable P f) (xs : Array Operand) (at_ : Array TypeId) (a : Act) (w : World) :
    (execOp a.eval ⟨d, .call ⟨.value (.func f), xs, at_⟩, ty, pos, af, g⟩).run P w = .ok (.enter f (xs.map a.eval)) w := by
  simp [execOp, resolve, Deferred.ofValue, invoke, Act.eval, Sem.run_bind, run_callFunc hf]

theorem argsRep {xs : Array Operand} {at_ : Array TypeId} {f : FuncId} {args : List AV} {ρ : Rho} {a : Act} (ho : Ops ⟨d, .call ⟨.value (.func f), xs, at_⟩, ty, pos, af, g⟩ T ρ a) (hargs : xs.toList.map (ev T) = args) : ArgsRep ρ args (xs.map a.eval) := by
  subst hargs
  refine ⟨by simp, fun i x hx => ?_⟩
  simp at hx
  obtain ⟨y, hy, rfl⟩ := hx
  have hm : y ∈ (Op.call ⟨.value (.func f), xs, at_⟩).operands := by
    simp only [Op.operands, Call.operands]
    exact Array.mem_append.2 (.inr (Array.mem_of_getElem? hy))
  have := ho y hm
  simpa [hy] using this

theorem h_call {f : FuncId} {xs : Array Operand} {at_ : Array TypeId} {args : List AV} {v : AV} {nb : List Blk} (hf : Callable P f) (hargs : xs.toList.map (ev T) = args) (h : ACall P f H args v nb) :
    HOk P ⟨d, .call ⟨.value (.func f), xs, at_⟩, ty, pos, af, g⟩ T H v nb := by
  intro W ρ a w hH hn ho next Q hq
  rw [run_call hf]
  refine (h W ρ _ w hH hn (argsRep ho hargs)).mono ?_
  rintro e w' ⟨v', ρ', rfl, h1, h2⟩
  exact hq v' w' ⟨ρ', h1, h2⟩

theorem m_call {f : FuncId} {xs : Array Operand} {at_ : Array TypeId} {args : List AV} {v : AV} {H' : Heap} (hf : Callable P f) (hargs : xs.toList.map (ev T) = args) (h : AMut P f H args v H') :
    MOk P ⟨d, .call ⟨.value (.func f), xs, at_⟩, ty, pos, af, g⟩ T H v H' := by
  intro W ρ a w hH hn hW ho next Q hq
  rw [run_call hf]
  refine (h W ρ _ w hH hn hW (argsRep ho hargs)).mono ?_
  rintro e w' ⟨v', ρ', rfl, h1, h2, h3, h4, h5⟩
  exact hq v' w' ⟨ρ', h1, h2, h3, h4, h5⟩
end rules

/-! ### Entry -/
def argT : Nat → List AV → Tm
  | _, [] => []
  | i, v :: r => (i, v) :: argT (i + 1) r

theorem look_argT : ∀ (l : List AV) (i t : Nat), look (argT i l) t = if i ≤ t then (l[t - i]?).getD (.s .junk) else .s .junk
  | [], i, t => by simp [argT, look]
  | v :: r, i, t => by
    simp only [argT, look_cons, look_argT r (i + 1) t]
    by_cases h : i = t
    · subst h; simp
    · rw [if_neg h]
      by_cases h2 : i + 1 ≤ t
      · rw [if_pos h2, if_pos (by omega), show t - i = (t - (i + 1)) + 1 by omega]; simp
      · rw [if_neg h2, if_neg (by omega)]

/-- What a function gives back. -/
def Ret (E : Env) (fn : Func) (T : Tm) (H : Heap) (v : AV) : Prop :=
  ∀ (ρ : Rho) (a : Act) (w : World), HRep E.W ρ H w → TRep ρ T a → ∃ v', (results fn a.tmps).run E.P w = .ok v' w ∧ v.rep ρ v'

def Done (E : Env) (fn : Func) (v : AV) (H' : Heap) : Exit → Tm → Heap → Prop := fun e T H => (e = .ret ∨ e = .normal) ∧ Ret E fn T H v ∧ Weak E T H [] H'

theorem leaves_marks {P : Program} {fn : Func} {tmps : Array Value} {R : Ending → World → Prop} {W : Nat → Prop} {w0 : World} {ρ : Rho} {H : Heap} (hres : ∀ w, HRep W ρ H w → Fr W w0 w → ∃ v, (results fn tmps).run P w = .ok v w ∧ R (.returned v) w) :
    ∀ (ds : List Deferred) (w : World), DefOk w0 ds w → HRep W ρ H w → Fr W w0 w → LeavesInM Fence.wide 0 P fn tmps R ds .returning w := by
  intro ds
  induction ds with
  | nil =>
    intro w _ hH hF
    exact hres w hH hF
  | cons d ds ih =>
    intro w hd hH hF
    obtain ⟨D, e1, e2, e3⟩ := hd.mark d (by simp)
    have hlt : D < w.heap.size := (Array.getElem?_eq_some_iff.1 e3).1
    have ho : ∀ k, k ≠ D → (w.putObj D (.deferred none)).heap[k]? = w.heap[k]? := fun k hk => World.putObj_heap_other hk
    refine ⟨by simp, .inl ⟨D, w.putObj D (.deferred none), by rw [e1], run_takeDeferred e3, ih _ ⟨(List.nodup_cons.1 hd.nodup).2, fun d' hd' => ?_⟩ ⟨fun id b o h => by simpa using hH.lt id b o h, fun id b o k h hk => ?_, hH.apart⟩ ⟨hF.os, hF.tape, hF.output, by simpa using hF.size, fun k hk hn => ?_, fun k o hk hc => ?_⟩⟩⟩
    · obtain ⟨D', f1, f2, f3⟩ := hd.mark d' (by simp [hd'])
      refine ⟨D', f1, f2, ?_⟩
      rw [ho D' ?_]
      · exact f3
      · intro e
        subst e
        rw [← e1] at f1
        subst f1
        exact (List.nodup_cons.1 hd.nodup).1 hd'
    · have hr := hH.rep id b o k h hk
      refine ⟨hr.1.world (ho b ?_), hr.2⟩
      intro e
      subst e
      obtain ⟨cells, t, fr, g1, _⟩ := hr.1
      rw [e3] at g1; cases g1
    · rw [ho k (by omega)]; exact hF.block k hk hn
    · have : k < w0.heap.size := (Array.getElem?_eq_some_iff.1 hk).1
      rw [ho k (by omega)]; exact hF.others k o hk hc
theorem calls_enter {P : Program} {f : FuncId} {fn : Func} {c : Code} (hf : P.funcs[f]? = some fn) (hb : fn.body = some c) {W : Nat → Prop} {w : World} {ρ0 : Rho} {H0 : Heap} {args : List AV} {vals : Array Value} (hW : ∀ b, w.heap.size ≤ b → W b)
    (hH : HRep W ρ0 H0 w) (hdom : ∀ id, H0.length ≤ id → ρ0 id = none) (hargs : ArgsRep ρ0 args vals) (hn : args.length ≤ fn.ntmps) {R : Ending → World → Prop}
    (h : Wp ⟨P, W, w, ρ0, fn.ntmps, H0.length, hW, hdom⟩ c (argT 0 args) H0 (fun e T H => (e = .ret ∨ e = .normal) ∧ ∃ v, Ret ⟨P, W, w, ρ0, fn.ntmps, H0.length, hW, hdom⟩ fn T H v ∧
      ∀ v' ρ' w', v.rep ρ' v' → Rle ρ0 ρ' → HRep W ρ' H w' → (∀ id, H.length ≤ id → ρ' id = none) → Fr W w w' → R (.returned v') w')) : Calls P f vals w R := by
  refine (callsIn_wide (n := 0)).1 (callsIn_of_wp_marks hf hb trivial (wpIn_wide.2 (wp_mono (h _ w ⟨ρ0, .refl _, hdom, hH, fun t => ?_, ?_, DefOk.nil _ _, .refl _ _⟩) ?_)))
  · rw [look_argT, if_pos (Nat.zero_le _), Nat.sub_zero]
    cases hx : args[t]? with
    | none => trivial
    | some x =>
      have hlt : t < vals.size := by
        rw [hargs.1]
        exact (List.getElem?_eq_some_iff.1 hx).1
      have := hargs.2 t x hx
      simp only [Option.getD_some]
      simp only [Array.getD_eq_getD_getElem?] at this ⊢
      rw [Array.getElem?_append_left hlt]
      exact this
  · simp; have := hargs.1; omega
  · rintro e a' w' ⟨T, H, ⟨he, v, hret, hR⟩, ρ', k1, k2, k3, k4, k5, k6, k7⟩
    have hl : LeavesInM Fence.wide 0 P fn a'.tmps R a'.defers .returning w' := leaves_marks (W := W) (w0 := w) (ρ := ρ') (H := H) (fun w2 h1 h2 => by
      obtain ⟨v', hv, hrep⟩ := hret ρ' a' w2 h1 k4
      exact ⟨v', hv, hR v' ρ' w2 hrep k1 h1 k2 h2⟩) a'.defers w' k6 k3 k7
    rcases he with rfl | rfl
    · exact hl
    · exact hl

theorem amut_of {P : Program} {f : FuncId} {fn : Func} {c : Code} (hf : P.funcs[f]? = some fn) (hb : fn.body = some c) {H0 H' : Heap} {args : List AV} {v : AV} (hn : args.length ≤ fn.ntmps)
    (h : ∀ E : Env, E.P = P → E.n = fn.ntmps → E.nE = H0.length → Wp E c (argT 0 args) H0 (fun e T H => (e = .ret ∨ e = .normal) ∧ H = H' ∧ Ret E fn T H v)) : AMut P f H0 args v H' := by
  intro W ρ vals w hH hdom hW hargs
  refine calls_enter hf hb hW hH hdom hargs hn ((h ⟨P, W, w, ρ, fn.ntmps, H0.length, hW, hdom⟩ rfl rfl rfl).mono ?_)
  rintro e T H ⟨he, rfl, hret⟩
  exact ⟨he, v, hret, fun v' ρ' w' h1 h2 h3 h4 h5 => ⟨v', ρ', rfl, h4, h2, h3, h5, h1⟩⟩

/-! Results -/
theorem ret_tmp {E : Env} {fn : Func} {T : Tm} {H : Heap} {v : AV} {t : Nat} (hr : fn.results = #[.tmp t]) (hv : look T t = v) : Ret E fn T H v := by
  intro ρ a w hH hT
  refine ⟨a.tmps.getD t undef, by simp [results, hr, Sem.run_bind], ?_⟩
  rw [← hv]; exact hT t

theorem run_load_sub {P : Program} {ρ : Rho} {k : Blk} {w : World} {b o p n : Nat} {sub : List Seg} {ty : TypeId} (hB : BRep ρ k w b o) (hs : SubS k.segs p n sub)
    (ha : ∀ w, (isAgg ty).run P w = .ok true w) (hz : ∀ w, (sizeOf ty).run P w = .ok n w) : ∃ v', (loadVar ty ⟨b, o + p, none⟩).run P w = .ok v' w ∧ (AV.agg sub).rep ρ v' := by
  obtain ⟨cells, tt, fr, g1, g2, g3⟩ := hB
  have hcs : ∃ cs : List Value, cs.length = n ∧ ∀ j, j < n → cs[j]? = cells[o + (p + j)]? := by
    refine ⟨(cells.toList.drop (o + p)).take n, ?_, fun j hj => ?_⟩
    · rcases Nat.eq_zero_or_pos n with h0 | h0
      · simp [h0]
      · obtain ⟨y, hy⟩ := (hs.2 (n - 1) (by omega)).2
        obtain ⟨v, hv, _⟩ := g3 _ y hy
        have : o + (p + (n - 1)) < cells.size := by
          rcases Nat.lt_or_ge (o + (p + (n - 1))) cells.size with h | h
          · exact h
          · simp [Array.getElem?_eq_none h] at hv
        simp; omega
    · simp [List.getElem?_take, hj, Nat.add_assoc]
  obtain ⟨cs, hl, hc⟩ := hcs
  have hload := run_loadCells_list (P := P) w ⟨b, o + p, none⟩ cs (fun j v hv => by
    have hj : j < n := by
      rcases Nat.lt_or_ge j n with h | h
      · exact h
      · rw [List.getElem?_eq_none (by omega)] at hv; cases hv
    rw [addr_add]
    have := hc j hj
    simp [World.cell?, g1]
    rw [Nat.add_assoc, ← this, hv])
  rw [hl] at hload
  refine ⟨.agg cs.toArray, by simp [loadVar, Sem.run_bind, ha, hz, hload], cs.toArray, rfl, by simp [hl, hs.1], fun i y hy => ?_⟩
  have hi : i < n := by rw [← hs.1]; exact atS_lt hy
  rw [(hs.2 i hi).1] at hy
  obtain ⟨v, hv, hr⟩ := g3 _ y hy
  exact ⟨v, by simp only [List.getElem?_toArray]; rw [hc i hi]; exact hv, hr⟩

theorem ret_cell_agg {E : Env} {fn : Func} {T : Tm} {H : Heap} {p id n : Nat} {ty : TypeId} {k : Blk} {segs : List Seg} (hr : fn.results = #[.cell p ty]) (hp : look T p = .s (.ptr id 0 0)) (hb : H[id]? = some (some k)) (hs : SubS k.segs 0 n segs)
    (ha : ∀ w, (isAgg ty).run E.P w = .ok true w) (hz : ∀ w, (sizeOf ty).run E.P w = .ok n w) : Ret E fn T H (.agg segs) := by
  intro ρ a w hH hT
  have hx := hT p
  rw [hp] at hx
  obtain ⟨b, o, hρ, hx⟩ := hx
  obtain ⟨v', h3, h4⟩ := run_load_sub (P := E.P) (hH.rep id b o k hρ hb).1 hs ha hz
  refine ⟨v', ?_, h4⟩
  have hx'' : a.tmps[p]?.getD undef = .pointer (some ⟨b, o, none⟩) := by simpa using hx
  simp [results, hr, Sem.run_bind, hx'', asAddr]
  simpa using h3

end Go.Ab
