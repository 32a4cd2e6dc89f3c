/- Short forms of the rules, as a walk types them. -/
import Derived.Test.YtffflnpidipheaaAb6
namespace Go.Ab

def SK (P : Program) (ops : Array Oper) (l : List Oper) (T : Tm) (H : Heap) (K : Tm → Heap → Prop) : Prop := ∃ T' H', Steps P ops l T H T' H' ∧ K T' H'
def TK (P : Program) (ops : Array Oper) (l : List Oper) (T : Tm) (H : Heap) (l2 : List Oper) (K : Tm → Heap → Prop) : Prop := ∃ T1 H1, HSteps P ops l T H T1 H1 ∧ SK P ops l2 T1 H1 K

section steps
variable {P : Program} {ops : Array Oper} {T : Tm} {H : Heap} {ty : TypeId} {pos : String} {af : Array Edge} {r l2 : List Oper} {op : Op} {d : Nat} {K : Tm → Heap → Prop}

theorem s_nil (h : K T H) : SK P ops [] T H K := ⟨T, H, .nil, h⟩
theorem s_p {v : AV} (h : HOk P ⟨some d, op, ty, pos, af, none⟩ T H v []) (k : SK P ops r ((d, v) :: T) H K) : SK P ops (⟨some d, op, ty, pos, af, none⟩ :: r) T H K :=
  let ⟨T', H', k1, k2⟩ := k
  ⟨T', H', .cons (.free rfl) h (by simpa [put] using k1), k2⟩
theorem s_a {v : AV} {b : Blk} {H1 : Heap} (h : HOk P ⟨some d, op, ty, pos, af, none⟩ T H v [b]) (e : H ++ [some b] = H1) (k : SK P ops r ((d, v) :: T) H1 K) : SK P ops (⟨some d, op, ty, pos, af, none⟩ :: r) T H K :=
  let ⟨T', H', k1, k2⟩ := k
  ⟨T', H', .cons (.free rfl) h (by subst e; simpa [put] using k1), k2⟩
theorem s_m {v : AV} {H1 : Heap} (h : MOk P ⟨some d, op, ty, pos, af, none⟩ T H v H1) (k : SK P ops r ((d, v) :: T) H1 K) : SK P ops (⟨some d, op, ty, pos, af, none⟩ :: r) T H K :=
  let ⟨T', H', k1, k2⟩ := k
  ⟨T', H', .wr (.free rfl) h k1, k2⟩
theorem s_st {v : AV} {H1 : Heap} (h : MOk P ⟨none, op, ty, pos, af, none⟩ T H v H1) (k : SK P ops r T H1 K) : SK P ops (⟨none, op, ty, pos, af, none⟩ :: r) T H K :=
  let ⟨T', H', k1, k2⟩ := k
  ⟨T', H', .wr (.free rfl) h k1, k2⟩
theorem s_on {j t : Nat} {b B : Bool} {v : AV} (ht : (ops[j]?).bind (·.dst) = some t) (hv : look T t = .s (.bool B)) (hB : B = b) (h : HOk P ⟨some d, op, ty, pos, af, some (j, b)⟩ T H v []) (k : SK P ops r ((d, v) :: T) H K) : SK P ops (⟨some d, op, ty, pos, af, some (j, b)⟩ :: r) T H K :=
  let ⟨T', H', k1, k2⟩ := k
  ⟨T', H', .cons (.on rfl ht hv hB) h (by simpa [put] using k1), k2⟩
theorem s_off {j t : Nat} {b B : Bool} (ht : (ops[j]?).bind (·.dst) = some t) (hv : look T t = .s (.bool B)) (hB : B = !b) (k : SK P ops r ((d, .s .junk) :: T) H K) : SK P ops (⟨some d, op, ty, pos, af, some (j, b)⟩ :: r) T H K :=
  let ⟨T', H', k1, k2⟩ := k
  ⟨T', H', .skip (.off rfl ht hv hB) k1, k2⟩

theorem t_nil (h : SK P ops l2 T H K) : TK P ops [] T H l2 K := ⟨T, H, .nil, h⟩
theorem t_p {v : AV} (h : HOk P ⟨some d, op, ty, pos, af, none⟩ T H v []) (k : TK P ops r ((d, v) :: T) H l2 K) : TK P ops (⟨some d, op, ty, pos, af, none⟩ :: r) T H l2 K :=
  let ⟨T', H', k1, k2⟩ := k
  ⟨T', H', .cons (.free rfl) h (by simpa [put] using k1), k2⟩
theorem t_a {v : AV} {b : Blk} {H1 : Heap} (h : HOk P ⟨some d, op, ty, pos, af, none⟩ T H v [b]) (e : H ++ [some b] = H1) (k : TK P ops r ((d, v) :: T) H1 l2 K) : TK P ops (⟨some d, op, ty, pos, af, none⟩ :: r) T H l2 K :=
  let ⟨T', H', k1, k2⟩ := k
  ⟨T', H', .cons (.free rfl) h (by subst e; simpa [put] using k1), k2⟩
theorem t_on {j t : Nat} {b B : Bool} {v : AV} (ht : (ops[j]?).bind (·.dst) = some t) (hv : look T t = .s (.bool B)) (hB : B = b) (h : HOk P ⟨some d, op, ty, pos, af, some (j, b)⟩ T H v []) (k : TK P ops r ((d, v) :: T) H l2 K) : TK P ops (⟨some d, op, ty, pos, af, some (j, b)⟩ :: r) T H l2 K :=
  let ⟨T', H', k1, k2⟩ := k
  ⟨T', H', .cons (.on rfl ht hv hB) h (by simpa [put] using k1), k2⟩
theorem t_off {j t : Nat} {b B : Bool} (ht : (ops[j]?).bind (·.dst) = some t) (hv : look T t = .s (.bool B)) (hB : B = !b) (k : TK P ops r ((d, .s .junk) :: T) H l2 K) : TK P ops (⟨some d, op, ty, pos, af, some (j, b)⟩ :: r) T H l2 K :=
  let ⟨T', H', k1, k2⟩ := k
  ⟨T', H', .skip (.off rfl ht hv hB) k1, k2⟩
end steps

section code
variable {E : Env} {T : Tm} {H : Heap} {Q : Exit → Tm → Heap → Prop} {K : Tm → Heap → Prop}
theorem c_reg {id : Nat} {ops : Array Oper} {l : List Oper} (hok : regionOk E.n ops = true) (hl : ops.toList = l) (h : SK E.P ops l T H (Q .normal)) : Wp E (.region id ops false) T H Q :=
  let ⟨_, _, k1, k2⟩ := h
  w_region hok hl k1 k2
theorem c_any {id : Nat} {ops : Array Oper} (m : Nat) {l1 l2 : List Oper} (hmix : E.P.follows .mixedOrders = true) (hok : regionOk E.n ops = true) (hany : anyOk ops m = true) (hl1 : ops.toList.take m = l1) (hl2 : ops.toList.drop m = l2) (hm : l1.length = m)
    (h : TK E.P ops l1 T H l2 (Q .normal)) : Wp E (.region id ops true) T H Q :=
  let ⟨_, _, k1, _, _, k2, k3⟩ := h
  w_region_any m hmix hok hany (by rw [← hl1, ← hl2, List.take_append_drop]) hm k1 k2 k3
theorem n_wp {y : Code} (h : Wp E y T H Q) : Thn (fun T H => Wp E y T H Q) Q .normal T H := h
theorem n_blo {i : Nat} (h : Q .normal T H) : Blo i Q .normal T H := h
theorem x_thn {i : Nat} (h : Q (.exit i) T H) : Thn K Q (.exit i) T H := h
theorem x_eq {i : Nat} (h : Q .normal T H) : Blo i Q (.exit i) T H := by simp only [Blo, if_true]; exact h
theorem x_ne {i j : Nat} (hn : (Nat.beq j i) = false) (h : Q (.exit j) T H) : Blo i Q (.exit j) T H := by
  have : j ≠ i := by intro e; subst e; simp at hn
  simp only [Blo, if_neg this]; exact h
theorem r_thn (h : Q .ret T H) : Thn K Q .ret T H := h
theorem r_blo {i : Nat} (h : Q .ret T H) : Blo i Q .ret T H := h

/-- A loop's head: the relation's state, told as it is. -/
theorem c_loop {c : Code} (I : Nat → Tm → Heap → Prop) (n0 : Nat) {T' : Tm} {H' : Heap} (h0 : I n0 T' H') (hw : Weak E T H T' H')
    (round : ∀ n T H, I n T H → Wp E c T H (Thn (fun T1 H1 => ∃ n', n' < n ∧ ∃ T2 H2, Weak E T1 H1 T2 H2 ∧ I n' T2 H2) Q)) : Wp E (.loop c) T H Q := w_loop I n0 ⟨T', H', hw, h0⟩ round
theorem n_round {I : Nat → Tm → Heap → Prop} {n : Nat} {T2 : Tm} {H2 : Heap} (n' : Nat) (hn : n' < n) (hI : I n' T2 H2) (hw : Weak E T H T2 H2) : Thn (fun T1 H1 => ∃ n', n' < n ∧ ∃ T2 H2, Weak E T1 H1 T2 H2 ∧ I n' T2 H2) Q .normal T H := ⟨n', hn, T2, H2, hw, hI⟩
end code

def AllLook (T : Tm) : Tm → Prop
  | [] => True
  | (i, v) :: r => look T i = v ∧ AllLook T r
theorem allLook {T T' : Tm} (h : AllLook T T') : ∀ p ∈ T', look T p.1 = p.2 := by
  induction T' with
  | nil => intro p hp; cases hp
  | cons q r ih =>
    intro p hp
    cases hp with
    | head => exact h.1
    | tail _ hm => exact ih h.2 p hm
theorem weak' {E : Env} {T T' : Tm} {H H' : Heap} (hT : AllLook T T') (hH : H.take H'.length = H') (hb : belowAll T' H' = true) (hn : E.nE ≤ H'.length) : Weak E T H T' H' := weak (allLook hT) hH hb hn

section ix
variable {P : Program} {T : Tm} {H : Heap} {d : Option Tmp} {ty : TypeId} {pos : String} {af : Array Edge} {g : Option (Nat × Bool)}
/-- An index that is a number, cells of one. -/
theorem h_ix {t e : TypeId} {x i : Operand} {id base n j : Nat} {k : IntKind} (hx : ev T x = .s (.ptr id base 0)) (hi : ev T i = .s (.int k (j : Int)))
    (hu : P.underlying t = some (.array n e)) (hs : ∀ w, (sizeOf e).run P w = .ok 1 w) (h1 : j < n) : HOk P ⟨d, .indexAddr t x i, ty, pos, af, g⟩ T H (.s (.ptr id base j)) [] :=
  h_indexAddr hx hi hu hs (by omega) (by omega) (by simp)
theorem h_pick_t {c x y : Operand} {B : Bool} {v : AV} (hc : ev T c = .s (.bool B)) (hB : B = true) (hx : ev T x = v) : HOk P ⟨d, .pick c x y, ty, pos, af, g⟩ T H v [] :=
  .pure fun W ρ a w _ ho => by
    have h1 : (ev T c).rep ρ (a.eval c) := ho c (by simp [Op.operands])
    have h2 : (ev T x).rep ρ (a.eval x) := ho x (by simp [Op.operands])
    rw [hc] at h1
    simp only [AV.rep, SV.rep] at h1
    subst hB
    exact ⟨a.eval x, by simp [execOp, h1, asBool], hx ▸ h2⟩
theorem h_pick_f {c x y : Operand} {B : Bool} {v : AV} (hc : ev T c = .s (.bool B)) (hB : B = false) (hy : ev T y = v) : HOk P ⟨d, .pick c x y, ty, pos, af, g⟩ T H v [] :=
  .pure fun W ρ a w _ ho => by
    have h1 : (ev T c).rep ρ (a.eval c) := ho c (by simp [Op.operands])
    have h2 : (ev T y).rep ρ (a.eval y) := ho y (by simp [Op.operands])
    rw [hc] at h1
    simp only [AV.rep, SV.rep] at h1
    subst hB
    exact ⟨a.eval y, by simp [execOp, h1, asBool], hy ▸ h2⟩
theorem h_extract {x : Operand} {l : List AV} {i : Nat} {v : AV} (hx : ev T x = .tup l) (hv : l[i]? = some v) (hnt : ∀ q, v ≠ .tup q) : HOk P ⟨d, .extract x i, ty, pos, af, g⟩ T H v [] :=
  .pure fun W ρ a w _ ho => by
    have h1 := one (op := .extract x i) rfl ho hx
    obtain ⟨vs, e1, e2⟩ := h1
    obtain ⟨u, hu, hr⟩ := e2 i v hv
    refine ⟨u, by simp [execOp, e1, Instr.extract, hu], ?_⟩
    cases v with
    | s v => exact hr
    | agg l => exact hr
    | tup q => exact absurd rfl (hnt q)
theorem h_len {x : Operand} {id base idx len cap : Nat} {t : TypeId} {e : TypeId} {rt : TypeId} (hx : ev T x = .s (.slice id base idx len cap)) (hu : P.underlying t = some (.slice e)) : HOk P ⟨d, .call ⟨.builtin .len, #[x], #[t]⟩, rt, pos, af, g⟩ T H (.s (.int .i64 len)) [] :=
  .pure fun W ρ a w _ ho => by
    have h1 : (ev T x).rep ρ (a.eval x) := ho x (by simp [Op.operands, Call.operands])
    rw [hx] at h1
    obtain ⟨b, o, _, h1⟩ := h1
    exact ⟨.int .i64 len, by simp [execOp, resolve, invoke, builtin, Builtin.len_, run_underlying hu, h1, goInt], rfl⟩
theorem h_len_slx {x : Operand} {id base idx len : Nat} {t : TypeId} {e : TypeId} {rt : TypeId} (hx : ev T x = .s (.slx id base idx len)) (hu : P.underlying t = some (.slice e)) : HOk P ⟨d, .call ⟨.builtin .len, #[x], #[t]⟩, rt, pos, af, g⟩ T H (.s (.int .i64 len)) [] :=
  .pure fun W ρ a w _ ho => by
    have h1 : (ev T x).rep ρ (a.eval x) := ho x (by simp [Op.operands, Call.operands])
    rw [hx] at h1
    obtain ⟨b, o, c, _, h1, _⟩ := h1
    exact ⟨.int .i64 len, by simp [execOp, resolve, invoke, builtin, Builtin.len_, run_underlying hu, h1, goInt], rfl⟩
theorem h_len_nil {x : Operand} {t : TypeId} {e : TypeId} {rt : TypeId} (hx : ev T x = .s .nils) (hu : P.underlying t = some (.slice e)) : HOk P ⟨d, .call ⟨.builtin .len, #[x], #[t]⟩, rt, pos, af, g⟩ T H (.s (.int .i64 0)) [] :=
  .pure fun W ρ a w _ ho => by
    have h1 : (ev T x).rep ρ (a.eval x) := ho x (by simp [Op.operands, Call.operands])
    rw [hx] at h1
    simp only [AV.rep, SV.rep] at h1
    exact ⟨.int .i64 0, by simp [execOp, resolve, invoke, builtin, Builtin.len_, run_underlying hu, h1, goInt], rfl⟩
theorem h_ixl {t e : TypeId} {x i : Operand} {id base n : Nat} {k : IntKind} {m : Int} (j : Nat) (hx : ev T x = .s (.ptr id base 0)) (hi : ev T i = .s (.int k m)) (hm : m = (j : Int))
    (hu : P.underlying t = some (.array n e)) (hs : ∀ w, (sizeOf e).run P w = .ok 1 w) (h1 : j < n) : HOk P ⟨d, .indexAddr t x i, ty, pos, af, g⟩ T H (.s (.ptr id base j)) [] :=
  h_ix hx (hm ▸ hi) hu hs h1
end ix

/-- The environment of a call that is handed no memory. -/
abbrev E0 (P : Program) (n : Nat) (W : Nat → Prop) (w : World) (hW : ∀ b, w.heap.size ≤ b → W b) : Env := ⟨P, W, w, fun _ => none, n, 0, hW, fun _ _ => rfl⟩

def DoneF (E : Env) (fn : Func) (v : AV) : Exit → Tm → Heap → Prop := fun e T H => (e = .ret ∨ e = .normal) ∧ Ret E fn T H v

theorem acall_free {P : Program} {f : FuncId} {fn : Func} {c : Code} {n : Nat} {args : List AV} {v : AV} (hf : P.funcs[f]? = some fn) (hb : fn.body = some c) (hn : fn.ntmps = n) (hl : args.length ≤ n) (ha : args.all (AV.lowB 0) = true) (hv : v.lowB 0 = true)
    (h : ∀ W w hW, Wp (E0 P n W w hW) c (argT 0 args) [] (DoneF (E0 P n W w hW) fn v)) (H : Heap) : ACall P f H args v [] := by
  subst hn
  intro W ρ vals w hH _ hargs
  let W' : Nat → Prop := fun b => w.heap.size ≤ b
  have hW' : ∀ b, w.heap.size ≤ b → W' b := fun b hb => hb
  simp only [List.all_eq_true] at ha
  refine calls_enter (W := W') (ρ0 := fun _ => none) (H0 := []) (args := args) hf hb hW' ⟨fun _ _ _ h => (by cases h), fun _ _ _ _ h => (by cases h), fun _ _ _ _ _ _ _ _ h => (by cases h)⟩ (fun _ _ => rfl) ⟨hargs.1, fun i x hx => ?_⟩ hl ((h W' w hW').mono ?_)
  · exact AV.rep_cut (n := 0) (hargs.2 i x hx) (ha x (List.mem_of_getElem? hx))
  · rintro e T H1 ⟨he, hret⟩
    refine ⟨he, v, hret, fun v' ρ' w' h1 _ _ _ h5 => ⟨v', ρ, rfl, .nil ⟨h5.os, h5.tape, h5.output, h5.size, fun k hk => h5.block k hk (by simp [W']; omega)⟩, ?_⟩⟩
    exact AV.rep_le (fun _ _ e => (by simp [cutR] at e)) (AV.rep_cut (n := 0) h1 hv)
end Go.Ab
