/- What an operation gives on abstract states: rules. -/
import Derived.Test.YtffflnpidipheaaAb1
namespace Go.Ab

def Gives (P : Program) (o : Oper) (a : Act) (w : World) (R : Value → World → Prop) : Prop :=
  ∀ (next : Act → World → Prop) (Q : Exit → Act → World → Prop), (∀ v w', R v w' → next (a.put o.dst v) w') → o.upon P a next Q ((execOp a.eval o).run P w)

/-- New blocks, from a number on. -/
structure New (ρ ρ' : Rho) (n : Nat) (nb : List Blk) (w w' : World) : Prop where
  le : Rle ρ ρ'
  ext : Ext w w'
  old : ∀ id b o, ρ' id = some (b, o) → ρ id = some (b, o) ∨ (n ≤ id ∧ id < n + nb.length ∧ w.heap.size ≤ b ∧ b < w'.heap.size)
  rep : ∀ (i : Nat) (k : Blk), nb[i]? = some k → ∀ b o, ρ' (n + i) = some (b, o) → BRep ρ' k w' b o
  apart : ∀ id id' b o o', n ≤ id → id < n + nb.length → n ≤ id' → id' < n + nb.length → ρ' id = some (b, o) → ρ' id' = some (b, o') → id = id'

theorem New.nil {ρ : Rho} {n : Nat} {w w' : World} (h : Ext w w') : New ρ ρ n [] w w' :=
  ⟨.refl _, h, fun _ _ _ h => .inl h, fun i k hk => by simp at hk, fun id id' b o o' h1 h2 => by simp at h2; omega⟩

def Ops (o : Oper) (T : Tm) (ρ : Rho) (a : Act) : Prop := ∀ x ∈ o.op.operands, (ev T x).rep ρ (a.eval x)

def HOk (P : Program) (o : Oper) (T : Tm) (H : Heap) (v : AV) (nb : List Blk) : Prop :=
  ∀ (W : Nat → Prop) (ρ : Rho) (a : Act) (w : World), HRep W ρ H w → (∀ i, i < nb.length → ρ (H.length + i) = none) → Ops o T ρ a →
    Gives P o a w fun v' w' => ∃ ρ', New ρ ρ' H.length nb w w' ∧ v.rep ρ' v'

def MOk (P : Program) (o : Oper) (T : Tm) (H : Heap) (v : AV) (H' : Heap) : Prop :=
  ∀ (W : Nat → Prop) (ρ : Rho) (a : Act) (w : World), HRep W ρ H w → (∀ id, H.length ≤ id → ρ id = none) → (∀ b, w.heap.size ≤ b → W b) → Ops o T ρ a →
    Gives P o a w fun v' w' => ∃ ρ', (∀ id, H'.length ≤ id → ρ' id = none) ∧ Rle ρ ρ' ∧ HRep W ρ' H' w' ∧ Fr W w w' ∧ v.rep ρ' v'

theorem HRep.new {W : Nat → Prop} {ρ ρ' : Rho} {H : Heap} {nb : List Blk} {w w' : World} (h : HRep W ρ H w) (hW : ∀ b, w.heap.size ≤ b → W b)
    (hn : ∀ id, H.length ≤ id → ρ id = none) (k : New ρ ρ' H.length nb w w') : HRep W ρ' (H ++ nb.map some) w' := by
  have key : ∀ id b o, ρ' id = some (b, o) → (ρ id = some (b, o) ∧ id < H.length ∧ b < w.heap.size) ∨ (H.length ≤ id ∧ id < H.length + nb.length ∧ w.heap.size ≤ b ∧ b < w'.heap.size) := by
    intro id b o e
    rcases k.old id b o e with h1 | h1
    · refine .inl ⟨h1, ?_, h.lt _ _ _ h1⟩
      rcases Nat.lt_or_ge id H.length with h2 | h2
      · exact h2
      · rw [hn id h2] at h1; cases h1
    · exact .inr h1
  have get : ∀ (id : Nat) (q : Blk), H.length ≤ id → (H ++ nb.map some)[id]? = some (some q) → nb[id - H.length]? = some q := by
    intro id q h1 h2
    rw [List.getElem?_append_right h1] at h2
    simp at h2
    exact h2
  refine ⟨fun id b o e => ?_, fun id b o q e e2 => ?_, fun id id' b o o' q q' hne e e' e2 e2' => ?_⟩
  · rcases key id b o e with ⟨_, _, h3⟩ | h3
    · exact Nat.lt_of_lt_of_le h3 k.ext.size
    · exact h3.2.2.2
  · rcases key id b o e with ⟨h1, h2, h3⟩ | h3
    · rw [List.getElem?_append_left h2] at e2
      have := h.rep id b o q h1 e2
      exact ⟨(this.1.ext k.ext).le k.le, this.2⟩
    · have h4 := get id q h3.1 e2
      have h5 := k.rep _ q h4 b o (by rw [show H.length + (id - H.length) = id by omega]; exact e)
      exact ⟨h5, fun _ => hW b h3.2.2.1⟩
  · rcases key id b o e with ⟨h1, h2, h3⟩ | h3 <;> rcases key id' b o' e' with ⟨h1', h2', h3'⟩ | h3'
    · rw [List.getElem?_append_left h2] at e2
      rw [List.getElem?_append_left h2'] at e2'
      exact h.apart id id' b o o' q q' hne h1 h1' e2 e2'
    · omega
    · omega
    · exact absurd (k.apart id id' b o o' h3.1 h3.2.1 h3'.1 h3'.2.1 e e') hne

theorem HOk.mok {P : Program} {o : Oper} {T : Tm} {H : Heap} {v : AV} {nb : List Blk} (h : HOk P o T H v nb) : MOk P o T H v (H ++ nb.map some) := by
  intro W ρ a w hH hn hW ho next Q hq
  refine h W ρ a w hH (fun i _ => hn _ (by omega)) ho next Q ?_
  rintro v' w' ⟨ρ', hk, hv⟩
  refine hq v' w' ⟨ρ', fun id hid => ?_, hk.le, hH.new hW hn hk, hk.ext.fr W, hv⟩
  cases hr : ρ' id with
  | none => rfl
  | some x =>
    obtain ⟨b, o⟩ := x
    rcases hk.old id b o hr with h1 | h1
    · rw [hn id (by simp at hid; omega)] at h1; cases h1
    · simp at hid; omega

/-- An operation that leaves the world as it is. -/
theorem HOk.pure {P : Program} {o : Oper} {T : Tm} {H : Heap} {v : AV}
    (h : ∀ (W : Nat → Prop) (ρ : Rho) (a : Act) (w : World), HRep W ρ H w → Ops o T ρ a → ∃ v', (execOp a.eval o).run P w = .ok (.value v') w ∧ v.rep ρ v') : HOk P o T H v [] := by
  intro W ρ a w hH _ ho next Q hq
  obtain ⟨v', hr, hv⟩ := h W ρ a w hH ho
  rw [hr]
  exact hq v' w ⟨ρ, .nil (.refl _), hv⟩

section rules
variable {P : Program} {T : Tm} {H : Heap} {d : Option Tmp} {ty : TypeId} {pos : String} {af : Array Edge} {g : Option (Nat × Bool)}

theorem h_move {x : Operand} {v : AV} (hx : ev T x = v) : HOk P ⟨d, .move x, ty, pos, af, g⟩ T H v [] :=
  .pure fun W ρ a w _ ho => ⟨a.eval x, rfl, by have := ho x (by simp [Op.operands]); rwa [hx] at this⟩
theorem h_assign {x : Operand} {v : AV} (hx : ev T x = v) : HOk P ⟨d, .assign x, ty, pos, af, g⟩ T H v [] :=
  .pure fun W ρ a w _ ho => ⟨a.eval x, rfl, by have := ho x (by simp [Op.operands]); rwa [hx] at this⟩

theorem two {op : Op} {x y : Operand} {ρ : Rho} {a : Act} (hop : op.operands = #[x, y]) (ho : Ops ⟨d, op, ty, pos, af, g⟩ T ρ a) {u v : AV} (hx : ev T x = u) (hy : ev T y = v) :
    u.rep ρ (a.eval x) ∧ v.rep ρ (a.eval y) :=
  ⟨by have := ho x (by simp [hop]); rwa [hx] at this, by have := ho y (by simp [hop]); rwa [hy] at this⟩
theorem one {op : Op} {x : Operand} {ρ : Rho} {a : Act} (hop : op.operands = #[x]) (ho : Ops ⟨d, op, ty, pos, af, g⟩ T ρ a) {u : AV} (hx : ev T x = u) : u.rep ρ (a.eval x) := by
  have := ho x (by simp [hop]); rwa [hx] at this

theorem eqGuard_int (op : BinOp) (t : TypeId) (x y : Operand) (k k' : IntKind) (a b : Int) (w : World) : (eqGuard op t x y (.int k a) (.int k' b)).run P w = .ok () w := by
  unfold eqGuard
  cases op <;> simp <;> rfl

/-- A binary operation on two integers. -/
theorem h_bin {op : BinOp} {tx tyy : TypeId} {x y : Operand} {k k' : IntKind} {m n : Int} {r : SV} (hx : ev T x = .s (.int k m)) (hy : ev T y = .s (.int k' n))
    (hr : ∀ w, ∃ v, (binOp op tx (.int k m) (.int k' n)).run P w = .ok v w ∧ ∀ ρ, r.rep ρ v) :
    HOk P ⟨d, .binOp op tx x y tyy, ty, pos, af, g⟩ T H (.s r) [] :=
  .pure fun W ρ a w _ ho => by
    obtain ⟨h1, h2⟩ := two (op := .binOp op tx x y tyy) rfl ho hx hy
    simp only [AV.rep, SV.rep] at h1 h2
    obtain ⟨v, hv, hrep⟩ := hr w
    refine ⟨v, ?_, hrep ρ⟩
    simp [execOp, h1, h2, Sem.run_bind, eqGuard_int, hv]

theorem b_add {k : IntKind} {tx : TypeId} {m n r : Int} (hr : k.wrap (m + n) = r) (w : World) : ∃ v, (binOp .add tx (.int k m) (.int k n)).run P w = .ok v w ∧ ∀ ρ, (SV.int k r).rep ρ v :=
  ⟨.int k r, by simp [binOp, Op.intArith, hr], fun _ => rfl⟩
theorem b_sub {k : IntKind} {tx : TypeId} {m n r : Int} (hr : k.wrap (m - n) = r) (w : World) : ∃ v, (binOp .sub tx (.int k m) (.int k n)).run P w = .ok v w ∧ ∀ ρ, (SV.int k r).rep ρ v :=
  ⟨.int k r, by simp [binOp, Op.intArith, hr], fun _ => rfl⟩
theorem b_mul {k : IntKind} {tx : TypeId} {m n r : Int} (hr : k.wrap (m * n) = r) (w : World) : ∃ v, (binOp .mul tx (.int k m) (.int k n)).run P w = .ok v w ∧ ∀ ρ, (SV.int k r).rep ρ v :=
  ⟨.int k r, by simp [binOp, Op.intArith, hr], fun _ => rfl⟩
theorem b_quo {k : IntKind} {tx : TypeId} {m n r : Int} (h0 : n ≠ 0) (hr : k.wrap (m.tdiv n) = r) (w : World) : ∃ v, (binOp .quo tx (.int k m) (.int k n)).run P w = .ok v w ∧ ∀ ρ, (SV.int k r).rep ρ v :=
  ⟨.int k r, by simp [binOp, Op.intDiv, hr, h0], fun _ => rfl⟩
theorem b_rem {k : IntKind} {tx : TypeId} {m n r : Int} (h0 : n ≠ 0) (hr : m.tmod n = r) (w : World) : ∃ v, (binOp .rem tx (.int k m) (.int k n)).run P w = .ok v w ∧ ∀ ρ, (SV.int k r).rep ρ v :=
  ⟨.int k r, by simp [binOp, Op.intDiv, hr, h0], fun _ => rfl⟩

/-- Bits of integers of a kind. -/
def xorK (k : IntKind) (m n : Int) : Int := k.wrap (BitVec.ofInt k.bits m ^^^ BitVec.ofInt k.bits n).toNat
def andK (k : IntKind) (m n : Int) : Int := k.wrap (BitVec.ofInt k.bits m &&& BitVec.ofInt k.bits n).toNat
def orK (k : IntKind) (m n : Int) : Int := k.wrap (BitVec.ofInt k.bits m ||| BitVec.ofInt k.bits n).toNat
def andNotK (k : IntKind) (m n : Int) : Int := k.wrap (BitVec.ofInt k.bits m &&& ~~~ BitVec.ofInt k.bits n).toNat
def shlK (k : IntKind) (m n : Int) : Int := k.wrap (m * 2 ^ min n.toNat k.bits)
def shrK (k : IntKind) (m n : Int) : Int := m.fdiv (2 ^ min n.toNat k.bits)
theorem b_xor {k : IntKind} {tx : TypeId} {m n r : Int} (hr : xorK k m n = r) (w : World) : ∃ v, (binOp .xor tx (.int k m) (.int k n)).run P w = .ok v w ∧ ∀ ρ, (SV.int k r).rep ρ v :=
  ⟨.int k r, by simp [binOp, Op.intBits, ← hr, xorK], fun _ => rfl⟩
theorem b_and {k : IntKind} {tx : TypeId} {m n r : Int} (hr : andK k m n = r) (w : World) : ∃ v, (binOp .and tx (.int k m) (.int k n)).run P w = .ok v w ∧ ∀ ρ, (SV.int k r).rep ρ v :=
  ⟨.int k r, by simp [binOp, Op.intBits, ← hr, andK], fun _ => rfl⟩
theorem b_or {k : IntKind} {tx : TypeId} {m n r : Int} (hr : orK k m n = r) (w : World) : ∃ v, (binOp .or tx (.int k m) (.int k n)).run P w = .ok v w ∧ ∀ ρ, (SV.int k r).rep ρ v :=
  ⟨.int k r, by simp [binOp, Op.intBits, ← hr, orK], fun _ => rfl⟩
theorem b_andNot {k : IntKind} {tx : TypeId} {m n r : Int} (hr : andNotK k m n = r) (w : World) : ∃ v, (binOp .andNot tx (.int k m) (.int k n)).run P w = .ok v w ∧ ∀ ρ, (SV.int k r).rep ρ v :=
  ⟨.int k r, by simp [binOp, Op.intBits, ← hr, andNotK], fun _ => rfl⟩
theorem b_shl {k k' : IntKind} {tx : TypeId} {m n r : Int} (h0 : 0 ≤ n) (hr : shlK k m n = r) (w : World) : ∃ v, (binOp .shl tx (.int k m) (.int k' n)).run P w = .ok v w ∧ ∀ ρ, (SV.int k r).rep ρ v :=
  ⟨.int k r, by simp [binOp, Op.shift, ← hr, shlK, Int.not_lt.2 h0], fun _ => rfl⟩
theorem b_shr {k k' : IntKind} {tx : TypeId} {m n r : Int} (h0 : 0 ≤ n) (hr : shrK k m n = r) (w : World) : ∃ v, (binOp .shr tx (.int k m) (.int k' n)).run P w = .ok v w ∧ ∀ ρ, (SV.int k r).rep ρ v :=
  ⟨.int k r, by simp [binOp, Op.shift, ← hr, shrK, Int.not_lt.2 h0], fun _ => rfl⟩
theorem b_lss {k : IntKind} {tx : TypeId} {m n : Int} {r : Bool} (hr : decide (m < n) = r) (w : World) : ∃ v, (binOp .lss tx (.int k m) (.int k n)).run P w = .ok v w ∧ ∀ ρ, (SV.bool r).rep ρ v :=
  ⟨.bool r, by simp [binOp, Op.intCmp, ← hr], fun _ => rfl⟩
theorem b_leq {k : IntKind} {tx : TypeId} {m n : Int} {r : Bool} (hr : decide (m ≤ n) = r) (w : World) : ∃ v, (binOp .leq tx (.int k m) (.int k n)).run P w = .ok v w ∧ ∀ ρ, (SV.bool r).rep ρ v :=
  ⟨.bool r, by simp [binOp, Op.intCmp, ← hr], fun _ => rfl⟩
theorem b_gtr {k : IntKind} {tx : TypeId} {m n : Int} {r : Bool} (hr : decide (n < m) = r) (w : World) : ∃ v, (binOp .gtr tx (.int k m) (.int k n)).run P w = .ok v w ∧ ∀ ρ, (SV.bool r).rep ρ v :=
  ⟨.bool r, by simp [binOp, Op.intCmp, ← hr], fun _ => rfl⟩
theorem b_geq {k : IntKind} {tx : TypeId} {m n : Int} {r : Bool} (hr : decide (n ≤ m) = r) (w : World) : ∃ v, (binOp .geq tx (.int k m) (.int k n)).run P w = .ok v w ∧ ∀ ρ, (SV.bool r).rep ρ v :=
  ⟨.bool r, by simp [binOp, Op.intCmp, ← hr], fun _ => rfl⟩
theorem b_eql {k : IntKind} {tx : TypeId} {m n : Int} {r : Bool} (hr : decide (m = n) = r) (w : World) : ∃ v, (binOp .eql tx (.int k m) (.int k n)).run P w = .ok v w ∧ ∀ ρ, (SV.bool r).rep ρ v :=
  ⟨.bool r, by simp [binOp, Op.intCmp, ← hr]; rfl, fun _ => rfl⟩
theorem b_neq {k : IntKind} {tx : TypeId} {m n : Int} {r : Bool} (hr : decide (m ≠ n) = r) (w : World) : ∃ v, (binOp .neq tx (.int k m) (.int k n)).run P w = .ok v w ∧ ∀ ρ, (SV.bool r).rep ρ v :=
  ⟨.bool r, by simp [binOp, Op.intCmp, ← hr, bne]; rfl, fun _ => rfl⟩

theorem h_not {tx : TypeId} {x : Operand} {b : Bool} (hx : ev T x = .s (.bool b)) : HOk P ⟨d, .unOp .not tx x, ty, pos, af, g⟩ T H (.s (.bool (!b))) [] :=
  .pure fun W ρ a w _ ho => by
    have h1 := one (op := .unOp .not tx x) rfl ho hx
    simp only [AV.rep, SV.rep] at h1
    exact ⟨.bool (!b), by simp [execOp, h1, Op.unary], rfl⟩
theorem h_neg {tx : TypeId} {x : Operand} {k : IntKind} {m r : Int} (hx : ev T x = .s (.int k m)) (hr : k.wrap (0 - m) = r) : HOk P ⟨d, .unOp .neg tx x, ty, pos, af, g⟩ T H (.s (.int k r)) [] :=
  .pure fun W ρ a w _ ho => by
    have h1 := one (op := .unOp .neg tx x) rfl ho hx
    simp only [AV.rep, SV.rep] at h1
    exact ⟨.int k r, by simp [execOp, h1, Op.unary, Op.intArith, ← hr], rfl⟩
theorem h_com {tx : TypeId} {x : Operand} {k : IntKind} {m r : Int} (hx : ev T x = .s (.int k m)) (hr : xorK k (if k.signed then -1 else k.max) m = r) : HOk P ⟨d, .unOp .xor tx x, ty, pos, af, g⟩ T H (.s (.int k r)) [] :=
  .pure fun W ρ a w _ ho => by
    have h1 := one (op := .unOp .xor tx x) rfl ho hx
    simp only [AV.rep, SV.rep] at h1
    exact ⟨.int k r, by simp [execOp, h1, Op.unary, Op.intBits, ← hr, xorK], rfl⟩
theorem h_conv {src dst : TypeId} {x : Operand} {k k' : IntKind} {m r : Int} {ds : TypeDesc} (hx : ev T x = .s (.int k m)) (hs : P.underlying src = some ds) (hd : P.underlying dst = some (.int k')) (hr : k'.wrap m = r) :
    HOk P ⟨d, .convert src dst x, ty, pos, af, g⟩ T H (.s (.int k' r)) [] :=
  .pure fun W ρ a w _ ho => by
    have h1 := one (op := .convert src dst x) rfl ho hx
    simp only [AV.rep, SV.rep] at h1
    exact ⟨.int k' r, by simp [execOp, h1, convert, Sem.run_bind, run_underlying hs, run_underlying hd, Conv.intToInt, hr], rfl⟩
end rules
end Go.Ab
