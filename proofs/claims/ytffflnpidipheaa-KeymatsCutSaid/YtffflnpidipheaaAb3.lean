/- Rules for memory: new blocks, addresses, loads, stores. -/
import Derived.Test.YtffflnpidipheaaAb2
import Derived.Laws.CopyRow
namespace Go.Ab

/-! ### Places in a row -/
def segAt : List Seg → Nat → Option Seg
  | [], _ => none
  | s :: r, b => bif Nat.beq b 0 then some s else bif Nat.ble s.size b then segAt r (b - s.size) else none

theorem segAt_at : ∀ {l : List Seg} {b : Nat} {s : Seg}, segAt l b = some s → ∀ i, i < s.size → atS l (b + i) = some (s.at i)
  | [], _, _, h, _, _ => by simp [segAt] at h
  | s :: r, b, x, h, i, hi => by
    simp only [segAt] at h
    by_cases hb : Nat.beq b 0 = true
    · have : b = 0 := Nat.eq_of_beq_eq_true hb
      subst this
      simp at h
      subst h
      simp [atS, hi]
    · simp only [Bool.not_eq_true] at hb
      rw [hb] at h
      simp only [cond_false] at h
      by_cases hs : Nat.ble s.size b = true
      · rw [hs] at h
        simp only [cond_true] at h
        have hle : s.size ≤ b := Nat.le_of_ble_eq_true hs
        have ih := segAt_at h i hi
        simp only [atS]
        rw [if_neg (by omega), show b + i - s.size = b - s.size + i by omega]
        exact ih
      · simp only [Bool.not_eq_true] at hs
        rw [hs] at h
        simp at h

theorem atS_lt : ∀ {l : List Seg} {i : Nat} {x : SV}, atS l i = some x → i < sizeS l
  | [], _, _, h => by simp [atS] at h
  | s :: r, i, x, h => by
    simp only [atS] at h
    by_cases hi : i < s.size
    · simp [sizeS]; omega
    · rw [if_neg hi] at h
      have := atS_lt h
      simp [sizeS]; omega

theorem atS_some : ∀ {l : List Seg} {i : Nat}, i < sizeS l → ∃ x, atS l i = some x
  | [], _, h => by simp [sizeS] at h
  | s :: r, i, h => by
    simp only [atS]
    by_cases hi : i < s.size
    · exact ⟨_, by rw [if_pos hi]⟩
    · rw [if_neg hi]
      exact atS_some (by simp [sizeS] at h; omega)

/-- 'sub' is what lies at o, n cells. -/
def SubS (l : List Seg) (o n : Nat) (sub : List Seg) : Prop := sizeS sub = n ∧ ∀ j, j < n → atS sub j = atS l (o + j) ∧ ∃ x, atS l (o + j) = some x

theorem SubS.whole {l : List Seg} {n : Nat} (h : sizeS l = n) : SubS l 0 n l := ⟨h, fun j hj => ⟨by simp, by rw [Nat.zero_add]; exact atS_some (by omega)⟩⟩
theorem SubS.seg {l : List Seg} {o n : Nat} {s : Seg} (h : segAt l o = some s) (hn : s.size = n) : SubS l o n [s] :=
  ⟨by simp [sizeS, hn], fun j hj => by have := segAt_at h j (by omega); rw [this]; simp [atS, hn, hj]⟩
theorem SubS.ints {l : List Seg} {o i n m : Nat} {k : IntKind} {xs : List Int} (h : segAt l o = some (.ints k m xs)) (hn : i + n ≤ m) : SubS l (o + i) n [.ints k n ((xs.drop i).take n)] :=
  ⟨by simp [sizeS, Seg.size], fun j hj => by
    have := segAt_at h (i + j) (by simp [Seg.size]; omega)
    rw [show o + i + j = o + (i + j) by omega, this]
    refine ⟨?_, _, rfl⟩
    simp [atS, Seg.size, hj, Seg.at, List.getElem?_take]⟩
theorem SubS.two {l : List Seg} {o n m : Nat} {s : Seg} {r : List Seg} (h : segAt l o = some s) (hm : s.size = m) (hr : SubS l (o + m) n r) : SubS l o (m + n) (s :: r) := by
  refine ⟨by simp [sizeS, hr.1, hm], fun j hj => ?_⟩
  by_cases hjm : j < m
  · have := segAt_at h j (by omega)
    rw [this]; simp [atS, hm, hjm]
  · obtain ⟨h1, h2⟩ := hr.2 (j - m) (by omega)
    rw [show o + m + (j - m) = o + j by omega] at h1 h2
    refine ⟨?_, h2⟩
    simp only [atS]
    rw [if_neg (by omega), hm]; exact h1

def segSet : List Seg → Nat → Seg → List Seg
  | [], _, _ => []
  | s :: r, b, x => bif Nat.beq b 0 then x :: r else s :: segSet r (b - s.size) x

theorem segSet_at : ∀ {l : List Seg} {b : Nat} {s x : Seg}, segAt l b = some s → x.size = s.size → ∀ j, atS (segSet l b x) j = if b ≤ j ∧ j < b + s.size then some (x.at (j - b)) else atS l j
  | [], _, _, _, h, _, _ => by simp [segAt] at h
  | s :: r, b, y, x, h, hx, j => by
    simp only [segAt] at h
    simp only [segSet]
    by_cases hb : Nat.beq b 0 = true
    · have : b = 0 := Nat.eq_of_beq_eq_true hb
      subst this
      simp at h
      subst h
      simp only [hb, cond_true, atS, hx]
      by_cases hj : j < s.size <;> simp [hj]
    · simp only [Bool.not_eq_true] at hb
      rw [hb] at h
      simp only [cond_false] at h
      simp only [hb, cond_false, atS]
      by_cases hs : Nat.ble s.size b = true
      · rw [hs] at h
        simp only [cond_true] at h
        have hle : s.size ≤ b := Nat.le_of_ble_eq_true hs
        have ih := segSet_at h hx (j - s.size)
        by_cases hj : j < s.size
        · rw [if_pos hj, if_neg (by omega), if_pos hj]
        · rw [if_neg hj, ih, if_neg hj]
          by_cases h2 : b ≤ j ∧ j < b + y.size
          · rw [if_pos (by omega), if_pos h2]; congr 2; omega
          · rw [if_neg (by omega), if_neg h2]
      · simp only [Bool.not_eq_true] at hs
        rw [hs] at h
        simp at h

/-- 'l'' is l, with n cells of sub at o. -/
def PutS (l : List Seg) (o n : Nat) (sub l' : List Seg) : Prop := (0 < n ∧ o + n ≤ sizeS l) ∧ ∀ j x, atS l' j = some x → if o ≤ j ∧ j < o + n then atS sub (j - o) = some x else atS l j = some x

theorem segAt_size {l : List Seg} {b : Nat} {s : Seg} (h : segAt l b = some s) : b + s.size ≤ sizeS l := by
  rcases Nat.eq_zero_or_pos s.size with h0 | h0
  · induction l generalizing b with
    | nil => simp [segAt] at h
    | cons y r ih =>
      simp only [segAt] at h
      by_cases hb : Nat.beq b 0 = true
      · have : b = 0 := Nat.eq_of_beq_eq_true hb
        omega
      · simp only [Bool.not_eq_true] at hb
        rw [hb] at h
        simp only [cond_false] at h
        by_cases hs : Nat.ble y.size b = true
        · rw [hs] at h
          have hle : y.size ≤ b := Nat.le_of_ble_eq_true hs
          have := ih h
          simp [sizeS]; omega
        · simp only [Bool.not_eq_true] at hs
          rw [hs] at h
          simp at h
  · have := atS_lt (segAt_at h (s.size - 1) (by omega))
    omega

theorem PutS.whole {l sub : List Seg} {n : Nat} (h0 : 0 < n) (h : sizeS l = n) (hs : sizeS sub = n) : PutS l 0 n sub sub := by
  refine ⟨⟨h0, by omega⟩, fun j x hx => ?_⟩
  have := atS_lt hx
  rw [if_pos ⟨Nat.zero_le _, by omega⟩]; simpa using hx
theorem PutS.seg {l : List Seg} {o n : Nat} {s x : Seg} (h0 : 0 < n) (h : segAt l o = some s) (hn : s.size = n) (hx : x.size = n) : PutS l o n [x] (segSet l o x) := by
  refine ⟨⟨h0, by have := segAt_size h; omega⟩, fun j y hy => ?_⟩
  rw [segSet_at h (by omega) j] at hy
  by_cases hj : o ≤ j ∧ j < o + n
  · rw [if_pos (by omega)] at hy
    rw [if_pos hj]
    simp only [atS]
    rw [if_pos (by omega)]; exact hy
  · rw [if_neg (by omega)] at hy
    rw [if_neg hj]; exact hy

def spl (xs ys : List Int) (i n m : Nat) : List Int := (List.range m).map fun j => if i ≤ j ∧ j < i + n then ys.getD (j - i) 0 else xs.getD j 0

theorem PutS.ints {l : List Seg} {o i n m : Nat} {k : IntKind} {xs ys : List Int} (h0 : 0 < n) (h : segAt l o = some (.ints k m xs)) (hn : i + n ≤ m) : PutS l (o + i) n [.ints k n ys] (segSet l o (.ints k m (spl xs ys i n m))) := by
  refine ⟨⟨h0, by have := segAt_size h; simp [Seg.size] at this; omega⟩, fun j y hy => ?_⟩
  have e := segSet_at (x := .ints k m (spl xs ys i n m)) h rfl j
  have hsz : (Seg.ints k m xs).size = m := rfl
  rw [hsz] at e
  rw [e] at hy
  by_cases hj : o + i ≤ j ∧ j < o + i + n
  · rw [if_pos (by omega)] at hy
    rw [if_pos hj]
    have hs2 : (Seg.ints k n ys).size = n := rfl
    simp only [atS]
    rw [if_pos (by rw [hs2]; omega), ← hy]
    simp only [Seg.at, spl]
    have : j - o < m := by omega
    simp [this]
    rw [if_pos (by omega)]
    rw [show j - o - i = j - (o + i) by omega]
  · rw [if_neg hj]
    by_cases h2 : o ≤ j ∧ j < o + m
    · rw [if_pos h2] at hy
      rw [← hy]
      have h3 := segAt_at h (j - o) (by simp [Seg.size]; omega)
      rw [show o + (j - o) = j by omega] at h3
      rw [h3]
      simp only [Seg.at, spl]
      have : j - o < m := by omega
      simp [this]
      intro a b; omega
    · rw [if_neg h2] at hy; exact hy

/-! ### Closed rows -/
def cellOk : SV → Value → Bool
  | .int k n, .int k' n' => k == k' && n == n'
  | .bool b, .bool c => b == c
  | .nilp, .pointer none => true
  | .nils, .slice none 0 0 => true
  | .val (.string a), .string b => decide (a.data = b.data)
  | .val .nilFunc, .nilFunc => true
  | .val .nilIface, .nilIface => true
  | .val (.map none), .map none => true
  | _, _ => false

theorem cellOk_rep {x : SV} {v : Value} (h : cellOk x v = true) (ρ : Rho) : x.rep ρ v ∧ v.oneCell' = true := by
  unfold cellOk at h
  split at h <;> first
    | (simp_all [SV.rep, Value.oneCell']; done)
    | (have h := of_decide_eq_true h; exact ⟨⟨by rw [ByteArray.ext h], rfl⟩, rfl⟩)

def flatS : List Seg → List SV
  | [] => []
  | .one v :: r => v :: flatS r
  | .ints k _ l :: r => l.map (.int k) ++ flatS r
  | .svs n f :: r => (List.range n).map f ++ flatS r
def lensOk : List Seg → Bool
  | [] => true
  | .ints _ n l :: r => Nat.beq l.length n && lensOk r
  | _ :: r => lensOk r
def all2 : List SV → List Value → Bool
  | [], [] => true
  | x :: r, v :: s => cellOk x v && all2 r s
  | _, _ => false
def rowOk (segs : List Seg) (cs : Array Value) : Bool := lensOk segs && all2 (flatS segs) cs.toList

theorem atS_flat : ∀ {segs : List Seg}, lensOk segs = true → (flatS segs).length = sizeS segs ∧ ∀ i, atS segs i = (flatS segs)[i]?
  | [], _ => ⟨rfl, fun i => by simp [atS, flatS]⟩
  | .one v :: r, h => by
    obtain ⟨h1, h2⟩ := atS_flat (segs := r) (by simpa [lensOk] using h)
    refine ⟨by simp [flatS, sizeS, Seg.size, h1]; omega, fun i => ?_⟩
    cases i with
    | zero => simp [atS, Seg.size, flatS, Seg.at]
    | succ i => simp [atS, Seg.size, flatS, h2]
  | .ints k n l :: r, h => by
    simp only [lensOk, Bool.and_eq_true] at h
    have hl : l.length = n := Nat.eq_of_beq_eq_true h.1
    obtain ⟨h1, h2⟩ := atS_flat (segs := r) h.2
    have hs : (Seg.ints k n l).size = n := rfl
    refine ⟨by simp [flatS, sizeS, hs, h1, hl], fun i => ?_⟩
    simp only [atS, flatS, hs, h2]
    by_cases hi : i < n
    · rw [if_pos hi, List.getElem?_append_left (by simp [hl, hi])]
      simp [Seg.at, show i < l.length by omega]
    · rw [if_neg hi, List.getElem?_append_right (by simp [hl]; omega)]
      simp [hl]
  | .svs n f :: r, h => by
    obtain ⟨h1, h2⟩ := atS_flat (segs := r) (by simpa [lensOk] using h)
    have hs : (Seg.svs n f).size = n := rfl
    refine ⟨by simp [flatS, sizeS, hs, h1], fun i => ?_⟩
    simp only [atS, flatS, hs, h2]
    by_cases hi : i < n
    · rw [if_pos hi, List.getElem?_append_left (by simp [hi])]
      simp [Seg.at, hi]
    · rw [if_neg hi, List.getElem?_append_right (by simp; omega)]
      simp

theorem all2_get : ∀ {l : List SV} {vs : List Value}, all2 l vs = true → l.length = vs.length ∧ ∀ (i : Nat) (x : SV), l[i]? = some x → ∃ v, vs[i]? = some v ∧ cellOk x v = true
  | [], [], _ => ⟨rfl, fun i x h => by simp at h⟩
  | [], _ :: _, h => by simp [all2] at h
  | _ :: _, [], h => by simp [all2] at h
  | y :: r, v :: s, h => by
    simp only [all2, Bool.and_eq_true] at h
    obtain ⟨h1, h2⟩ := all2_get h.2
    refine ⟨by simp [h1], fun i x hx => ?_⟩
    cases i with
    | zero => simp at hx; subst hx; exact ⟨v, rfl, h.1⟩
    | succ i => simp at hx; obtain ⟨u, hu, hc⟩ := h2 i x hx; exact ⟨u, by simpa using hu, hc⟩

theorem rowOk_rep {segs : List Seg} {cs : Array Value} (h : rowOk segs cs = true) : cs.size = sizeS segs ∧ ∀ ρ, RowRep ρ segs (fun i => cs[i]?) := by
  simp only [rowOk, Bool.and_eq_true] at h
  obtain ⟨h1, h2⟩ := atS_flat h.1
  obtain ⟨h3, h4⟩ := all2_get h.2
  refine ⟨by rw [← h1, h3]; simp, fun ρ i x hx => ?_⟩
  rw [h2] at hx
  obtain ⟨v, hv, hc⟩ := h4 i x hx
  exact ⟨v, by simpa using hv, cellOk_rep hc ρ⟩

def upd (ρ : Rho) (n b : Nat) : Rho := fun i => if i = n then some (b, 0) else ρ i

theorem upd_le {ρ : Rho} {n b : Nat} (h : ρ n = none) : Rle ρ (upd ρ n b) := by
  intro i x hx
  unfold upd
  by_cases hi : i = n
  · subst hi; rw [h] at hx; cases hx
  · rw [if_neg hi]; exact hx

theorem New.one {ρ : Rho} {n : Nat} {k : Blk} {w : World} {cells : Array Value} {t : TypeId} (h : ρ n = none) (hr : ∀ ρ', Rle ρ ρ' → RowRep ρ' k.segs (fun i => cells[i]?)) :
    New ρ (upd ρ n w.heap.size) n [k] w (w.alloc (.cells cells t)) := by
  refine ⟨upd_le h, .alloc _ _, fun id b o e => ?_, fun i q hq b o e => ?_, fun id id' b o o' h1 h2 h3 h4 _ _ => by simp at h2 h4; omega⟩
  · by_cases hi : id = n
    · subst hi; simp [upd] at e; obtain ⟨rfl, rfl⟩ := e; exact .inr ⟨Nat.le_refl _, by simp, Nat.le_refl _, by simp⟩
    · simp [upd, hi] at e; exact .inl e
  · have hi : i = 0 := by
      rcases Nat.eq_zero_or_pos i with h0 | h0
      · exact h0
      · rw [List.getElem?_eq_none (by simp; omega)] at hq; cases hq
    subst hi
    simp at hq; subst hq
    simp [upd] at e; obtain ⟨rfl, rfl⟩ := e
    refine ⟨cells, t, (0, 0), heap_alloc_new _ _, fun _ => rfl, ?_⟩
    simpa using hr _ (upd_le h)

section rules
variable {P : Program} {T : Tm} {H : Heap} {d : Option Tmp} {ty : TypeId} {pos : String} {af : Array Edge} {g : Option (Nat × Bool)}

theorem h_alloc {t : TypeId} {z : Value} {segs : List Seg} {n : Nat} (hz : ∀ w, (zeroValue t).run P w = .ok z w) (hk : rowOk segs z.cells = true) (hn : H.length = n) :
    HOk P ⟨d, .alloc t, ty, pos, af, g⟩ T H (.s (.ptr n 0 0)) [⟨true, segs⟩] := by
  subst hn
  intro W ρ a w hH hf ho next Q hq
  have hrun : (execOp a.eval ⟨d, .alloc t, ty, pos, af, g⟩).run P w = .ok (.value (.pointer (some ⟨w.heap.size, 0, none⟩))) (w.alloc (.cells z.cells t)) := by
    simp [execOp, Instr.alloc, Sem.run_bind, hz, newVar, newRow]
  rw [hrun]
  have h0 : ρ H.length = none := by have := hf 0 (by simp); simpa using this
  exact hq _ _ ⟨_, .one h0 (fun ρ' _ => (rowOk_rep hk).2 ρ'), w.heap.size, 0, by simp [upd], rfl⟩

theorem h_box_agg {t : TypeId} {x : Operand} {segs : List Seg} {n : Nat} (hx : ev T x = .agg segs) (hn : H.length = n) :
    HOk P ⟨d, .box t x, ty, pos, af, g⟩ T H (.s (.ptr n 0 0)) [⟨true, segs⟩] := by
  subst hn
  intro W ρ a w hH hf ho next Q hq
  obtain ⟨cs, h1, h2, h3⟩ := one (op := .box t x) rfl ho hx
  have hrun : (execOp a.eval ⟨d, .box t x, ty, pos, af, g⟩).run P w = .ok (.value (.pointer (some ⟨w.heap.size, 0, none⟩))) (w.alloc (.cells cs t)) := by
    simp [execOp, Instr.box, Sem.run_bind, newVar, newRow, h1, Value.cells]
  rw [hrun]
  have h0 : ρ H.length = none := by have := hf 0 (by simp); simpa using this
  exact hq _ _ ⟨_, .one h0 (fun ρ' hl => h3.le hl), w.heap.size, 0, by simp [upd], rfl⟩

theorem cells_one {v : Value} (h : v.oneCell' = true) : v.cells = #[v] := by cases v <;> simp_all [Value.cells, Value.oneCell']

theorem h_box {t : TypeId} {x : Operand} {v : SV} {n : Nat} (hx : ev T x = .s v) (hj : v ≠ .junk) (hn : H.length = n) :
    HOk P ⟨d, .box t x, ty, pos, af, g⟩ T H (.s (.ptr n 0 0)) [⟨true, [.one v]⟩] := by
  subst hn
  intro W ρ a w hH hf ho next Q hq
  have h1 : v.rep ρ (a.eval x) := one (op := .box t x) rfl ho hx
  have h2 := SV.oneCell h1 hj
  have hrun : (execOp a.eval ⟨d, .box t x, ty, pos, af, g⟩).run P w = .ok (.value (.pointer (some ⟨w.heap.size, 0, none⟩))) (w.alloc (.cells #[a.eval x] t)) := by
    simp [execOp, Instr.box, Sem.run_bind, newVar, newRow, cells_one h2]
  rw [hrun]
  have h0 : ρ H.length = none := by have := hf 0 (by simp); simpa using this
  refine hq _ _ ⟨_, .one h0 (fun ρ' hl i y hy => ?_), w.heap.size, 0, by simp [upd], rfl⟩
  simp only [atS, Seg.size] at hy
  by_cases hi : i < 1
  · have : i = 0 := by omega
    subst this
    simp [Seg.at] at hy
    subst hy
    exact ⟨_, rfl, SV.rep_le hl h1, h2⟩
  · simp [hi] at hy

theorem addr_add (b o n : Nat) : (⟨b, o, none⟩ : Addr).add n = ⟨b, o + n, none⟩ := by unfold Addr.add; split <;> simp_all

theorem h_indexAddr {t e : TypeId} {x i : Operand} {id base idx n sz r : Nat} {k : IntKind} {j : Int} (hx : ev T x = .s (.ptr id base idx)) (hi : ev T i = .s (.int k j))
    (hu : P.underlying t = some (.array n e)) (hs : ∀ w, (sizeOf e).run P w = .ok sz w) (h0 : 0 ≤ j) (h1 : j < n) (hr : idx + j.toNat * sz = r) :
    HOk P ⟨d, .indexAddr t x i, ty, pos, af, g⟩ T H (.s (.ptr id base r)) [] :=
  .pure fun W ρ a w _ ho => by
    obtain ⟨ha, hb⟩ := two (op := .indexAddr t x i) rfl ho hx hi
    simp only [AV.rep, SV.rep] at ha hb
    obtain ⟨b, o, hρ, ha⟩ := ha
    refine ⟨.pointer (some ⟨b, o + base + r, none⟩), ?_, b, o, hρ, rfl⟩
    simp [execOp, ha, hb, Instr.indexAt, asIntOf, Sem.run_bind, run_underlying hu, Instr.sureAddr, h0, h1, hs, addr_add, ← hr, Nat.add_assoc]

theorem h_indexAddr_sl {t e : TypeId} {x i : Operand} {id base idx len cap sz r : Nat} {k : IntKind} {j : Int} (hx : ev T x = .s (.slice id base idx len cap)) (hi : ev T i = .s (.int k j))
    (hu : P.underlying t = some (.slice e)) (hs : ∀ w, (sizeOf e).run P w = .ok sz w) (h0 : 0 ≤ j) (h1 : j < len) (hr : idx + j.toNat * sz = r) :
    HOk P ⟨d, .indexAddr t x i, ty, pos, af, g⟩ T H (.s (.ptr id base r)) [] :=
  .pure fun W ρ a w _ ho => by
    obtain ⟨ha, hb⟩ := two (op := .indexAddr t x i) rfl ho hx hi
    simp only [AV.rep, SV.rep] at ha hb
    obtain ⟨b, o, hρ, ha⟩ := ha
    refine ⟨.pointer (some ⟨b, o + base + r, none⟩), ?_, b, o, hρ, rfl⟩
    simp [execOp, ha, hb, Instr.indexAt, asIntOf, Sem.run_bind, run_underlying hu, h0, h1, hs, addr_add, ← hr, Nat.add_assoc]

theorem h_fieldAddr {t : TypeId} {x : Operand} {id base idx f r r2 : Nat} {fs : Array Field} {fd : Field} (hx : ev T x = .s (.ptr id base idx))
    (hu : P.underlying t = some (.struct fs)) (hf : fs[f]? = some fd) (hsz : ∀ (w : World) (a : Addr), a.spot = none → (fieldPlace a fd).run P w = .ok (a.add fd.offset) w) (hr : (base + fd.offset = r ∧ idx = r2) ∨ (base = r ∧ idx + fd.offset = r2)) :
    HOk P ⟨d, .fieldAddr t x f, ty, pos, af, g⟩ T H (.s (.ptr id r r2)) [] :=
  .pure fun W ρ a w _ ho => by
    have ha := one (op := .fieldAddr t x f) rfl ho hx
    simp only [AV.rep, SV.rep] at ha
    obtain ⟨b, o, hρ, ha⟩ := ha
    refine ⟨.pointer (some ⟨b, o + r + r2, none⟩), ?_, b, o, hρ, rfl⟩
    have : o + base + idx + fd.offset = o + r + r2 := by rcases hr with ⟨rfl, rfl⟩ | ⟨rfl, rfl⟩ <;> omega
    simp [execOp, ha, Instr.fieldAt, Sem.run_bind, run_underlying hu, hf, Instr.sureAddr, hsz, addr_add, this]

theorem h_nilCheck {x : Operand} {id base idx : Nat} (hx : ev T x = .s (.ptr id base idx)) : HOk P ⟨d, .nilCheck x, ty, pos, af, g⟩ T H (.s (.ptr id base idx)) [] :=
  .pure fun W ρ a w _ ho => by
    have ha := one (op := .nilCheck x) rfl ho hx
    simp only [AV.rep, SV.rep] at ha
    obtain ⟨b, o, hρ, ha⟩ := ha
    exact ⟨_, by simp [execOp, ha], b, o, hρ, rfl⟩

theorem cell_at {ρ : Rho} {k : Blk} {w : World} {b o i : Nat} {x : SV} (h : BRep ρ k w b o) (hx : atS k.segs i = some x) : ∃ v, w.cell? ⟨b, o + i, none⟩ = some v ∧ x.rep ρ v ∧ v.oneCell' = true := by
  obtain ⟨cells, t, fr, h1, h2, h3⟩ := h
  obtain ⟨v, hv, hc⟩ := h3 i x hx
  exact ⟨v, by simp [World.cell?, h1]; exact hv, hc⟩

theorem h_load {t : TypeId} {x : Operand} {id base idx : Nat} {k : Blk} {v : SV} (hx : ev T x = .s (.ptr id base idx)) (hb : H[id]? = some (some k)) (hv : atS k.segs (base + idx) = some v)
    (ha : ∀ w, (isAgg t).run P w = .ok false w) : HOk P ⟨d, .load t x, ty, pos, af, g⟩ T H (.s v) [] :=
  .pure fun W ρ a w hH ho => by
    have h1 := one (op := .load t x) rfl ho hx
    simp only [AV.rep, SV.rep] at h1
    obtain ⟨b, o, hρ, h1⟩ := h1
    obtain ⟨u, hu, hr⟩ := cell_at (hH.rep id b o k hρ hb).1 hv
    rw [← Nat.add_assoc] at hu
    refine ⟨u, ?_, hr.1⟩
    simp [execOp, h1, Instr.loadAt, Instr.sureAddr, loadVar, Sem.run_bind, ha, hu]

/-- Of a segment of integers. -/
theorem h_load_ints {t : TypeId} {x : Operand} {id base idx n : Nat} {kk : IntKind} {l : List Int} {k : Blk} {r : Int} (hx : ev T x = .s (.ptr id base idx)) (hb : H[id]? = some (some k)) (hs : segAt k.segs base = some (.ints kk n l))
    (hi : idx < n) (hr : l.getD idx 0 = r) (ha : ∀ w, (isAgg t).run P w = .ok false w) : HOk P ⟨d, .load t x, ty, pos, af, g⟩ T H (.s (.int kk r)) [] :=
  h_load hx hb (by rw [segAt_at hs idx hi, ← hr]; rfl) ha

theorem h_load_one {t : TypeId} {x : Operand} {id base : Nat} {v : SV} {k : Blk} (hx : ev T x = .s (.ptr id base 0)) (hb : H[id]? = some (some k)) (hs : segAt k.segs base = some (.one v))
    (ha : ∀ w, (isAgg t).run P w = .ok false w) : HOk P ⟨d, .load t x, ty, pos, af, g⟩ T H (.s v) [] :=
  h_load hx hb (by rw [segAt_at hs 0 (by simp [Seg.size])]; rfl) ha

theorem h_load_agg {t : TypeId} {x : Operand} {id base idx n : Nat} {sub : List Seg} {k : Blk} (hx : ev T x = .s (.ptr id base idx)) (hb : H[id]? = some (some k)) (hsub : SubS k.segs (base + idx) n sub)
    (ha : ∀ w, (isAgg t).run P w = .ok true w) (hs : ∀ w, (sizeOf t).run P w = .ok n w) : HOk P ⟨d, .load t x, ty, pos, af, g⟩ T H (.agg sub) [] :=
  .pure fun W ρ a w hH ho => by
    have h1 := one (op := .load t x) rfl ho hx
    simp only [AV.rep, SV.rep] at h1
    obtain ⟨b, o, hρ, h1⟩ := h1
    obtain ⟨cells, tt, fr, g1, g2, g3⟩ := (hH.rep id b o k hρ hb).1
    have hcs : ∃ cs : List Value, cs.length = n ∧ ∀ j, j < n → cs[j]? = cells[o + (base + idx + j)]? := by
      refine ⟨(cells.toList.drop (o + (base + idx))).take n, ?_, fun j hj => ?_⟩
      · rcases Nat.eq_zero_or_pos n with h0 | h0
        · simp [h0]
        · obtain ⟨y, hy⟩ := (hsub.2 (n - 1) (by omega)).2
          obtain ⟨v, hv, _⟩ := g3 _ y hy
          have : o + (base + idx + (n - 1)) < cells.size := by
            rcases Nat.lt_or_ge (o + (base + idx + (n - 1))) cells.size with h | h
            · exact h
            · simp [Array.getElem?_eq_none h] at hv
          simp; omega
      · simp [List.getElem?_take, hj, Nat.add_assoc]
    obtain ⟨cs, hl, hc⟩ := hcs
    have hload := run_loadCells_list (P := P) w ⟨b, o + base + idx, none⟩ cs (fun j v hv => by
      have hj : j < n := by
        rcases Nat.lt_or_ge j n with h | h
        · exact h
        · rw [List.getElem?_eq_none (by omega)] at hv; cases hv
      rw [addr_add]
      have := hc j hj
      simp [World.cell?, g1]
      rw [show o + base + idx + j = o + (base + idx + j) by omega, ← this, hv])
    rw [hl] at hload
    refine ⟨.agg cs.toArray, ?_, cs.toArray, rfl, by simp [hl, hsub.1], fun i y hy => ?_⟩
    · simp [execOp, h1, Instr.loadAt, Instr.sureAddr, loadVar, Sem.run_bind, ha, hs, hload]
    · have hi : i < n := by rw [← hsub.1]; exact atS_lt hy
      rw [(hsub.2 i hi).1] at hy
      obtain ⟨v, hv, hr⟩ := g3 _ y hy
      exact ⟨v, by simp [hc i hi]; exact hv, hr⟩

/-! ### Stores -/
theorem HRep.write {W : Nat → Prop} {ρ : Rho} {H : Heap} {w : World} {id b o n p : Nat} {segs sub segs' : List Seg} {cells : Array Value} {t : TypeId} {cs : List Value} (hH : HRep W ρ H w) (hρ : ρ id = some (b, o)) (hb : H[id]? = some (some ⟨true, segs⟩))
    (hc : w.heap[b]? = some (.cells cells t (0, 0))) (hr : RowRep ρ segs (fun i => cells[o + i]?)) (hp : PutS segs p n sub segs') (hcs : cs.length = n) (hsub : RowRep ρ sub (fun i => cs[i]?)) (hfit : o + p + n ≤ cells.size) :
    HRep W ρ (H.set id (some ⟨true, segs'⟩)) (w.setRow b (cells.toList.take (o + p) ++ cs ++ cells.toList.drop (o + p + cs.length)).toArray) := by
  have hlen : id < H.length := by
    rcases Nat.lt_or_ge id H.length with h | h
    · exact h
    · rw [List.getElem?_eq_none h] at hb; cases hb
  have hget : ∀ (j : Nat) (q : Blk), (H.set id (some ⟨true, segs'⟩))[j]? = some (some q) → (j = id ∧ q = ⟨true, segs'⟩) ∨ (j ≠ id ∧ H[j]? = some (some q)) := by
    intro j q h
    by_cases hj : id = j
    · subst hj
      simp [hlen] at h
      exact .inl ⟨rfl, h.symm⟩
    · rw [List.getElem?_set_ne hj] at h
      exact .inr ⟨fun e => hj e.symm, h⟩
  have hrw : ∀ (j : Nat) (q : Blk), (H.set id (some ⟨true, segs'⟩))[j]? = some (some q) → ∃ q', H[j]? = some (some q') ∧ q'.rw = q.rw := by
    intro j q h
    rcases hget j q h with ⟨rfl, rfl⟩ | ⟨_, h2⟩
    · exact ⟨_, hb, rfl⟩
    · exact ⟨q, h2, rfl⟩
  refine ⟨fun j b' o' h => by simp; exact hH.lt j b' o' h, fun j b' o' q h1 h2 => ?_, fun j j' b' o1 o2 q q' hne h1 h2 h3 h4 => ?_⟩
  · rcases hget j q h2 with ⟨rfl, rfl⟩ | ⟨hne, h3⟩
    · rw [hρ] at h1
      simp at h1
      obtain ⟨rfl, rfl⟩ := h1
      refine ⟨⟨_, t, (0, 0), setRow_heap _ _ _ _ _ _ hc, fun _ => rfl, fun i x hx => ?_⟩, fun _ => (hH.rep j b o _ hρ hb).2 rfl⟩
      have hput := hp.2 i x hx
      simp only [List.getElem?_toArray]
      by_cases hi : p ≤ i ∧ i < p + n
      · rw [if_pos hi] at hput
        obtain ⟨v, hv, hvr⟩ := hsub _ _ hput
        refine ⟨v, ?_, hvr⟩
        rw [List.getElem?_append_left (by simp; omega), List.getElem?_append_right (by simp; omega)]
        simp only [List.length_take, Array.length_toList]
        rw [show o + i - min (o + p) cells.size = i - p by omega]; exact hv
      · rw [if_neg hi] at hput
        obtain ⟨v, hv, hvr⟩ := hr _ _ hput
        refine ⟨v, ?_, hvr⟩
        by_cases hlt : i < p
        · rw [List.getElem?_append_left (by simp; omega), List.getElem?_append_left (by simp; omega)]
          simp only [List.getElem?_take]
          rw [if_pos (by omega)]
          simpa using hv
        · rw [List.getElem?_append_right (by simp; omega)]
          simp only [List.getElem?_drop, List.length_append, List.length_take, Array.length_toList]
          rw [show o + p + cs.length + (o + i - (min (o + p) cells.size + cs.length)) = o + i by omega]
          simpa using hv
    · have := hH.rep j b' o' q h1 h3
      refine ⟨?_, this.2⟩
      have hbb : b' ≠ b := by
        intro e
        subst e
        have := (hH.apart j id b' o' o q ⟨true, segs⟩ hne h1 hρ h3 hb).2
        simp at this
      exact this.1.world (setRow_other _ _ _ _ hbb)
  · obtain ⟨a1, a2, a3⟩ := hrw j q h3
    obtain ⟨c1, c2, c3⟩ := hrw j' q' h4
    have := hH.apart j j' b' o1 o2 a1 c1 hne h1 h2 a2 c2
    rw [← a3, ← c3]; exact this

theorem Fr.setRow {W : Nat → Prop} {w : World} {b : Nat} (cs : Array Value) (h : W b) : Fr W w (w.setRow b cs) :=
  ⟨rfl, rfl, rfl, by simp, fun k _ hn => setRow_other _ _ _ _ (fun e => hn (e ▸ h)), fun k o hk hc => by
    by_cases e : k = b
    · subst e
      obtain ⟨hl, hk'⟩ := Array.getElem?_eq_some_iff.1 hk
      unfold World.setRow
      show (w.heap.modify k _)[k]? = some o
      rw [Array.getElem?_eq_getElem (by simpa using hl), Array.getElem_modify_self, hk']
      cases o <;> first | rfl | (simp [Obj.isCells] at hc)
    · rw [setRow_other _ _ _ _ e]; exact hk⟩

/-- A store, of whatever cells. -/
theorem m_store {t : TypeId} {x y : Operand} {id base idx n : Nat} {segs sub segs' : List Seg} (hx : ev T x = .s (.ptr id base idx)) (hb : H[id]? = some (some ⟨true, segs⟩))
    (hy : ∀ (ρ : Rho) (v : Value), (ev T y).rep ρ v → v.cells.size = n ∧ RowRep ρ sub (fun i => v.cells[i]?) ∧ ∀ u ∈ v.cells.toList, u.oneCell' = true) (hp : PutS segs (base + idx) n sub segs') (hs : ∀ w, (sizeOf t).run P w = .ok n w) :
    MOk P ⟨d, .store t x y, ty, pos, af, g⟩ T H (.s .junk) (H.set id (some ⟨true, segs'⟩)) := by
  intro W ρ a w hH hn hW ho next Q hq
  have h1 : (ev T x).rep ρ (a.eval x) := ho x (by simp [Op.operands])
  have h2 : (ev T y).rep ρ (a.eval y) := ho y (by simp [Op.operands])
  rw [hx] at h1
  simp only [AV.rep, SV.rep] at h1
  obtain ⟨b, o, hρ, h1⟩ := h1
  obtain ⟨hsz, hsub, hone⟩ := hy ρ _ h2
  obtain ⟨⟨cells, tt, fr, g1, g2, g3⟩, hWb⟩ := hH.rep id b o _ hρ hb
  have hfr := g2 rfl
  subst hfr
  have hfit : o + (base + idx) + n ≤ cells.size := by
    have hle := hp.1
    obtain ⟨y, hy⟩ := atS_some (l := segs) (i := base + idx + n - 1) (by omega)
    obtain ⟨v, hv, _⟩ := g3 _ y hy
    have : o + (base + idx + n - 1) < cells.size := by
      rcases Nat.lt_or_ge (o + (base + idx + n - 1)) cells.size with h | h
      · exact h
      · simp [Array.getElem?_eq_none h] at hv
    omega
  have hst := run_storeCells_at P b (o + (base + idx)) tt (a.eval y).cells.toList 0 cells w g1 (by simp [hsz]; omega) hone
  have hrun : (execOp a.eval ⟨d, .store t x y, ty, pos, af, g⟩).run P w = .ok .skip (w.setRow b (cells.toList.take (o + (base + idx)) ++ (a.eval y).cells.toList ++ cells.toList.drop (o + (base + idx) + (a.eval y).cells.toList.length)).toArray) := by
    rw [Nat.add_zero] at hst
    simp only [Nat.add_assoc] at hst ⊢
    simp [execOp, h1, Instr.storeAt, Instr.sureAddr, storeVar, Sem.run_bind, hs, hsz, Nat.add_assoc] at hst ⊢
    rw [hst]; rfl
  rw [hrun]
  refine hq undef _ ⟨ρ, fun i hi => hn i (by simpa using hi), .refl _, ?_, Fr.setRow _ (hWb rfl), trivial⟩
  exact hH.write hρ hb g1 g3 hp (by simp [hsz]) (by simpa using hsub) hfit

theorem m_store_agg {t : TypeId} {x y : Operand} {id base idx n : Nat} {segs sub segs' : List Seg} (hx : ev T x = .s (.ptr id base idx)) (hy : ev T y = .agg sub) (hb : H[id]? = some (some ⟨true, segs⟩))
    (hp : PutS segs (base + idx) n sub segs') (hs : ∀ w, (sizeOf t).run P w = .ok n w) (hn : sizeS sub = n) :
    MOk P ⟨d, .store t x y, ty, pos, af, g⟩ T H (.s .junk) (H.set id (some ⟨true, segs'⟩)) := by
  refine m_store hx hb (fun ρ v h => ?_) hp hs
  rw [hy] at h
  obtain ⟨cs, h1, h2, h3⟩ := h
  subst h1
  refine ⟨by simp [Value.cells, h2, hn], h3, fun u hu => ?_⟩
  simp only [Value.cells] at hu
  obtain ⟨i, hi, e⟩ := List.getElem_of_mem hu
  obtain ⟨y, hy2⟩ := atS_some (l := sub) (i := i) (by rw [← h2]; simpa using hi)
  obtain ⟨v, hv, hc⟩ := h3 i y hy2
  have h5 : i < cs.size := by simpa using hi
  have h6 : cs[i]? = some cs[i] := by simp [h5]
  simp only at hv
  rw [h6] at hv
  simp at hv e
  rw [← e, hv]; exact hc.2

theorem m_store_s {t : TypeId} {x y : Operand} {id base idx : Nat} {segs segs' : List Seg} {v : SV} (hx : ev T x = .s (.ptr id base idx)) (hy : ev T y = .s v) (hj : v ≠ .junk) (hb : H[id]? = some (some ⟨true, segs⟩))
    (hp : PutS segs (base + idx) 1 [.one v] segs') (hs : ∀ w, (sizeOf t).run P w = .ok 1 w) :
    MOk P ⟨d, .store t x y, ty, pos, af, g⟩ T H (.s .junk) (H.set id (some ⟨true, segs'⟩)) := by
  refine m_store hx hb (fun ρ u h => ?_) hp hs
  rw [hy] at h
  have h1 : v.rep ρ u := h
  have h2 := SV.oneCell h1 hj
  rw [cells_one h2]
  refine ⟨rfl, fun i z hz => ?_, by simp [h2]⟩
  simp only [atS, Seg.size] at hz
  by_cases hi : i < 1
  · have : i = 0 := by omega
    subst this
    simp [Seg.at] at hz
    subst hz
    exact ⟨_, rfl, h1, h2⟩
  · simp [hi] at hz

theorem PutS.int1 {l : List Seg} {o i m : Nat} {k : IntKind} {xs : List Int} {y : Int} (h : segAt l o = some (.ints k m xs)) (hn : i < m) (hl : xs.length = m) : PutS l (o + i) 1 [.one (.int k y)] (segSet l o (.ints k m (xs.set i y))) := by
  refine ⟨⟨by omega, by have := segAt_size h; simp [Seg.size] at this; omega⟩, fun j z hz => ?_⟩
  have e := segSet_at (x := .ints k m (xs.set i y)) h rfl j
  have hsz : (Seg.ints k m xs).size = m := rfl
  rw [hsz] at e
  rw [e] at hz
  by_cases hj : o + i ≤ j ∧ j < o + i + 1
  · have : j = o + i := by omega
    subst this
    rw [if_pos (by omega)] at hz
    rw [if_pos hj, ← hz]
    simp [atS, Seg.size, Seg.at, show i < xs.length by omega]
  · rw [if_neg hj]
    by_cases h2 : o ≤ j ∧ j < o + m
    · rw [if_pos h2] at hz
      rw [← hz]
      have h3 := segAt_at h (j - o) (by simp [Seg.size]; omega)
      rw [show o + (j - o) = j by omega] at h3
      rw [h3]
      simp only [Seg.at]
      have : i ≠ j - o := by omega
      simp [List.getElem?_set_ne this]
    · rw [if_neg h2] at hz; exact hz

theorem m_store_int {t : TypeId} {x y : Operand} {id base idx m : Nat} {segs : List Seg} {k : IntKind} {n : Int} {xs : List Int} {r : Heap} (hx : ev T x = .s (.ptr id base idx)) (hy : ev T y = .s (.int k n)) (hb : H[id]? = some (some ⟨true, segs⟩))
    (hs : segAt segs base = some (.ints k m xs)) (hi : idx < m) (hl : xs.length = m) (hz : ∀ w, (sizeOf t).run P w = .ok 1 w) (hr : H.set id (some ⟨true, segSet segs base (.ints k m (xs.set idx n))⟩) = r) :
    MOk P ⟨d, .store t x y, ty, pos, af, g⟩ T H (.s .junk) r := by
  subst hr
  exact m_store_s hx hy (by simp) hb (PutS.int1 hs hi hl) hz

theorem m_store_one {t : TypeId} {x y : Operand} {id base : Nat} {segs : List Seg} {v u : SV} {r : Heap} (hx : ev T x = .s (.ptr id base 0)) (hy : ev T y = .s v) (hj : v ≠ .junk) (hb : H[id]? = some (some ⟨true, segs⟩))
    (hs : segAt segs base = some (.one u)) (hz : ∀ w, (sizeOf t).run P w = .ok 1 w) (hr : H.set id (some ⟨true, segSet segs base (.one v)⟩) = r) :
    MOk P ⟨d, .store t x y, ty, pos, af, g⟩ T H (.s .junk) r := by
  subst hr
  exact m_store_s hx hy hj hb (PutS.seg (by decide) hs rfl rfl) hz
end rules
end Go.Ab
