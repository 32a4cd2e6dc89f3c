/- A part of the proofs of this claim: Bx14, Bx15, Bx16, Bx17, Bx18, Bx19. No conditions. -/
import Derived.Test.YtcddchknofjbhaaGreatA2
import Derived.KernelRfl
set_option linter.unusedVariables false
set_option linter.unusedSimpArgs false
section
/- Arrays of integers compared. No program. -/
namespace Go.Bx
section
variable {P : Program} {w : World}
theorem run_equalIn_ints (d : Nat) {t e : TypeId} {n : Nat} {k : IntKind} {xs ys : Array Value} {l m : Nat → Int} (hu : P.underlying t = some (.array n e)) (he : P.underlying e = some (.int k)) (hs : ∀ w, (sizeOf e).run P w = .ok 1 w) (ha : ∀ w, (isAgg e).run P w = .ok false w)
    (hx : ∀ i, i < n → xs[i]? = some (.int k (l i))) (hy : ∀ i, i < n → ys[i]? = some (.int k (m i))) : (Op.equalIn (d + 2) t (.agg xs) (.agg ys)).run P w = .ok (decide (∀ i, i < n → l i = m i)) w := by
  have hpart : ∀ i, i < n → (part e xs (i * 1)).run P w = .ok (.int k (l i)) w := fun i hi => by simp [part, Sem.run_bind, ha, hx i hi]
  have hpart2 : ∀ i, i < n → (part e ys (i * 1)).run P w = .ok (.int k (m i)) w := fun i hi => by simp [part, Sem.run_bind, ha, hy i hi]
  rw [Op.equalIn]
  simp only [Sem.run_bind, run_underlying hu, Result.andThen_ok, hs]
  let body : Nat → Option Bool × Unit → Sem (ForInStep (Option Bool × Unit)) := fun i _ => do
    let a ← part e xs (i * 1)
    let b ← part e ys (i * 1)
    let c ← Op.equalIn (d + 1) e a b
    if (!c) = true then pure (ForInStep.done (some false, ())) else pure (ForInStep.yield (none, ()))
  have step : ∀ i, i < n → ∀ s, (body i s).run P w = .ok (if l i = m i then .yield (none, ()) else .done (some false, ())) w := by
    intro i hi s
    simp only [body, Sem.run_bind, hpart i hi, hpart2 i hi, Result.andThen_ok]
    rw [run_equalIn_int w d e k k _ _ he]
    simp only [Result.andThen_ok]
    by_cases h : l i = m i
    · simp [h]
    · have : (l i == m i) = false := by simpa using h
      simp [this, h]
  have key : ∀ (is : List Nat), (∀ i ∈ is, i < n) → (forIn is ((none : Option Bool), ()) body).run P w = .ok (if ∀ i ∈ is, l i = m i then (none, ()) else (some false, ())) w := by
    intro is
    induction is with
    | nil => intro _; simp
    | cons i r ih =>
      intro h
      rw [List.forIn_cons, Sem.run_bind, step i (h i (by simp)) (none, ())]
      simp only [Result.andThen_ok]
      by_cases hi : l i = m i
      · simp only [hi, if_true]
        rw [ih (fun j hj => h j (by simp [hj]))]
        simp [hi]
      · simp [hi]
  have h0 := key (List.range' 0 n) (fun i hi => by simp at hi; omega)
  rw [Std.Legacy.Range.forIn_eq_forIn_range']
  simp only [Std.Legacy.Range.size, Nat.sub_zero, Nat.add_sub_cancel, Nat.div_one]
  show ((Sem.run P (forIn (List.range' 0 n) ((none : Option Bool), ()) body) w).andThen _) = _
  rw [h0]
  simp only [Result.andThen_ok]
  by_cases hall : ∀ i, i < n → l i = m i
  · have : ∀ i ∈ List.range' 0 n, l i = m i := fun i hi => hall i (by simp at hi; omega)
    rw [if_pos this]
    show Result.ok true w = _
    rw [decide_eq_true hall]
  · have : ¬ ∀ i ∈ List.range' 0 n, l i = m i := fun h => hall fun i hi => h i (by simp [List.mem_range'_1]; omega)
    rw [if_neg this]
    show Result.ok false w = _
    rw [decide_eq_false hall]
end

section rules
variable {P : Program} {T : Tm} {H : Heap} {d : Option Tmp} {ty : TypeId} {pos : String} {af : Array Edge} {g : Option (Nat × Bool)}
theorem agg_ints_cells {ρ : Rho} {k : IntKind} {n : Nat} {l : List Int} {v : Value} (h : (AV.agg [.ints k n l]).rep ρ v) : ∃ cs : Array Value, v = .agg cs ∧ ∀ i, i < n → cs[i]? = some (.int k (l.getD i 0)) := by
  obtain ⟨cs, h1, h2, h3⟩ := h
  refine ⟨cs, h1, fun i hi => ?_⟩
  obtain ⟨u, hu, hr, _⟩ := h3 i (.int k (l.getD i 0)) (by
    have hs : (Seg.ints k n l).size = n := rfl
    simp only [atS]; rw [if_pos (by rw [hs]; exact hi)]; rfl)
  exact hu.trans (congrArg some hr)
theorem eq_getD {l m : List Int} {n : Nat} (hl : l.length = n) (hm : m.length = n) : (∀ i, i < n → l.getD i 0 = m.getD i 0) ↔ l = m := by
  refine ⟨fun h => List.ext_getElem (hl.trans hm.symm) fun i h1 h2 => ?_, fun h i _ => by rw [h]⟩
  have := h i (by omega)
  simpa [List.getD_eq_getElem?_getD, h1, h2] using this
theorem l_eqA {t e : TypeId} {x y : Operand} {tyy : TypeId} {n : Nat} {k : IntKind} {l m : List Int} (hx : ev T x = .agg [.ints k n l]) (hy : ev T y = .agg [.ints k n m]) (hu : P.underlying t = some (.array n e)) (he : P.underlying e = some (.int k)) (hs : ∀ w, (sizeOf e).run P w = .ok 1 w) (ha : ∀ w, (isAgg e).run P w = .ok false w)
    (hg : P.eqGuardType P.depth t = false) (hl : l.length = n) (hm : m.length = n) : LOk P ⟨d, .binOp .eql t x y tyy, ty, pos, af, g⟩ T H H (.s (.bool (decide (l = m)))) [] [] :=
  lok_pure fun ρ a w ho => by
    obtain ⟨h1, h2⟩ := two (op := .binOp .eql t x y tyy) rfl ho hx hy
    obtain ⟨xs, e1, c1⟩ := agg_ints_cells h1
    obtain ⟨ys, e2, c2⟩ := agg_ints_cells h2
    refine ⟨.bool (decide (l = m)), ?_, rfl⟩
    have := run_equalIn_ints (P := P) (w := w) 9998 hu he hs ha c1 c2
    simp only [execOp, e1, e2, Sem.run_bind, run_eqGuard_agg w .eql t x y xs ys hg, Result.andThen_ok, run_eql_struct w t xs ys]
    rw [show (Op.equalIn 10000 t (.agg xs) (.agg ys)).run P w = _ from this]
    simp only [Result.andThen_ok, Sem.run_pure, eq_getD hl hm]
theorem l_neA {t e : TypeId} {x y : Operand} {tyy : TypeId} {n : Nat} {k : IntKind} {l m : List Int} (hx : ev T x = .agg [.ints k n l]) (hy : ev T y = .agg [.ints k n m]) (hu : P.underlying t = some (.array n e)) (he : P.underlying e = some (.int k)) (hs : ∀ w, (sizeOf e).run P w = .ok 1 w) (ha : ∀ w, (isAgg e).run P w = .ok false w)
    (hg : P.eqGuardType P.depth t = false) (hl : l.length = n) (hm : m.length = n) : LOk P ⟨d, .binOp .neq t x y tyy, ty, pos, af, g⟩ T H H (.s (.bool (!decide (l = m)))) [] [] :=
  lok_pure fun ρ a w ho => by
    obtain ⟨h1, h2⟩ := two (op := .binOp .neq t x y tyy) rfl ho hx hy
    obtain ⟨xs, e1, c1⟩ := agg_ints_cells h1
    obtain ⟨ys, e2, c2⟩ := agg_ints_cells h2
    refine ⟨.bool (!decide (l = m)), ?_, rfl⟩
    have := run_equalIn_ints (P := P) (w := w) 9998 hu he hs ha c1 c2
    simp only [execOp, e1, e2, Sem.run_bind, run_eqGuard_agg w .neq t x y xs ys hg, Result.andThen_ok, run_neq_struct w t xs ys]
    rw [show (Op.equalIn 10000 t (.agg xs) (.agg ys)).run P w = _ from this]
    simp only [Result.andThen_ok, Sem.run_pure, eq_getD hl hm]

theorem ret_cell {P : Program} {fn : Func} {T : Tm} {H : Heap} {p id n : Nat} {ty : TypeId} {k : Blk} {segs : List Seg} (hr : fn.results = #[.cell p ty]) (hp : look T p = .s (.ptr id 0 0)) (hb : hget H id = some k) (hs : SubS k.segs 0 n segs)
    (ha : ∀ w, (isAgg ty).run P w = .ok true w) (hz : ∀ w, (sizeOf ty).run P w = .ok n w) : Ret P fn T H (.agg segs) := by
  intro W ρ a w hH hT
  have hx := hT p
  rw [hp] at hx
  obtain ⟨b, o, hρ, hx⟩ := hx
  obtain ⟨cells, t, fr, g1, _, _, g4⟩ := (hH.rep id b o k hρ hb).1
  obtain ⟨v', h3, h4⟩ := run_load_sub (P := P) (o := o) g1 hs.1 (by have := sub_row g4 hs; simpa using this) ha hz
  refine ⟨v', ?_, h4⟩
  have hx'' : a.tmps[p]?.getD undef = .pointer (some ⟨b, o, none⟩) := by simpa using hx
  simp [results, hr, Sem.run_bind, hx'', asAddr]
  simpa using h3
def resV (tmps : Array Value) : ResultVar → Sem Value
  | .tmp t => pure (tmps.getD t undef)
  | .cell a t => do loadVar t (← asAddr (tmps.getD a undef))
theorem results_eq (fn : Func) (tmps : Array Value) : results fn tmps = (do
    let vs ← fn.results.mapM (resV tmps)
    return (if h : vs.size = 1 then vs[0] else Value.tuple vs)) := by
  unfold results
  congr
def RetI (P : Program) (T : Tm) (H : Heap) (r : ResultVar) (v : AV) : Prop :=
  ∀ (W : Nat → Prop) (ρ : Rho) (a : Act) (w : World), HRep W ρ (hget H) w → TRep ρ T a → ∃ u, (match r with | .tmp t => pure (a.tmps.getD t undef) | .cell b t => do loadVar t (← asAddr (a.tmps.getD b undef)) : Sem Value).run P w = .ok u w ∧ v.rep0 ρ u
theorem ri_tmp {P : Program} {T : Tm} {H : Heap} {t : Nat} {v : SV} (hv : look T t = .s v) : RetI P T H (.tmp t) (.s v) := fun W ρ a w _ hT => ⟨_, rfl, by have := hT t; rw [hv] at this; exact this⟩
theorem ri_tmpa {P : Program} {T : Tm} {H : Heap} {t : Nat} {l : List Seg} (hv : look T t = .agg l) : RetI P T H (.tmp t) (.agg l) := fun W ρ a w _ hT => ⟨_, rfl, by have := hT t; rw [hv] at this; exact this⟩
theorem ri_cella {P : Program} {T : Tm} {H : Heap} {p id n : Nat} {ty : TypeId} {k : Blk} {segs : List Seg} (hp : look T p = .s (.ptr id 0 0)) (hb : hget H id = some k) (hs : SubS k.segs 0 n segs)
    (ha : ∀ w, (isAgg ty).run P w = .ok true w) (hz : ∀ w, (sizeOf ty).run P w = .ok n w) : RetI P T H (.cell p ty) (.agg segs) := by
  intro W ρ a w hH hT
  have hx := hT p
  rw [hp] at hx
  obtain ⟨b, o, hρ, hx⟩ := hx
  obtain ⟨cells, t, fr, g1, _, _, g4⟩ := (hH.rep id b o k hρ hb).1
  obtain ⟨v', h3, h4⟩ := run_load_sub (P := P) (o := o) g1 hs.1 (by have := sub_row g4 hs; simpa using this) ha hz
  refine ⟨v', ?_, h4⟩
  have hx'' : a.tmps[p]?.getD undef = .pointer (some ⟨b, o, none⟩) := by simpa using hx
  simp [Sem.run_bind, hx'', asAddr, h3]
theorem ri_cells {P : Program} {T : Tm} {H : Heap} {p id : Nat} {ty : TypeId} {k : Blk} {v : SV} (hp : look T p = .s (.ptr id 0 0)) (hb : hget H id = some k) (hs : atS k.segs 0 = some v)
    (ha : ∀ w, (isAgg ty).run P w = .ok false w) : RetI P T H (.cell p ty) (.s v) := by
  intro W ρ a w hH hT
  have hx := hT p
  rw [hp] at hx
  obtain ⟨b, o, hρ, hx⟩ := hx
  obtain ⟨u, hu, hr⟩ := cell_at (hH.rep id b o k hρ hb).1 hs
  refine ⟨u, ?_, hr.1⟩
  have hx'' : a.tmps[p]?.getD undef = .pointer (some ⟨b, o, none⟩) := by simpa using hx
  rw [Nat.add_zero] at hu
  simp [Sem.run_bind, hx'', asAddr, loadVar, ha, hu]
theorem ret2 {P : Program} {fn : Func} {T : Tm} {H : Heap} {r0 r1 : ResultVar} {v0 v1 : AV} (hr : fn.results = #[r0, r1]) (h0 : RetI P T H r0 v0) (h1 : RetI P T H r1 v1) : Ret P fn T H (.tup [v0, v1]) := by
  intro W ρ a w hH hT
  obtain ⟨u0, e0, k0⟩ := h0 W ρ a w hH hT
  obtain ⟨u1, e1, k1⟩ := h1 W ρ a w hH hT
  refine ⟨.tuple #[u0, u1], ?_, #[u0, u1], rfl, fun i x hx => ?_⟩
  · have key : ∀ (r : ResultVar) (u : Value), (match r with | .tmp t => pure (a.tmps.getD t undef) | .cell b t => do loadVar t (← asAddr (a.tmps.getD b undef)) : Sem Value).run P w = .ok u w → (resV a.tmps r).run P w = .ok u w := fun r u h => by cases r <;> exact h
    rw [results_eq, hr]
    simp [Sem.run_bind, key _ _ e0, key _ _ e1]
  · match i, hx with
    | 0, hx => simp at hx; subst hx; exact ⟨u0, rfl, k0⟩
    | 1, hx => simp at hx; subst hx; exact ⟨u1, rfl, k1⟩
    | i + 2, hx => simp at hx
theorem ret3 {P : Program} {fn : Func} {T : Tm} {H : Heap} {r0 r1 r2 : ResultVar} {v0 v1 v2 : AV} (hr : fn.results = #[r0, r1, r2]) (h0 : RetI P T H r0 v0) (h1 : RetI P T H r1 v1) (h2 : RetI P T H r2 v2) : Ret P fn T H (.tup [v0, v1, v2]) := by
  intro W ρ a w hH hT
  obtain ⟨u0, e0, k0⟩ := h0 W ρ a w hH hT
  obtain ⟨u1, e1, k1⟩ := h1 W ρ a w hH hT
  obtain ⟨u2, e2, k2⟩ := h2 W ρ a w hH hT
  refine ⟨.tuple #[u0, u1, u2], ?_, #[u0, u1, u2], rfl, fun i x hx => ?_⟩
  · have key : ∀ (r : ResultVar) (u : Value), (match r with | .tmp t => pure (a.tmps.getD t undef) | .cell b t => do loadVar t (← asAddr (a.tmps.getD b undef)) : Sem Value).run P w = .ok u w → (resV a.tmps r).run P w = .ok u w := fun r u h => by cases r <;> exact h
    rw [results_eq, hr]
    simp [Sem.run_bind, key _ _ e0, key _ _ e1, key _ _ e2]
  · match i, hx with
    | 0, hx => simp at hx; subst hx; exact ⟨u0, rfl, k0⟩
    | 1, hx => simp at hx; subst hx; exact ⟨u1, rfl, k1⟩
    | 2, hx => simp at hx; subst hx; exact ⟨u2, rfl, k2⟩
    | i + 3, hx => simp at hx
end rules
end Go.Bx
end

section
/- Facts found by their types; numbers that stay natural. No program. -/
namespace Go.Bx

class Und (P : Program) (t : TypeId) (d : outParam TypeDesc) : Prop where
  h : P.underlying t = some d
class Sz (P : Program) (t : TypeId) (n : outParam Nat) : Prop where
  h : ∀ w, (sizeOf t).run P w = .ok n w
class Ag (P : Program) (t : TypeId) (b : outParam Bool) : Prop where
  h : ∀ w, (isAgg t).run P w = .ok b w
class Zv (P : Program) (t : TypeId) (Z : outParam (List Seg)) : Prop where
  h : ∃ z : Value, (∀ w, (zeroValue t).run P w = .ok z w) ∧ rowOk Z z.cells = true
class Zi (P : Program) (t : TypeId) (k : outParam IntKind) : Prop where
  h : ∀ w, (zeroValue t).run P w = .ok (.int k 0) w
class Inf (P : Program) (t : TypeId) (i : outParam TypeInfo) : Prop where
  h : P.info? t = some i
class Clb (P : Program) (f : FuncId) : Prop where
  h : Callable P f
class Mix (P : Program) : Prop where
  h : P.follows .mixedOrders = true

class IsN (n : Int) (m : outParam Nat) : Prop where
  h : n = (m : Int)
instance isN_cast (m : Nat) : IsN (m : Int) m := ⟨rfl⟩
instance : IsN 0 0 := ⟨rfl⟩
instance : IsN 1 1 := ⟨rfl⟩
instance : IsN 2 2 := ⟨rfl⟩
instance : IsN 3 3 := ⟨rfl⟩
instance : IsN 4 4 := ⟨rfl⟩
instance : IsN 5 5 := ⟨rfl⟩
instance : IsN 6 6 := ⟨rfl⟩
instance : IsN 7 7 := ⟨rfl⟩
instance : IsN 8 8 := ⟨rfl⟩
instance : IsN 9 9 := ⟨rfl⟩
instance : IsN 10 10 := ⟨rfl⟩
instance : IsN 11 11 := ⟨rfl⟩
instance : IsN 12 12 := ⟨rfl⟩
instance : IsN 13 13 := ⟨rfl⟩
instance : IsN 14 14 := ⟨rfl⟩
instance : IsN 15 15 := ⟨rfl⟩
instance : IsN 16 16 := ⟨rfl⟩
instance : IsN 17 17 := ⟨rfl⟩
instance : IsN 18 18 := ⟨rfl⟩
instance : IsN 19 19 := ⟨rfl⟩
instance : IsN 20 20 := ⟨rfl⟩
instance : IsN 21 21 := ⟨rfl⟩
instance : IsN 22 22 := ⟨rfl⟩
instance : IsN 23 23 := ⟨rfl⟩
instance : IsN 24 24 := ⟨rfl⟩
instance : IsN 25 25 := ⟨rfl⟩
instance : IsN 26 26 := ⟨rfl⟩
instance : IsN 27 27 := ⟨rfl⟩
instance : IsN 28 28 := ⟨rfl⟩
instance : IsN 29 29 := ⟨rfl⟩
instance : IsN 30 30 := ⟨rfl⟩
instance : IsN 31 31 := ⟨rfl⟩
instance : IsN 32 32 := ⟨rfl⟩
instance : IsN 33 33 := ⟨rfl⟩
instance : IsN 40 40 := ⟨rfl⟩
instance : IsN 41 41 := ⟨rfl⟩
instance : IsN 48 48 := ⟨rfl⟩
instance : IsN 50 50 := ⟨rfl⟩
instance : IsN 54 54 := ⟨rfl⟩
instance : IsN 60 60 := ⟨rfl⟩
instance : IsN 63 63 := ⟨rfl⟩
instance : IsN 64 64 := ⟨rfl⟩
instance : IsN 65 65 := ⟨rfl⟩
instance : IsN 73 73 := ⟨rfl⟩
instance : IsN 77 77 := ⟨rfl⟩
instance : IsN 92 92 := ⟨rfl⟩
instance : IsN 97 97 := ⟨rfl⟩
instance : IsN 98 98 := ⟨rfl⟩
instance : IsN 99 99 := ⟨rfl⟩
instance : IsN 100 100 := ⟨rfl⟩
instance : IsN 101 101 := ⟨rfl⟩
instance : IsN 108 108 := ⟨rfl⟩
instance : IsN 110 110 := ⟨rfl⟩
instance : IsN 112 112 := ⟨rfl⟩
instance : IsN 114 114 := ⟨rfl⟩
instance : IsN 117 117 := ⟨rfl⟩
instance : IsN 119 119 := ⟨rfl⟩
instance : IsN 122 122 := ⟨rfl⟩
instance : IsN 128 128 := ⟨rfl⟩
instance : IsN 192 192 := ⟨rfl⟩
instance : IsN 255 255 := ⟨rfl⟩
instance : IsN 256 256 := ⟨rfl⟩
instance : IsN 257 257 := ⟨rfl⟩
instance : IsN 300 300 := ⟨rfl⟩
instance : IsN 321 321 := ⟨rfl⟩
instance : IsN 513 513 := ⟨rfl⟩
instance : IsN 705 705 := ⟨rfl⟩
instance : IsN 897 897 := ⟨rfl⟩
instance : IsN 961 961 := ⟨rfl⟩
instance : IsN 1000 1000 := ⟨rfl⟩
instance : IsN 2019 2019 := ⟨rfl⟩
instance : IsN 2048 2048 := ⟨rfl⟩
instance : IsN 3000 3000 := ⟨rfl⟩
instance : IsN 6000 6000 := ⟨rfl⟩
instance : IsN 8000 8000 := ⟨rfl⟩
instance : IsN 8160 8160 := ⟨rfl⟩
instance : IsN 61505 61505 := ⟨rfl⟩
instance : IsN 61697 61697 := ⟨rfl⟩
instance : IsN 65535 65535 := ⟨rfl⟩
instance : IsN 65536 65536 := ⟨rfl⟩
instance : IsN 1048576 1048576 := ⟨rfl⟩
instance : IsN 4294967295 4294967295 := ⟨rfl⟩
instance : IsN 4294967296 4294967296 := ⟨rfl⟩
def zs (l : List Nat) : List Int := l.map Int.ofNat
theorem zs_len (l : List Nat) : (zs l).length = l.length := by simp [zs]
theorem zs_getD (l : List Nat) (i : Nat) : (zs l).getD i 0 = ((l.getD i 0 : Nat) : Int) := by
  simp only [zs, List.getD_eq_getElem?_getD, List.getElem?_map]
  cases l[i]? <;> rfl
theorem zs_set (l : List Nat) (i n : Nat) : (zs l).set i (n : Int) = zs (l.set i n) := by simp [zs, List.map_set]
theorem zs_drop (l : List Nat) (i : Nat) : (zs l).drop i = zs (l.drop i) := by simp [zs, List.map_drop]
theorem zs_take (l : List Nat) (i : Nat) : (zs l).take i = zs (l.take i) := by simp [zs, List.map_take]
theorem zs_inj {l m : List Nat} : zs l = zs m ↔ l = m := by
  unfold zs
  refine ⟨fun h => ?_, fun h => by rw [h]⟩
  exact (List.map_inj_right (f := Int.ofNat) (fun a b h => by injection h)).1 h
instance isN_zs (l : List Nat) (i : Nat) : IsN ((zs l).getD i 0) (l.getD i 0) := ⟨zs_getD l i⟩

class AddN (a b : Nat) (c : outParam Nat) : Prop where
  h : a + b = c
instance (priority := 1100) addN_0l (b : Nat) : AddN 0 b b := ⟨Nat.zero_add b⟩
instance (priority := 1050) addN_0r (a : Nat) : AddN a 0 a := ⟨rfl⟩
instance (priority := 100) addN_any (a b : Nat) : AddN a b (a + b) := ⟨rfl⟩
/- sums of small literals are told as literals where they are made -/
class MulN (a b : Nat) (c : outParam Nat) : Prop where
  h : a * b = c
instance (priority := 1100) mulN_1 (a : Nat) : MulN a 1 a := ⟨Nat.mul_one a⟩
instance (priority := 1050) mulN_0 (b : Nat) : MulN 0 b 0 := ⟨Nat.zero_mul b⟩
instance (priority := 100) mulN_any (a b : Nat) : MulN a b (a * b) := ⟨rfl⟩
class SubN (a b : Nat) (c : outParam Nat) : Prop where
  h : a - b = c
instance (priority := 1050) subN_0 (a : Nat) : SubN a 0 a := ⟨rfl⟩
instance (priority := 1040) subN_self (a : Nat) : SubN a a 0 := ⟨Nat.sub_self a⟩
instance (priority := 1030) subN_addl (a b : Nat) : SubN (a + b) a b := ⟨Nat.add_sub_cancel_left ..⟩
instance (priority := 1020) subN_addr (a b : Nat) : SubN (a + b) b a := ⟨Nat.add_sub_cancel ..⟩
instance (priority := 100) subN_any (a b : Nat) : SubN a b (a - b) := ⟨rfl⟩

def top : IntKind → Nat
  | .i8 => 128 | .i16 => 32768 | .i32 => 2147483648 | .i64 => 9223372036854775808
  | .u8 => 256 | .u16 => 65536 | .u32 => 4294967296 | .u64 => 18446744073709551616
theorem wrap_n (k : IntKind) {c : Nat} (h : c < top k) : k.wrap (c : Int) = (c : Int) := by
  cases k <;> simp only [top] at h <;> (unfold IntKind.wrap; simp [IntKind.bits, IntKind.signed]; omega)
theorem n_add {k : IntKind} {m n : Int} {a b c : Nat} (hm : IsN m a) (hn : IsN n b) (hc : AddN a b c) (h : c < top k) : k.wrap (m + n) = ((c : Nat) : Int) := by
  rw [hm.h, hn.h, ← hc.h, ← Int.natCast_add]; exact wrap_n k (by rw [hc.h]; exact h)
theorem n_sub {k : IntKind} {m n : Int} {a b c : Nat} (hm : IsN m a) (hn : IsN n b) (hc : SubN a b c) (hle : b ≤ a) (h : a < top k) : k.wrap (m - n) = ((c : Nat) : Int) := by
  rw [hm.h, hn.h, ← hc.h, ← Int.ofNat_sub hle]; exact wrap_n k (by omega)
theorem n_mul {k : IntKind} {m n : Int} {a b c : Nat} (hm : IsN m a) (hn : IsN n b) (hc : MulN a b c) (h : c < top k) : k.wrap (m * n) = ((c : Nat) : Int) := by
  rw [hm.h, hn.h, ← hc.h, ← Int.natCast_mul]; exact wrap_n k (by rw [hc.h]; exact h)
theorem n_quo {k : IntKind} {m n : Int} {a b : Nat} (hm : IsN m a) (hn : IsN n b) (h : a < top k) : k.wrap (m.tdiv n) = ((a / b : Nat) : Int) := by
  rw [hm.h, hn.h]
  have : ((a : Int).tdiv (b : Int)) = ((a / b : Nat) : Int) := rfl
  rw [this]; exact wrap_n k (Nat.lt_of_le_of_lt (Nat.div_le_self a b) h)
theorem n_rem {m n : Int} {a b : Nat} (hm : IsN m a) (hn : IsN n b) : m.tmod n = ((a % b : Nat) : Int) := by
  rw [hm.h, hn.h]; rfl
theorem n_ne0 {n : Int} {b : Nat} (hn : IsN n b) (h : 0 < b) : n ≠ 0 := by rw [hn.h]; omega
theorem n_conv {k : IntKind} {m : Int} {a : Nat} (hm : IsN m a) (h : a < top k) : k.wrap m = ((a : Nat) : Int) := by
  rw [hm.h]; exact wrap_n k h
theorem n_lss {m n : Int} {a b : Nat} (hm : IsN m a) (hn : IsN n b) : decide (m < n) = decide (a < b) := by rw [hm.h, hn.h]; simp
theorem n_leq {m n : Int} {a b : Nat} (hm : IsN m a) (hn : IsN n b) : decide (m ≤ n) = decide (a ≤ b) := by rw [hm.h, hn.h]; simp
theorem n_gtr {m n : Int} {a b : Nat} (hm : IsN m a) (hn : IsN n b) : decide (n < m) = decide (b < a) := by rw [hm.h, hn.h]; simp
theorem n_geq {m n : Int} {a b : Nat} (hm : IsN m a) (hn : IsN n b) : decide (n ≤ m) = decide (b ≤ a) := by rw [hm.h, hn.h]; simp
theorem n_eql {m n : Int} {a b : Nat} (hm : IsN m a) (hn : IsN n b) : decide (m = n) = decide (a = b) := by
  rw [hm.h, hn.h]; simp only [decide_eq_decide]; omega
theorem n_neq {m n : Int} {a b : Nat} (hm : IsN m a) (hn : IsN n b) : decide (m ≠ n) = !decide (a = b) := by
  rw [hm.h, hn.h]
  by_cases h : a = b
  · simp [h]
  · have : (a : Int) ≠ (b : Int) := by omega
    simp [h, this]
theorem n_shr {k : IntKind} {m n : Int} {a b : Nat} (hm : IsN m a) (hn : IsN n b) (h : b ≤ k.bits) : shrK k m n = ((a / 2 ^ b : Nat) : Int) := by
  rw [hm.h, hn.h]
  unfold shrK
  rw [Int.toNat_natCast, Nat.min_eq_left h]
  have : ((2 : Int) ^ b) = ((2 ^ b : Nat) : Int) := by simp
  rw [this, Int.fdiv_eq_ediv_of_nonneg _ (Int.natCast_nonneg _)]
  rfl
theorem top_le (k : IntKind) : top k ≤ 2 ^ k.bits := by cases k <;> decide
theorem ofInt_nat (w a : Nat) : BitVec.ofInt w (a : Int) = BitVec.ofNat w a := by
  apply BitVec.eq_of_toInt_eq
  simp [BitVec.toInt_ofNat]
theorem n_and {k : IntKind} {m n : Int} {a b : Nat} (hm : IsN m a) (hn : IsN n b) (ha : a < top k) (hb : b < top k) : andK k m n = ((a &&& b : Nat) : Int) := by
  rw [hm.h, hn.h]
  unfold andK
  have h := top_le k
  rw [ofInt_nat, ofInt_nat, BitVec.toNat_and, BitVec.toNat_ofNat, BitVec.toNat_ofNat, Nat.mod_eq_of_lt (by omega), Nat.mod_eq_of_lt (by omega)]
  exact wrap_n k (Nat.lt_of_le_of_lt Nat.and_le_left ha)
theorem top_pow' (k : IntKind) : top k = 2 ^ (match k with | .i8 => 7 | .i16 => 15 | .i32 => 31 | .i64 => 63 | .u8 => 8 | .u16 => 16 | .u32 => 32 | .u64 => 64) := by cases k <;> rfl
theorem n_or {k : IntKind} {m n : Int} {a b : Nat} (hm : IsN m a) (hn : IsN n b) (ha : a < top k) (hb : b < top k) : orK k m n = ((a ||| b : Nat) : Int) := by
  rw [hm.h, hn.h]
  unfold orK
  have h := top_le k
  rw [ofInt_nat, ofInt_nat, BitVec.toNat_or, BitVec.toNat_ofNat, BitVec.toNat_ofNat, Nat.mod_eq_of_lt (by omega), Nat.mod_eq_of_lt (by omega)]
  refine wrap_n k ?_
  rw [top_pow'] at *
  exact Nat.or_lt_two_pow ha hb
theorem n_xor {k : IntKind} {m n : Int} {a b : Nat} (hm : IsN m a) (hn : IsN n b) (ha : a < top k) (hb : b < top k) : xorK k m n = ((a ^^^ b : Nat) : Int) := by
  rw [hm.h, hn.h]
  unfold xorK
  have h := top_le k
  rw [ofInt_nat, ofInt_nat, BitVec.toNat_xor, BitVec.toNat_ofNat, BitVec.toNat_ofNat, Nat.mod_eq_of_lt (by omega), Nat.mod_eq_of_lt (by omega)]
  refine wrap_n k ?_
  rw [top_pow'] at *
  exact Nat.xor_lt_two_pow ha hb

section rules
variable {P : Program} {T : Tm} {H : Heap} {d : Option Tmp} {ty : TypeId} {pos : String} {af : Array Edge} {g : Option (Nat × Bool)}
theorem a_conv {src dst : TypeId} {x : Operand} {k k' : IntKind} {m r : Int} {ds : TypeDesc} (hx : ev T x = .s (.int k m)) [hs : Und P src ds] [hd : Und P dst (.int k')] (hr : k'.wrap m = r) :
    LOk P ⟨d, .convert src dst x, ty, pos, af, g⟩ T H H (.s (.int k' r)) [] [] := l_conv hx hs.h hd.h hr
theorem a_len {x : Operand} {u : SV} {n : Nat} {t e rt : TypeId} (hx : ev T x = .s u) (hn : u.len = some n) [hu : Und P t (.slice e)] : LOk P ⟨d, .call ⟨.builtin .len, #[x], #[t]⟩, rt, pos, af, g⟩ T H H (.s (.int .i64 (n : Int))) [] [] := l_len hx hn hu.h
theorem a_cap {x : Operand} {id base idx len cap : Nat} {t e rt : TypeId} (hx : ev T x = .s (.slice id base idx len cap)) [hu : Und P t (.slice e)] : LOk P ⟨d, .call ⟨.builtin .cap, #[x], #[t]⟩, rt, pos, af, g⟩ T H H (.s (.int .i64 (cap : Int))) [] [] := l_cap hx hu.h
theorem a_ixp {t e : TypeId} {x i : Operand} {id base idx n sz r j' q : Nat} {k : IntKind} {j : Int} (hx : ev T x = .s (.ptr id base idx)) (hi : ev T i = .s (.int k j)) [hu : Und P t (.array n e)] [hs : Sz P e sz] [hj : IsN j j'] [hq : MulN j' sz q] [hr : AddN idx q r] (h1 : j' < n) :
    LOk P ⟨d, .indexAddr t x i, ty, pos, af, g⟩ T H H (.s (.ptr id base r)) [] [] :=
  l_ixp hx hi hu.h hs.h (by rw [hj.h]; omega) (by rw [hj.h]; omega) (by rw [hj.h, Int.toNat_natCast, hq.h, hr.h])
theorem a_ixf {t e : TypeId} {x i : Operand} {m base idx n sz r j' q : Nat} {f : Nat → SV} {k : IntKind} {j : Int} (hx : ev T x = .s (.fptr m f base idx)) (hi : ev T i = .s (.int k j)) [hu : Und P t (.array n e)] [hs : Sz P e sz] [hj : IsN j j'] [hq : MulN j' sz q] [hr : AddN idx q r] (h1 : j' < n) :
    LOk P ⟨d, .indexAddr t x i, ty, pos, af, g⟩ T H H (.s (.fptr m f base r)) [] [] :=
  l_ixf hx hi hu.h hs.h (by rw [hj.h]; omega) (by rw [hj.h]; omega) (by rw [hj.h, Int.toNat_natCast, hq.h, hr.h])
theorem a_ixs {t e : TypeId} {x i : Operand} {id base idx len cap sz r j' q : Nat} {k : IntKind} {j : Int} (hx : ev T x = .s (.slice id base idx len cap)) (hi : ev T i = .s (.int k j)) [hu : Und P t (.slice e)] [hs : Sz P e sz] [hj : IsN j j'] [hq : MulN j' sz q] [hr : AddN idx q r] (h1 : j' < len) :
    LOk P ⟨d, .indexAddr t x i, ty, pos, af, g⟩ T H H (.s (.ptr id base r)) [] [] :=
  l_ixs hx hi hu.h hs.h (by rw [hj.h]; omega) (by rw [hj.h]; omega) (by rw [hj.h, Int.toNat_natCast, hq.h, hr.h])
theorem a_ixx {t e : TypeId} {x i : Operand} {id base idx len cap sz r j' q : Nat} {k : IntKind} {j : Int} (hx : ev T x = .s (.slx id base idx len cap)) (hi : ev T i = .s (.int k j)) [hu : Und P t (.slice e)] [hs : Sz P e sz] [hj : IsN j j'] [hq : MulN j' sz q] [hr : AddN idx q r] (h1 : j' < len) :
    LOk P ⟨d, .indexAddr t x i, ty, pos, af, g⟩ T H H (.s (.ptr id base r)) [] [] :=
  l_ixx hx hi hu.h hs.h (by rw [hj.h]; omega) (by rw [hj.h]; omega) (by rw [hj.h, Int.toNat_natCast, hq.h, hr.h])
theorem l_ixg {t e : TypeId} {x i : Operand} {id wd len sz r : Nat} {k : IntKind} {j : Int} (hx : ev T x = .s (.gro id wd len)) (hi : ev T i = .s (.int k j))
    (hu : P.underlying t = some (.slice e)) (hs : ∀ w, (sizeOf e).run P w = .ok sz w) (h0 : 0 ≤ j) (h1 : j < len) (hr : j.toNat * sz = r) :
    LOk P ⟨d, .indexAddr t x i, ty, pos, af, g⟩ T H H (.s (.ptr id 0 r)) [] [] :=
  lok_pure fun ρ a w ho => by
    obtain ⟨ha, hb⟩ := two (op := .indexAddr t x i) rfl ho hx hi
    have hb : a.eval i = .int k j := hb
    rcases ha with ⟨e, _⟩ | ⟨b, o, c, q, hρ, ha, _⟩
    · omega
    refine ⟨.pointer (some ⟨b, o + 0 + r, none⟩), ?_, b, o, hρ, rfl⟩
    simp [execOp, ha, hb, Instr.indexAt, asIntOf, Sem.run_bind, run_underlying hu, h0, h1, hs, addr_add, ← hr]
theorem a_ixg {t e : TypeId} {x i : Operand} {id wd len sz r j' : Nat} {k : IntKind} {j : Int} (hx : ev T x = .s (.gro id wd len)) (hi : ev T i = .s (.int k j)) [hu : Und P t (.slice e)] [hs : Sz P e sz] [hj : IsN j j'] [hq : MulN j' sz r] (h1 : j' < len) :
    LOk P ⟨d, .indexAddr t x i, ty, pos, af, g⟩ T H H (.s (.ptr id 0 r)) [] [] :=
  l_ixg hx hi hu.h hs.h (by rw [hj.h]; omega) (by rw [hj.h]; omega) (by rw [hj.h, Int.toNat_natCast, hq.h])
theorem a_ixi {t e : TypeId} {x i : Operand} {l : List Int} {k k' : IntKind} {j : Int} {j' : Nat} (hx : ev T x = .s (.fzi k l)) (hi : ev T i = .s (.int k' j)) [hu : Und P t (.slice e)] [hs : Sz P e 1] [hj : IsN j j'] (h1 : j' < l.length) :
    LOk P ⟨d, .indexAddr t x i, ty, pos, af, g⟩ T H H (.s (.fptr 1 (fun _ => .int k (l.getD j' 0)) 0 0)) [] [] := by
  have := l_ixi (d := d) (ty := ty) (pos := pos) (af := af) (g := g) (H := H) hx hi hu.h hs.h (by rw [hj.h]; omega) (by rw [hj.h]; omega)
  rwa [hj.h, Int.toNat_natCast] at this
theorem a_ixz {t e : TypeId} {x i : Operand} {n wd : Nat} {f : Nat → Nat → SV} {k : IntKind} {j : Int} {j' : Nat} (hx : ev T x = .s (.fz n wd f)) (hi : ev T i = .s (.int k j)) [hu : Und P t (.slice e)] [hs : Sz P e wd] [hj : IsN j j'] (h1 : j' < n) :
    LOk P ⟨d, .indexAddr t x i, ty, pos, af, g⟩ T H H (.s (.fptr wd (f j') 0 0)) [] [] := by
  have := l_ixz (d := d) (ty := ty) (pos := pos) (af := af) (g := g) (H := H) hx hi hu.h hs.h (by rw [hj.h]; omega) (by rw [hj.h]; omega)
  rwa [hj.h, Int.toNat_natCast] at this
theorem a_alloc {t : TypeId} {Z : List Seg} {n : Nat} {H' : Heap} [hz : Zv P t Z] (hn : H.length = n) (hH : H ++ [some (Blk.mk true Z)] = H') : LOk P ⟨d, .alloc t, ty, pos, af, g⟩ T H H' (.s (.ptr n 0 0)) [] [] := let ⟨_, h1, h2⟩ := hz.h; hH ▸ l_alloc h1 h2 hn
theorem a_box {t : TypeId} {x : Operand} {v : SV} {n : Nat} {H' : Heap} (hx : ev T x = .s v) (hj : v ≠ .junk) (hn : H.length = n) (hH : H ++ [some (Blk.mk true [.one v])] = H') : LOk P ⟨d, .box t x, ty, pos, af, g⟩ T H H' (.s (.ptr n 0 0)) [] [] := hH ▸ l_box hx hj hn
theorem a_boxa {t : TypeId} {x : Operand} {l : List Seg} {n : Nat} {H' : Heap} (hx : ev T x = .agg l) (hn : H.length = n) (hH : H ++ [some (Blk.mk true l)] = H') : LOk P ⟨d, .box t x, ty, pos, af, g⟩ T H H' (.s (.ptr n 0 0)) [] [] := hH ▸ l_box_agg hx hn
theorem a_load_ints {t : TypeId} {x : Operand} {id base idx n : Nat} {kk : IntKind} {l : List Int} {k : Blk} (hx : ev T x = .s (.ptr id base idx)) (hb : hget H id = some k) (hs : segAt k.segs base = some (.ints kk n l)) (hi : idx < n) [ha : Ag P t false] :
    LOk P ⟨d, .load t x, ty, pos, af, g⟩ T H H (.s (.int kk (l.getD idx 0))) [id] [] := l_load_ints hx hb hs hi ha.h
theorem a_load_one {t : TypeId} {x : Operand} {id base : Nat} {v : SV} {k : Blk} (hx : ev T x = .s (.ptr id base 0)) (hb : hget H id = some k) (hs : segAt k.segs base = some (.one v)) [ha : Ag P t false] : LOk P ⟨d, .load t x, ty, pos, af, g⟩ T H H (.s v) [id] [] := l_load_one hx hb hs ha.h
theorem a_load_row {t : TypeId} {x : Operand} {id base i j n wd : Nat} {f : Nat → Nat → SV} {k : Blk} (hx : ev T x = .s (.ptr id base (i * wd + j))) (hb : hget H id = some k) (hs : segAt k.segs base = some (.rows n wd f)) (hi : i < n) (hj : j < wd) [ha : Ag P t false] : LOk P ⟨d, .load t x, ty, pos, af, g⟩ T H H (.s (f i j)) [id] [] := l_load_row hx rfl hb hs hi hj ha.h
theorem a_load_row0 {t : TypeId} {x : Operand} {id base i n wd : Nat} {f : Nat → Nat → SV} {k : Blk} (hx : ev T x = .s (.ptr id base (i * wd))) (hb : hget H id = some k) (hs : segAt k.segs base = some (.rows n wd f)) (hi : i < n) (hj : 0 < wd) [ha : Ag P t false] : LOk P ⟨d, .load t x, ty, pos, af, g⟩ T H H (.s (f i 0)) [id] [] := l_load_row hx rfl hb hs hi hj ha.h
theorem a_load_rowA {t : TypeId} {x : Operand} {id base i n wd : Nat} {rows : Nat → List Seg} {k : Blk} (hx : ev T x = .s (.ptr id base (i * wd))) (hb : hget H id = some k) (hs : segAt k.segs base = some (.rows n wd (rowsF rows))) (hi : i < n) (hw : sizeS (rows i) = wd) [ha : Ag P t true] [hz : Sz P t wd] : LOk P ⟨d, .load t x, ty, pos, af, g⟩ T H H (.agg (rows i)) [id] [] := l_load_agg hx hb (SubS.row hs hi hw) ha.h hz.h
theorem a_load_agg {t : TypeId} {x : Operand} {id base n : Nat} {r sub : List Seg} {k : Blk} (hx : ev T x = .s (.ptr id base 0)) (hb : hget H id = some k) [ha : Ag P t true] [hz : Sz P t n] (hd : dropS k.segs base = some r) (ht : takeS r n = some sub) : LOk P ⟨d, .load t x, ty, pos, af, g⟩ T H H (.agg sub) [id] [] := l_load_agg hx hb (SubS.part hd ht) ha.h hz.h
theorem a_load_aggI {t : TypeId} {x : Operand} {id base i n m : Nat} {kk : IntKind} {l : List Int} {k : Blk} (hx : ev T x = .s (.ptr id base i)) (hb : hget H id = some k) [ha : Ag P t true] [hz : Sz P t n] (hs : segAt k.segs base = some (.ints kk m l)) (hn : i + n ≤ m) : LOk P ⟨d, .load t x, ty, pos, af, g⟩ T H H (.agg [.ints kk n ((l.drop i).take n)]) [id] [] := l_load_agg hx hb (SubS.ints hs hn) ha.h hz.h
theorem a_loadf {t : TypeId} {x : Operand} {m base idx : Nat} {f : Nat → SV} {v : SV} (hx : ev T x = .s (.fptr m f base idx)) [ha : Ag P t false] (hi : base + idx < m) (hv : f (base + idx) = v) : LOk P ⟨d, .load t x, ty, pos, af, g⟩ T H H (.s v) [] [] := l_loadf hx hi hv ha.h
theorem a_loadf_ints {t : TypeId} {x : Operand} {m base idx n : Nat} {segs : List Seg} {k : IntKind} {l : List Int} (hx : ev T x = .s (.fptr m (cellsF segs) base idx)) [ha : Ag P t false] (hs : segAt segs base = some (.ints k n l)) (hi : idx < n) (hm : base + n ≤ m) : LOk P ⟨d, .load t x, ty, pos, af, g⟩ T H H (.s (.int k (l.getD idx 0))) [] [] :=
  l_loadf hx (by omega) (by unfold cellsF; rw [segAt_at hs idx hi]; rfl) ha.h
theorem a_loadf_agg {t : TypeId} {x : Operand} {m base n : Nat} {segs r sub : List Seg} (hx : ev T x = .s (.fptr m (cellsF segs) base 0)) [ha : Ag P t true] [hz : Sz P t n] (hm : base + n ≤ m) (hd : dropS segs base = some r) (ht : takeS r n = some sub) : LOk P ⟨d, .load t x, ty, pos, af, g⟩ T H H (.agg sub) [] [] := l_loadf_agg hx hm (SubS.part hd ht) ha.h hz.h
theorem a_store_int {t : TypeId} {x y : Operand} {id base idx m : Nat} {segs : List Seg} {k : IntKind} {n : Int} {xs : List Int} {r : Heap} (hx : ev T x = .s (.ptr id base idx)) (hy : ev T y = .s (.int k n)) (hb : hget H id = some ⟨true, segs⟩) (hs : segAt segs base = some (.ints k m xs)) [hz : Sz P t 1] (hi : idx < m) (hl : xs.length = m) (hr : H.set id (some ⟨true, segSet segs base (.ints k m (xs.set idx n))⟩) = r) :
    LOk P ⟨d, .store t x y, ty, pos, af, g⟩ T H r (.s .junk) [id] [id] := l_store_int hx hy hb hs hi hl hz.h hr
theorem a_store_nat {t : TypeId} {x y : Operand} {id base idx m n' : Nat} {segs : List Seg} {k : IntKind} {n : Int} {xs : List Nat} {r : Heap} (hx : ev T x = .s (.ptr id base idx)) (hy : ev T y = .s (.int k n)) (hb : hget H id = some ⟨true, segs⟩) (hs : segAt segs base = some (.ints k m (zs xs))) [hz : Sz P t 1] [hn : IsN n n'] (hi : idx < m) (hl : xs.length = m) (hr : H.set id (some ⟨true, segSet segs base (.ints k m (zs (xs.set idx n')))⟩) = r) :
    LOk P ⟨d, .store t x y, ty, pos, af, g⟩ T H r (.s .junk) [id] [id] := l_store_int hx hy hb hs hi (by rw [zs_len, hl]) hz.h (by rw [hn.h, zs_set]; exact hr)
theorem a_store_one {t : TypeId} {x y : Operand} {id base : Nat} {segs : List Seg} {v u : SV} {r : Heap} (hx : ev T x = .s (.ptr id base 0)) (hy : ev T y = .s v) (hj : v ≠ .junk) (hb : hget H id = some ⟨true, segs⟩) (hs : segAt segs base = some (.one u)) [hz : Sz P t 1] (hr : H.set id (some ⟨true, segSet segs base (.one v)⟩) = r) :
    LOk P ⟨d, .store t x y, ty, pos, af, g⟩ T H r (.s .junk) [id] [id] := l_store_one hx hy hj hb hs hz.h hr
theorem a_store_agg {t : TypeId} {x y : Operand} {id base n : Nat} {segs sub segs' : List Seg} {r : Heap} (hx : ev T x = .s (.ptr id base 0)) (hy : ev T y = .agg sub) (hb : hget H id = some ⟨true, segs⟩) [hz : Sz P t n] (hp : putSegs segs base n sub = some segs') (h0 : 0 < n) (hn : sizeS sub = n) (hr : H.set id (some ⟨true, segs'⟩) = r) :
    LOk P ⟨d, .store t x y, ty, pos, af, g⟩ T H r (.s .junk) [id] [id] := l_store_agg hx hy hb (PutS.segs (o := base + 0) h0 hp hn) hz.h hn hr
theorem a_eqn {t e tyy : TypeId} {x y : Operand} {u : SV} {b : Bool} (hx : ev T x = .s u) (hy : ev T y = .s .nilp) (hu1 : u.isPtr = some b) [hu : Und P t (.pointer e)] : LOk P ⟨d, .binOp .eql t x y tyy, ty, pos, af, g⟩ T H H (.s (.bool (!b))) [] [] := l_eqn hx hu1 hy hu.h
theorem a_nen {t e tyy : TypeId} {x y : Operand} {u : SV} {b : Bool} (hx : ev T x = .s u) (hy : ev T y = .s .nilp) (hu1 : u.isPtr = some b) [hu : Und P t (.pointer e)] : LOk P ⟨d, .binOp .neq t x y tyy, ty, pos, af, g⟩ T H H (.s (.bool b)) [] [] := l_nen hx hu1 hy hu.h
theorem a_eqlb {t tyy : TypeId} {x y : Operand} {p q : Bool} (hx : ev T x = .s (.bool p)) (hy : ev T y = .s (.bool q)) [hu : Und P t .bool] : LOk P ⟨d, .binOp .eql t x y tyy, ty, pos, af, g⟩ T H H (.s (.bool (p == q))) [] [] := l_eqlb hx hy hu.h
theorem a_neqb {t tyy : TypeId} {x y : Operand} {p q : Bool} (hx : ev T x = .s (.bool p)) (hy : ev T y = .s (.bool q)) [hu : Und P t .bool] : LOk P ⟨d, .binOp .neq t x y tyy, ty, pos, af, g⟩ T H H (.s (.bool (p != q))) [] [] := l_neqb hx hy hu.h
class NoEq (P : Program) (t : TypeId) : Prop where
  h : P.eqGuardType P.depth t = false
theorem a_eqA {t e : TypeId} {x y : Operand} {tyy : TypeId} {n : Nat} {k : IntKind} {l m : List Int} (hx : ev T x = .agg [.ints k n l]) (hy : ev T y = .agg [.ints k n m]) [hu : Und P t (.array n e)] [he : Und P e (.int k)] [hs : Sz P e 1] [ha : Ag P e false] [hg : NoEq P t] (hl : l.length = n) (hm : m.length = n) : LOk P ⟨d, .binOp .eql t x y tyy, ty, pos, af, g⟩ T H H (.s (.bool (decide (l = m)))) [] [] := l_eqA hx hy hu.h he.h hs.h ha.h hg.h hl hm
theorem a_neA {t e : TypeId} {x y : Operand} {tyy : TypeId} {n : Nat} {k : IntKind} {l m : List Int} (hx : ev T x = .agg [.ints k n l]) (hy : ev T y = .agg [.ints k n m]) [hu : Und P t (.array n e)] [he : Und P e (.int k)] [hs : Sz P e 1] [ha : Ag P e false] [hg : NoEq P t] (hl : l.length = n) (hm : m.length = n) : LOk P ⟨d, .binOp .neq t x y tyy, ty, pos, af, g⟩ T H H (.s (.bool (!decide (l = m)))) [] [] := l_neA hx hy hu.h he.h hs.h ha.h hg.h hl hm
theorem bnd_some {x : Operand} {dd n : Nat} {k : IntKind} {m : Int} (hx : ev T x = .s (.int k m)) [hm : IsN m n] : Bnd T (some x) dd n := ⟨k, m, hx, hm.h⟩
theorem bnd_none {dd : Nat} : Bnd T none dd dd := rfl
theorem a_sl {t e : TypeId} {x : Operand} {lo hi mx : Option Operand} {id base idx len cap l h m sz q r n c : Nat} (hx : ev T x = .s (.slice id base idx len cap)) (hlo : Bnd T lo 0 l) (hhi : Bnd T hi len h) (hmx : Bnd T mx cap m) (hho : (mx.isSome && hi.isNone) = false) [hu : Und P t (.slice e)] [hs : Sz P e sz] [hq : MulN l sz q] [hr : AddN idx q r] [hn : SubN h l n] [hc : SubN m l c] (h1 : l ≤ h) (h2 : h ≤ m) (h3 : m ≤ cap) (hlm : l < m ∨ l = 0) :
    LOk P ⟨d, .slice t x lo hi mx, ty, pos, af, g⟩ T H H (.s (.slice id base r n c)) [] [] := l_sl hx hlo hhi hmx hho hu.h hs.h h1 h2 h3 hlm (by rw [hq.h, hr.h]) hn.h hc.h
theorem a_sla {t e : TypeId} {x : Operand} {lo hi mx : Option Operand} {id base idx len l h m sz q r n c : Nat} (hx : ev T x = .s (.ptr id base idx)) [hu : Und P t (.array len e)] [hs : Sz P e sz] (hlo : Bnd T lo 0 l) (hhi : Bnd T hi len h) (hmx : Bnd T mx len m) (hho : (mx.isSome && hi.isNone) = false) [hq : MulN l sz q] [hr : AddN idx q r] [hn : SubN h l n] [hc : SubN m l c] (h1 : l ≤ h) (h2 : h ≤ m) (h3 : m ≤ len) (hlm : l < m ∨ l = 0) :
    LOk P ⟨d, .slice t x lo hi mx, ty, pos, af, g⟩ T H H (.s (.slice id base r n c)) [] [] := l_sla hx hlo hhi hmx hho hu.h hs.h h1 h2 h3 hlm (by rw [hq.h, hr.h]) hn.h hc.h
theorem a_sli {t e : TypeId} {x : Operand} {lo hi : Option Operand} {k : IntKind} {xs : List Int} {l h n : Nat} (hx : ev T x = .s (.fzi k xs)) (hlo : Bnd T lo 0 l) (hhi : Bnd T hi xs.length h) [hu : Und P t (.slice e)] [hs : Sz P e 1] [hn : SubN h l n] (h1 : l ≤ h) (h2 : h ≤ xs.length) :
    LOk P ⟨d, .slice t x lo hi none, ty, pos, af, g⟩ T H H (.s (.fzi k ((xs.drop l).take n))) [] [] := l_sli hx hlo hhi (.inl rfl) rfl hu.h hs.h h1 h2 (by rw [hn.h])
theorem a_slim {t e : TypeId} {x y : Operand} {lo hi : Option Operand} {k k' : IntKind} {xs : List Int} {l h m n : Nat} {q : Int} (hx : ev T x = .s (.fzi k xs)) (hlo : Bnd T lo 0 l) (hhi : Bnd T hi xs.length h) (hho : hi.isNone = false) (hy : ev T y = .s (.int k' q)) [hm : IsN q m] [hu : Und P t (.slice e)] [hs : Sz P e 1] [hn : SubN h l n] (h1 : l ≤ h) (h2 : h ≤ m) (h3 : m ≤ xs.length) :
    LOk P ⟨d, .slice t x lo hi (some y), ty, pos, af, g⟩ T H H (.s (.fzi k ((xs.drop l).take n))) [] [] := l_sli hx hlo hhi (.inr ⟨m, ⟨y, rfl, k', q, hy, hm.h⟩, h2, h3⟩) (by simp [hho]) hu.h hs.h h1 (by omega) (by rw [hn.h])
theorem a_make {t e : TypeId} {x y : Operand} {l c n : Nat} {k k1 k2 : IntKind} {m1 m2 : Int} {inf : TypeInfo} {H' : Heap} (hx : ev T x = .s (.int k1 m1)) (hy : ev T y = .s (.int k2 m2)) [hm1 : IsN m1 l] [hm2 : IsN m2 c] [hu : Und P t (.slice e)] [hi : Inf P e inf] (hs : inf.size = 1) (hz : inf.zero = some (.int k 0)) (hlc : l ≤ c) (hc : inf.bytes * c ≤ 281474976710656) (hc2 : c ≤ 281474976710656) (hn : H.length = n) (hH : H ++ [some (Blk.mk true [.ints k c (List.replicate c 0)])] = H') :
    LOk P ⟨d, .makeSlice t x y, ty, pos, af, g⟩ T H H' (.s (.slice n 0 0 l c)) [] [] := hH ▸ l_make hx hy hm1.h hm2.h hlc hc hc2 hu.h hi.h hs hz hn
end rules
end Go.Bx
end

section
/- One name for each kind of operation: how it goes is found. No program. -/
namespace Go.Bx

def SV.plain0 : SV → Bool
  | .ptr .. => false | .slice .. => false | .slx .. => false | .gro .. => false | .clo .. => false | .ifc .. => false
  | _ => true
def Seg.plain0 : Seg → Bool
  | .one v => v.plain0
  | _ => true
def AV.plain0 : AV → Bool
  | .s v => v.plain0
  | .agg l => l.all Seg.plain0
  | .tup l => l.all fun | .s v => v.plain0 | .agg l => l.all Seg.plain0 | .tup _ => true

class TopN (k : IntKind) (n : outParam Nat) : Prop where
  h : top k = n
instance : TopN .i8 128 := ⟨rfl⟩
instance : TopN .i16 32768 := ⟨rfl⟩
instance : TopN .i32 2147483648 := ⟨rfl⟩
instance : TopN .i64 9223372036854775808 := ⟨rfl⟩
instance : TopN .u8 256 := ⟨rfl⟩
instance : TopN .u16 65536 := ⟨rfl⟩
instance : TopN .u32 4294967296 := ⟨rfl⟩
instance : TopN .u64 18446744073709551616 := ⟨rfl⟩
class Uns (k : IntKind) (n : outParam Nat) : Prop where
  h : ∀ m : Int, k.wrap m = m % (n : Int)
  p : 0 < n
instance : Uns .u8 256 := ⟨fun _ => rfl, by decide⟩
instance : Uns .u16 65536 := ⟨fun _ => rfl, by decide⟩
instance : Uns .u32 4294967296 := ⟨fun _ => rfl, by decide⟩
instance : Uns .u64 18446744073709551616 := ⟨fun _ => rfl, by decide⟩
class BitsN (k : IntKind) (n : outParam Nat) : Prop where
  h : k.bits = n
instance : BitsN .i8 8 := ⟨rfl⟩
instance : BitsN .i16 16 := ⟨rfl⟩
instance : BitsN .i32 32 := ⟨rfl⟩
instance : BitsN .i64 64 := ⟨rfl⟩
instance : BitsN .u8 8 := ⟨rfl⟩
instance : BitsN .u16 16 := ⟨rfl⟩
instance : BitsN .u32 32 := ⟨rfl⟩
instance : BitsN .u64 64 := ⟨rfl⟩
section nums
variable {k : IntKind} {m n : Int} {a b c t : Nat}
theorem m_add [hm : IsN m a] [hn : IsN n b] [hc : AddN a b c] [ht : TopN k t] (h : c < t) : k.wrap (m + n) = ((c : Nat) : Int) := n_add hm hn hc (by rw [ht.h]; exact h)
theorem m_addm [hm : IsN m a] [hn : IsN n b] [ht : Uns k t] : k.wrap (m + n) = (((a + b) % t : Nat) : Int) := by rw [hm.h, hn.h, ht.h]; simp
theorem m_sub [hm : IsN m a] [hn : IsN n b] [hc : SubN a b c] [ht : TopN k t] (h : b ≤ a ∧ a < t) : k.wrap (m - n) = ((c : Nat) : Int) := n_sub hm hn hc h.1 (by rw [ht.h]; exact h.2)
theorem m_subm [hm : IsN m a] [hn : IsN n b] [ht : Uns k t] (h : b ≤ t) : k.wrap (m - n) = (((a + (t - b)) % t : Nat) : Int) := by
  rw [hm.h, hn.h, ht.h, Int.natCast_emod, Int.natCast_add, Int.ofNat_sub h]
  have : (a : Int) + ((t : Int) - (b : Int)) = ((a : Int) - (b : Int)) + (t : Int) := by omega
  rw [this, Int.add_emod_right]
theorem m_mul [hm : IsN m a] [hn : IsN n b] [hc : MulN a b c] [ht : TopN k t] (h : c < t) : k.wrap (m * n) = ((c : Nat) : Int) := n_mul hm hn hc (by rw [ht.h]; exact h)
theorem m_mulm [hm : IsN m a] [hn : IsN n b] [ht : Uns k t] : k.wrap (m * n) = (((a * b) % t : Nat) : Int) := by rw [hm.h, hn.h, ht.h]; simp
theorem m_quo [hm : IsN m a] [hn : IsN n b] [ht : TopN k t] (h : a < t) : k.wrap (m.tdiv n) = ((a / b : Nat) : Int) := n_quo hm hn (by rw [ht.h]; exact h)
theorem m_rem [hm : IsN m a] [hn : IsN n b] : m.tmod n = ((a % b : Nat) : Int) := n_rem hm hn
theorem m_ne0 [hn : IsN n b] (h : 0 < b) : n ≠ 0 := n_ne0 hn h
theorem m_conv [hm : IsN m a] [ht : TopN k t] (h : a < t) : k.wrap m = ((a : Nat) : Int) := n_conv hm (by rw [ht.h]; exact h)
theorem m_convm [hm : IsN m a] [ht : Uns k t] : k.wrap m = ((a % t : Nat) : Int) := by rw [hm.h, ht.h]; simp
theorem m_lss [hm : IsN m a] [hn : IsN n b] : decide (m < n) = decide (a < b) := n_lss hm hn
theorem m_leq [hm : IsN m a] [hn : IsN n b] : decide (m ≤ n) = decide (a ≤ b) := n_leq hm hn
theorem m_gtr [hm : IsN m a] [hn : IsN n b] : decide (n < m) = decide (b < a) := n_gtr hm hn
theorem m_geq [hm : IsN m a] [hn : IsN n b] : decide (n ≤ m) = decide (b ≤ a) := n_geq hm hn
theorem m_eql [hm : IsN m a] [hn : IsN n b] : decide (m = n) = decide (a = b) := n_eql hm hn
theorem m_neq [hm : IsN m a] [hn : IsN n b] : decide (m ≠ n) = !decide (a = b) := n_neq hm hn
theorem m_shr [hm : IsN m a] [hn : IsN n b] [hb : BitsN k t] (h : b ≤ t) : shrK k m n = ((a / 2 ^ b : Nat) : Int) := n_shr hm hn (by rw [hb.h]; exact h)
theorem m_shlm [hm : IsN m a] [hn : IsN n b] [hb : BitsN k c] [ht : Uns k t] (h : b ≤ c) : shlK k m n = (((a * 2 ^ b) % t : Nat) : Int) := by
  rw [hm.h, hn.h]
  unfold shlK
  rw [Int.toNat_natCast, hb.h, Nat.min_eq_left h, ht.h]
  simp
theorem m_and [hm : IsN m a] [hn : IsN n b] [ht : TopN k t] (ha : a < t) (hb : b < t) : andK k m n = ((a &&& b : Nat) : Int) := n_and hm hn (by rw [ht.h]; exact ha) (by rw [ht.h]; exact hb)
theorem m_or [hm : IsN m a] [hn : IsN n b] [ht : TopN k t] (ha : a < t) (hb : b < t) : orK k m n = ((a ||| b : Nat) : Int) := n_or hm hn (by rw [ht.h]; exact ha) (by rw [ht.h]; exact hb)
theorem m_xor [hm : IsN m a] [hn : IsN n b] [ht : TopN k t] (ha : a < t) (hb : b < t) : xorK k m n = ((a ^^^ b : Nat) : Int) := n_xor hm hn (by rw [ht.h]; exact ha) (by rw [ht.h]; exact hb)
theorem m_pos [hn : IsN n b] : 0 ≤ n := by rw [hn.h]; omega
end nums

class FldC (P : Program) (t : TypeId) (f : Nat) (off : outParam Nat) : Prop where
  h : ∃ (fs : Array Field) (fd : Field) (sz : Nat), P.underlying t = some (.struct fs) ∧ fs[f]? = some fd ∧ (∀ w, (sizeOf fd.type).run P w = .ok sz w) ∧ sz ≠ 0 ∧ fd.offset = off
section rules
variable {P : Program} {T : Tm} {H : Heap} {d : Option Tmp} {ty : TypeId} {pos : String} {af : Array Edge} {g : Option (Nat × Bool)}
theorem f_fld0 {t : TypeId} {x : Operand} {id base f off r : Nat} (hx : ev T x = .s (.ptr id base 0)) [hf : FldC P t f off] [hr : AddN base off r] : LOk P ⟨d, .fieldAddr t x f, ty, pos, af, g⟩ T H H (.s (.ptr id r 0)) [] [] := by
  obtain ⟨fs, fd, sz, h1, h2, h3, h4, h5⟩ := hf.h
  exact l_fld hx h1 h2 h3 h4 (.inl ⟨rfl, by rw [h5, hr.h], rfl⟩)
theorem f_fldr {t : TypeId} {x : Operand} {id base idx f off r : Nat} (hx : ev T x = .s (.ptr id base idx)) [hf : FldC P t f off] [hr : AddN idx off r] : LOk P ⟨d, .fieldAddr t x f, ty, pos, af, g⟩ T H H (.s (.ptr id base r)) [] [] := by
  obtain ⟨fs, fd, sz, h1, h2, h3, h4, h5⟩ := hf.h
  exact l_fld hx h1 h2 h3 h4 (.inr ⟨rfl, by rw [h5, hr.h]⟩)
theorem f_fldf {t : TypeId} {x : Operand} {m base f off r : Nat} {q : Nat → SV} (hx : ev T x = .s (.fptr m q base 0)) [hf : FldC P t f off] [hr : AddN base off r] : LOk P ⟨d, .fieldAddr t x f, ty, pos, af, g⟩ T H H (.s (.fptr m q r 0)) [] [] := by
  obtain ⟨fs, fd, sz, h1, h2, h3, h4, h5⟩ := hf.h
  exact l_fldf hx h1 h2 h3 h4 (.inl ⟨rfl, by rw [h5, hr.h], rfl⟩)
end rules

class SuccN (a : Nat) (b : outParam Nat) : Prop where
  h : a + 1 = b
instance : SuccN 0 1 := ⟨rfl⟩
instance : SuccN 1 2 := ⟨rfl⟩
instance : SuccN 2 3 := ⟨rfl⟩
instance : SuccN 3 4 := ⟨rfl⟩
instance : SuccN 4 5 := ⟨rfl⟩
instance : SuccN 5 6 := ⟨rfl⟩
instance : SuccN 6 7 := ⟨rfl⟩
instance : SuccN 7 8 := ⟨rfl⟩
instance : SuccN 8 9 := ⟨rfl⟩
instance : SuccN 9 10 := ⟨rfl⟩
instance : SuccN 10 11 := ⟨rfl⟩
instance : SuccN 11 12 := ⟨rfl⟩
instance : SuccN 12 13 := ⟨rfl⟩
instance : SuccN 13 14 := ⟨rfl⟩
instance : SuccN 14 15 := ⟨rfl⟩
instance : SuccN 15 16 := ⟨rfl⟩
instance : SuccN 16 17 := ⟨rfl⟩
instance : SuccN 17 18 := ⟨rfl⟩
instance : SuccN 18 19 := ⟨rfl⟩
instance : SuccN 19 20 := ⟨rfl⟩
instance : SuccN 20 21 := ⟨rfl⟩
instance : SuccN 21 22 := ⟨rfl⟩
instance : SuccN 22 23 := ⟨rfl⟩
instance : SuccN 23 24 := ⟨rfl⟩
instance : SuccN 24 25 := ⟨rfl⟩
instance : SuccN 25 26 := ⟨rfl⟩
instance : SuccN 26 27 := ⟨rfl⟩
instance : SuccN 27 28 := ⟨rfl⟩
instance : SuccN 28 29 := ⟨rfl⟩
instance : SuccN 29 30 := ⟨rfl⟩
instance : SuccN 30 31 := ⟨rfl⟩
instance : SuccN 31 32 := ⟨rfl⟩
instance : SuccN 32 33 := ⟨rfl⟩
instance : SuccN 33 34 := ⟨rfl⟩
instance : SuccN 34 35 := ⟨rfl⟩
instance : SuccN 35 36 := ⟨rfl⟩
instance : SuccN 36 37 := ⟨rfl⟩
instance : SuccN 37 38 := ⟨rfl⟩
instance : SuccN 38 39 := ⟨rfl⟩
instance : SuccN 39 40 := ⟨rfl⟩
instance : SuccN 40 41 := ⟨rfl⟩
instance : SuccN 41 42 := ⟨rfl⟩
instance : SuccN 42 43 := ⟨rfl⟩
instance : SuccN 43 44 := ⟨rfl⟩
instance : SuccN 44 45 := ⟨rfl⟩
instance : SuccN 45 46 := ⟨rfl⟩
instance : SuccN 46 47 := ⟨rfl⟩
instance : SuccN 47 48 := ⟨rfl⟩
class LenN (H : Heap) (n : outParam Nat) : Prop where
  h : H.length = n
instance : LenN [] 0 := ⟨rfl⟩
instance lenN_s (b : Option Blk) (l : Heap) (m n : Nat) [h : LenN l m] [k : SuccN m n] : LenN (b :: l) n := ⟨by rw [List.length_cons, h.h, k.h]⟩
theorem AV.ren_self {f : Nat → Nat} {x : AV} (h : x.plain0 = true) : x.ren f = x := by
  have hs : ∀ v : SV, v.plain0 = true → v.ren f = v := fun v hv => by cases v <;> first | rfl | (cases hv; done)
  have hg : ∀ l : List Seg, l.all Seg.plain0 = true → l.map (Seg.ren f) = l := fun l hl => by
    induction l with
    | nil => rfl
    | cons a r ih =>
      simp only [List.all_cons, Bool.and_eq_true] at hl
      rw [List.map_cons, ih hl.2]
      congr 1
      cases a with
      | one v => exact congrArg Seg.one (hs v hl.1)
      | ints => rfl
      | rows => rfl
  cases x with
  | s v => exact congrArg AV.s (hs v h)
  | agg l => exact congrArg AV.agg (hg l h)
  | tup l =>
    refine congrArg AV.tup ?_
    simp only [AV.plain0] at h
    induction l with
    | nil => rfl
    | cons a r ih =>
      simp only [List.all_cons, Bool.and_eq_true] at h
      rw [List.map_cons, ih h.2]
      congr 1
      cases a with
      | s v => exact congrArg AV.s (hs v h.1)
      | agg l => exact congrArg AV.agg (hg l h.1)
      | tup l => rfl

theorem hset_0 {b c : Option Blk} {l : Heap} : (b :: l).set 0 c = c :: l := rfl
theorem hset_s {b c : Option Blk} {l r : Heap} {i : Nat} (h : l.set i c = r) : (b :: l).set (i + 1) c = b :: r := by rw [← h]; rfl
theorem happ_0 {b : Option Blk} : ([] : Heap) ++ [b] = [b] := rfl
theorem happ_s {b c : Option Blk} {l r : Heap} (h : l ++ [c] = r) : (b :: l) ++ [c] = b :: r := by rw [← h]; rfl
theorem sset_0 {s x : Seg} {l : List Seg} : segSet (s :: l) 0 x = x :: l := rfl
theorem sset_s {s x : Seg} {l r : List Seg} {b : Nat} (q : Nat) (h0 : Nat.beq b 0 = false) (hq : b - s.size = q) (h : segSet l q x = r) : segSet (s :: l) b x = s :: r := by
  rw [segSet, h0, hq, h]; rfl
theorem hset_seg {H r : Heap} {id : Nat} {s s' : List Seg} (h : s = s') (hr : H.set id (some ⟨true, s'⟩) = r) : H.set id (some ⟨true, s⟩) = r := h ▸ hr

section rules
variable {P : Program} {T : Tm} {H : Heap} {d : Option Tmp} {ty : TypeId} {pos : String} {af : Array Edge} {g : Option (Nat × Bool)}
theorem a_load_whole {t : TypeId} {x : Operand} {id n : Nat} {k : Blk} (hx : ev T x = .s (.ptr id 0 0)) (hb : hget H id = some k) [ha : Ag P t true] [hz : Sz P t n] (hn : sizeS k.segs = n) : LOk P ⟨d, .load t x, ty, pos, af, g⟩ T H H (.agg k.segs) [id] [] := l_load_agg hx hb (.whole hn) ha.h hz.h
theorem a_loadf_one {t : TypeId} {x : Operand} {m base : Nat} {segs : List Seg} {v : SV} (hx : ev T x = .s (.fptr m (cellsF segs) base 0)) (hs : segAt segs base = some (.one v)) [ha : Ag P t false] (hm : base < m) : LOk P ⟨d, .load t x, ty, pos, af, g⟩ T H H (.s v) [] [] :=
  l_loadf hx (by omega) (by unfold cellsF; rw [segAt_at hs 0 Nat.one_pos]; rfl) ha.h
end rules
section kinds
variable {P : Program} {T : Tm} {H : Heap} {d : Option Tmp} {ty : TypeId} {pos : String} {af : Array Edge} {g : Option (Nat × Bool)} {v : AV} {H' : Heap} {F M : List Nat}
theorem k_mv {x : Operand} (h : LOk P ⟨d, .move x, ty, pos, af, g⟩ T H H v [] [] := by first | exact l_move (v := .s _) rfl | exact l_move (v := .agg _) rfl | exact l_move (v := .tup _) rfl) : LOk P ⟨d, .move x, ty, pos, af, g⟩ T H H v [] [] := h
theorem k_as {x : Operand} (h : LOk P ⟨d, .assign x, ty, pos, af, g⟩ T H H v [] [] := by first | exact l_assign (v := .s _) rfl | exact l_assign (v := .agg _) rfl | exact l_assign (v := .tup _) rfl) : LOk P ⟨d, .assign x, ty, pos, af, g⟩ T H H v [] [] := h
theorem k_add {t tt : TypeId} {x y : Operand} (h : LOk P ⟨d, .binOp .add t x y tt, ty, pos, af, g⟩ T H H v [] [] := by first | exact l_bin rfl rfl (b_add (m_add (by omega))) | exact l_bin rfl rfl (b_add m_addm) | exact l_bin rfl rfl (b_add rfl)) : LOk P ⟨d, .binOp .add t x y tt, ty, pos, af, g⟩ T H H v [] [] := h
theorem k_sub {t tt : TypeId} {x y : Operand} (h : LOk P ⟨d, .binOp .sub t x y tt, ty, pos, af, g⟩ T H H v [] [] := by first | exact l_bin rfl rfl (b_sub (m_sub (by omega))) | exact l_bin rfl rfl (b_sub (m_subm (by omega))) | exact l_bin rfl rfl (b_sub rfl)) : LOk P ⟨d, .binOp .sub t x y tt, ty, pos, af, g⟩ T H H v [] [] := h
theorem k_mul {t tt : TypeId} {x y : Operand} (h : LOk P ⟨d, .binOp .mul t x y tt, ty, pos, af, g⟩ T H H v [] [] := by first | exact l_bin rfl rfl (b_mul (m_mul (by omega))) | exact l_bin rfl rfl (b_mul m_mulm) | exact l_bin rfl rfl (b_mul rfl)) : LOk P ⟨d, .binOp .mul t x y tt, ty, pos, af, g⟩ T H H v [] [] := h
theorem k_quo {t tt : TypeId} {x y : Operand} (h : LOk P ⟨d, .binOp .quo t x y tt, ty, pos, af, g⟩ T H H v [] [] := by first | exact l_bin rfl rfl (b_quo (m_ne0 (by omega)) (m_quo (by omega)))) : LOk P ⟨d, .binOp .quo t x y tt, ty, pos, af, g⟩ T H H v [] [] := h
theorem k_rem {t tt : TypeId} {x y : Operand} (h : LOk P ⟨d, .binOp .rem t x y tt, ty, pos, af, g⟩ T H H v [] [] := by first | exact l_bin rfl rfl (b_rem (m_ne0 (by omega)) m_rem)) : LOk P ⟨d, .binOp .rem t x y tt, ty, pos, af, g⟩ T H H v [] [] := h
theorem k_and {t tt : TypeId} {x y : Operand} (h : LOk P ⟨d, .binOp .and t x y tt, ty, pos, af, g⟩ T H H v [] [] := by first | exact l_bin rfl rfl (b_and (m_and (by first | omega | assumption) (by first | omega | assumption))) | exact l_bin rfl rfl (b_and rfl)) : LOk P ⟨d, .binOp .and t x y tt, ty, pos, af, g⟩ T H H v [] [] := h
theorem k_or {t tt : TypeId} {x y : Operand} (h : LOk P ⟨d, .binOp .or t x y tt, ty, pos, af, g⟩ T H H v [] [] := by first | exact l_bin rfl rfl (b_or (m_or (by first | omega | assumption) (by first | omega | assumption))) | exact l_bin rfl rfl (b_or rfl)) : LOk P ⟨d, .binOp .or t x y tt, ty, pos, af, g⟩ T H H v [] [] := h
theorem k_xor {t tt : TypeId} {x y : Operand} (h : LOk P ⟨d, .binOp .xor t x y tt, ty, pos, af, g⟩ T H H v [] [] := by first | exact l_bin rfl rfl (b_xor (m_xor (by first | omega | assumption) (by first | omega | assumption))) | exact l_bin rfl rfl (b_xor rfl)) : LOk P ⟨d, .binOp .xor t x y tt, ty, pos, af, g⟩ T H H v [] [] := h
theorem k_shl {t tt : TypeId} {x y : Operand} (h : LOk P ⟨d, .binOp .shl t x y tt, ty, pos, af, g⟩ T H H v [] [] := by first | exact l_bin rfl rfl (b_shl m_pos (m_shlm (by omega))) | exact l_bin rfl rfl (b_shl (by omega) rfl)) : LOk P ⟨d, .binOp .shl t x y tt, ty, pos, af, g⟩ T H H v [] [] := h
theorem k_shr {t tt : TypeId} {x y : Operand} (h : LOk P ⟨d, .binOp .shr t x y tt, ty, pos, af, g⟩ T H H v [] [] := by first | exact l_bin rfl rfl (b_shr m_pos (m_shr (by omega))) | exact l_bin rfl rfl (b_shr (by omega) rfl)) : LOk P ⟨d, .binOp .shr t x y tt, ty, pos, af, g⟩ T H H v [] [] := h
theorem k_lss {t tt : TypeId} {x y : Operand} (h : LOk P ⟨d, .binOp .lss t x y tt, ty, pos, af, g⟩ T H H v [] [] := by first | exact l_bin rfl rfl (b_lss m_lss) | exact l_bin rfl rfl (b_lss rfl)) : LOk P ⟨d, .binOp .lss t x y tt, ty, pos, af, g⟩ T H H v [] [] := h
theorem k_leq {t tt : TypeId} {x y : Operand} (h : LOk P ⟨d, .binOp .leq t x y tt, ty, pos, af, g⟩ T H H v [] [] := by first | exact l_bin rfl rfl (b_leq m_leq) | exact l_bin rfl rfl (b_leq rfl)) : LOk P ⟨d, .binOp .leq t x y tt, ty, pos, af, g⟩ T H H v [] [] := h
theorem k_gtr {t tt : TypeId} {x y : Operand} (h : LOk P ⟨d, .binOp .gtr t x y tt, ty, pos, af, g⟩ T H H v [] [] := by first | exact l_bin rfl rfl (b_gtr m_gtr) | exact l_bin rfl rfl (b_gtr rfl)) : LOk P ⟨d, .binOp .gtr t x y tt, ty, pos, af, g⟩ T H H v [] [] := h
theorem k_geq {t tt : TypeId} {x y : Operand} (h : LOk P ⟨d, .binOp .geq t x y tt, ty, pos, af, g⟩ T H H v [] [] := by first | exact l_bin rfl rfl (b_geq m_geq) | exact l_bin rfl rfl (b_geq rfl)) : LOk P ⟨d, .binOp .geq t x y tt, ty, pos, af, g⟩ T H H v [] [] := h
theorem k_eql {t tt : TypeId} {x y : Operand} (h : LOk P ⟨d, .binOp .eql t x y tt, ty, pos, af, g⟩ T H H v [] [] := by first | exact l_bin rfl rfl (b_eql m_eql) | exact l_bin rfl rfl (b_eql rfl) | exact a_eqlb rfl rfl | exact a_eqn rfl rfl rfl | exact a_eqA rfl rfl (by assumption) (by assumption)) : LOk P ⟨d, .binOp .eql t x y tt, ty, pos, af, g⟩ T H H v [] [] := h
theorem k_neq {t tt : TypeId} {x y : Operand} (h : LOk P ⟨d, .binOp .neq t x y tt, ty, pos, af, g⟩ T H H v [] [] := by first | exact l_bin rfl rfl (b_neq m_neq) | exact l_bin rfl rfl (b_neq rfl) | exact a_neqb rfl rfl | exact a_nen rfl rfl rfl | exact a_neA rfl rfl (by assumption) (by assumption)) : LOk P ⟨d, .binOp .neq t x y tt, ty, pos, af, g⟩ T H H v [] [] := h
theorem k_not {t : TypeId} {x : Operand} (h : LOk P ⟨d, .unOp .not t x, ty, pos, af, g⟩ T H H v [] [] := by exact l_not rfl) : LOk P ⟨d, .unOp .not t x, ty, pos, af, g⟩ T H H v [] [] := h
theorem k_com {t : TypeId} {x : Operand} (h : LOk P ⟨d, .unOp .xor t x, ty, pos, af, g⟩ T H H v [] [] := by exact l_com rfl rfl) : LOk P ⟨d, .unOp .xor t x, ty, pos, af, g⟩ T H H v [] [] := h
theorem k_neg {t : TypeId} {x : Operand} (h : LOk P ⟨d, .unOp .neg t x, ty, pos, af, g⟩ T H H v [] [] := by exact l_neg rfl rfl) : LOk P ⟨d, .unOp .neg t x, ty, pos, af, g⟩ T H H v [] [] := h
theorem k_cv {s t : TypeId} {x : Operand} (h : LOk P ⟨d, .convert s t x, ty, pos, af, g⟩ T H H' v F M := by first | exact a_conv rfl (m_conv (by omega)) | exact a_conv rfl m_convm | exact a_conv rfl rfl) : LOk P ⟨d, .convert s t x, ty, pos, af, g⟩ T H H' v F M := h
theorem k_pk {c x y : Operand} (h : LOk P ⟨d, .pick c x y, ty, pos, af, g⟩ T H H v [] [] := by first | exact l_pick_t rfl rfl (v := .s _) rfl | exact l_pick_f rfl rfl (v := .s _) rfl | exact l_pick_t rfl (by assumption) (v := .s _) rfl | exact l_pick_f rfl (by assumption) (v := .s _) rfl | exact l_pick_and rfl rfl rfl | exact l_pick_or rfl rfl rfl | exact l_pick_t rfl rfl (v := .agg _) rfl | exact l_pick_f rfl rfl (v := .agg _) rfl) : LOk P ⟨d, .pick c x y, ty, pos, af, g⟩ T H H v [] [] := h
theorem k_ex {x : Operand} {i : Nat} (h : LOk P ⟨d, .extract x i, ty, pos, af, g⟩ T H H v [] [] := by exact l_extract rfl rfl (fun _ => AV.noConfusion)) : LOk P ⟨d, .extract x i, ty, pos, af, g⟩ T H H v [] [] := h
theorem k_nc {x : Operand} (h : LOk P ⟨d, .nilCheck x, ty, pos, af, g⟩ T H H v [] [] := by exact l_nilCheck rfl rfl) : LOk P ⟨d, .nilCheck x, ty, pos, af, g⟩ T H H v [] [] := h
theorem k_min {x y : Operand} {ts : Array TypeId} {rt : TypeId} (h : LOk P ⟨d, .call ⟨.builtin .min, #[x, y], ts⟩, rt, pos, af, g⟩ T H H v [] [] := by exact l_min rfl rfl rfl) : LOk P ⟨d, .call ⟨.builtin .min, #[x, y], ts⟩, rt, pos, af, g⟩ T H H v [] [] := h
theorem k_max {x y : Operand} {ts : Array TypeId} {rt : TypeId} (h : LOk P ⟨d, .call ⟨.builtin .max, #[x, y], ts⟩, rt, pos, af, g⟩ T H H v [] [] := by exact l_max rfl rfl rfl) : LOk P ⟨d, .call ⟨.builtin .max, #[x, y], ts⟩, rt, pos, af, g⟩ T H H v [] [] := h
theorem k_len {x : Operand} {t rt : TypeId} (h : LOk P ⟨d, .call ⟨.builtin .len, #[x], #[t]⟩, rt, pos, af, g⟩ T H H v [] [] := by exact a_len rfl rfl) : LOk P ⟨d, .call ⟨.builtin .len, #[x], #[t]⟩, rt, pos, af, g⟩ T H H v [] [] := h
theorem k_cap {x : Operand} {t rt : TypeId} (h : LOk P ⟨d, .call ⟨.builtin .cap, #[x], #[t]⟩, rt, pos, af, g⟩ T H H v [] [] := by exact a_cap rfl) : LOk P ⟨d, .call ⟨.builtin .cap, #[x], #[t]⟩, rt, pos, af, g⟩ T H H v [] [] := h
theorem k_ix {t : TypeId} {x i : Operand} (h : LOk P ⟨d, .indexAddr t x i, ty, pos, af, g⟩ T H H v [] [] := by first | exact a_ixs rfl rfl (by omega) | exact a_ixp rfl rfl (by omega) | exact a_ixi rfl rfl (by omega) | exact a_ixz rfl rfl (by omega) | exact a_ixf rfl rfl (by omega) | exact a_ixg rfl rfl (by omega) | exact a_ixx rfl rfl (by omega)) : LOk P ⟨d, .indexAddr t x i, ty, pos, af, g⟩ T H H v [] [] := h
theorem k_fa {t : TypeId} {x : Operand} {f : Nat} (h : LOk P ⟨d, .fieldAddr t x f, ty, pos, af, g⟩ T H H v [] [] := by first | exact f_fld0 rfl | exact f_fldf rfl | exact f_fldr rfl) : LOk P ⟨d, .fieldAddr t x f, ty, pos, af, g⟩ T H H v [] [] := h
theorem k_al {t : TypeId} (h : LOk P ⟨d, .alloc t, ty, pos, af, g⟩ T H H' v F M := by exact a_alloc LenN.h (by repeat (first | exact happ_0 | apply happ_s))) : LOk P ⟨d, .alloc t, ty, pos, af, g⟩ T H H' v F M := h
theorem k_bx {t : TypeId} {x : Operand} (h : LOk P ⟨d, .box t x, ty, pos, af, g⟩ T H H' v F M := by first | exact a_boxa rfl LenN.h (by repeat (first | exact happ_0 | apply happ_s)) | exact a_box rfl SV.noConfusion LenN.h (by repeat (first | exact happ_0 | apply happ_s))) : LOk P ⟨d, .box t x, ty, pos, af, g⟩ T H H' v F M := h
theorem k_ld {t : TypeId} {x : Operand} (h : LOk P ⟨d, .load t x, ty, pos, af, g⟩ T H H v F M := by first | exact a_load_one rfl rfl rfl | exact a_load_ints rfl rfl rfl (by omega) | exact a_loadf_ints rfl rfl (by omega) (by omega) | exact a_loadf_one rfl rfl (by omega) | exact a_loadf rfl (by omega) rfl | exact a_load_whole rfl rfl (by exact rfl) | exact a_load_agg rfl rfl (by exact rfl) (by exact rfl) | exact a_load_row rfl rfl rfl (by omega) (by omega) | exact a_load_row0 rfl rfl rfl (by omega) (by omega) | exact a_load_rowA rfl rfl rfl (by omega) (by exact rfl) | exact a_load_aggI rfl rfl rfl (by omega) | exact a_loadf_agg rfl (by omega) (by exact rfl) (by exact rfl)) : LOk P ⟨d, .load t x, ty, pos, af, g⟩ T H H v F M := h
end kinds
end Go.Bx
end

section
/- Kinds, the second part: writing, calls, slices, what grows; tests and loops. No program. -/
namespace Go.Bx
theorem spl_len (xs ys : List Int) (i n m : Nat) : (spl xs ys i n m).length = m := by simp [spl]
theorem take_same {α : Type} {l : List α} {n : Nat} : (l.take n).take n = l.take n := by rw [List.take_take, Nat.min_self]
theorem app_0 {l : List Seg} : ([] : List Seg) ++ l = l := rfl
theorem app_s {s : Seg} {l m r : List Seg} (h : l ++ m = r) : (s :: l) ++ m = s :: r := by rw [← h]; rfl
theorem put_w {l sub : List Seg} {n : Nat} (h : dropS l n = some []) : putSegs l 0 n sub = some sub := by cases l <;> simp [putSegs, h]
theorem put_0 {l sub r t : List Seg} {n : Nat} (h : dropS l n = some r) (ht : sub ++ r = t) : putSegs l 0 n sub = some t := by cases l <;> simp [putSegs, h, ht]
theorem put_s {s : Seg} {l sub t : List Seg} {o n : Nat} (q : Nat) (h0 : Nat.beq o 0 = false) (hs : Nat.ble s.size o = true) (hz : Nat.beq s.size 0 = false) (hq : o - s.size = q) (h : putSegs l q n sub = some t) : putSegs (s :: l) o n sub = some (s :: t) := by
  cases o with
  | zero => cases h0
  | succ o => rw [putSegs, hs, hz, hq, h]; rfl
class Pl (P : Program) (t : TypeId) (places : outParam (Array (Nat × Nat))) : Prop where
  h : ∃ fields : Array Field, P.underlying t = some (.struct fields) ∧ ∀ w, (fields.mapM fun f => do pure (f.offset, ← sizeOf f.type) : Sem (Array (Nat × Nat))).run P w = .ok places w

theorem pc {T : Tm} {i : Nat} {x : Operand} {a : AV} {ps : List (Nat × Operand)} {l : List (Nat × AV)} (hx : ev T x = a := by first | exact (rfl : _ = AV.s _) | exact (rfl : _ = AV.agg _)) (hs : a.solid = true := by exact rfl) (k : PartL T ps l) : PartL T ((i, x) :: ps) ((i, a) :: l) := .cons hx hs k
def partsOf (T : Tm) (ps : List (Nat × Operand)) : List (Nat × AV) := ps.map fun p => (p.1, ev T p.2)
theorem partsOf_ok {T : Tm} : ∀ {ps : List (Nat × Operand)}, (partsOf T ps).all (fun p => p.2.solid) = true → PartL T ps (partsOf T ps)
  | [], _ => .nil
  | p :: r, h => by
    simp only [partsOf, List.map_cons, List.all_cons, Bool.and_eq_true] at h
    exact .cons rfl h.1 (partsOf_ok h.2)
class Zb (P : Program) (t : TypeId) (k : outParam IntKind) (n : outParam Nat) : Prop where
  h : ∃ z : Value, (∀ w, (zeroValue t).run P w = .ok z w) ∧ rowOk ((List.range n).map fun _ => .one (.int k 0)) z.cells = true
theorem aft_same {H H0 H1 : Heap} {σ : List Nat} (hm : muts σ H0 0 = []) (hd : H1.drop H0.length = []) : aftH H σ H0 H1 = H := by simp [aftH, hm, hd, setAll, renAll]
theorem len_0 {α : Type} : ([] : List α).length = 0 := rfl
theorem len_1 {α : Type} {a : α} : [a].length = 1 := rfl
theorem len_2 {α : Type} {a b : α} : [a, b].length = 2 := rfl
theorem len_3 {α : Type} {a b c : α} : [a, b, c].length = 3 := rfl
theorem len_4 {α : Type} {a b c d : α} : [a, b, c, d].length = 4 := rfl
def capF (l : List SV) : Nat → SV := fun i => l.getD i .junk
theorem capF_ren (l : List SV) (f : Nat → Nat) : (fun i => (capF l i).ren f) = capF (l.map (SV.ren f)) := by
  funext i
  simp only [capF, List.getD_eq_getElem?_getD, List.getElem?_map]
  cases l[i]? <;> rfl
theorem clo_ren {fn n : Nat} {l l' : List SV} {f : Nat → Nat} (h : l.map (SV.ren f) = l') : AV.s (.clo fn n (capF l')) = (AV.s (.clo fn n (capF l))).ren f := by
  subst h
  show _ = AV.s (.clo fn n fun i => (capF l i).ren f)
  rw [capF_ren]
section rules
variable {P : Program} {T : Tm} {H : Heap} {d : Option Tmp} {ty : TypeId} {pos : String} {af : Array Edge} {g : Option (Nat × Bool)}
theorem a_build {t : TypeId} {places : Array (Nat × Nat)} {parts : Array (Nat × Operand)} {ps : List (Nat × Operand)} {l : List (Nat × AV)} {Z segs : List Seg} (hps : parts.toList = ps) (hl : PartL T ps l) [hp : Pl P t places] [hz : Zv P t Z] (hs : fillS (places[·]?) Z l = some segs) : LOk P ⟨d, .build t parts, ty, pos, af, g⟩ T H H (.agg segs) [] [] := let ⟨_, h1, h2⟩ := hz.h; let ⟨_, p1, p2⟩ := hp.h; l_build hps hl p1 h1 p2 h2 hs
theorem a_buildI {t e : TypeId} {n : Nat} {k : IntKind} {xs : List Int} {parts : Array (Nat × Operand)} {ps : List (Nat × Operand)} {l : List (Nat × AV)} {segs : List Seg} (hps : parts.toList = ps) (hl : PartL T ps l) [hu : Und P t (.array n e)] [hz : Zb P t k n] [he : Sz P e 1] (hs : fillS (fun i => some (i * 1, 1)) ((List.range n).map fun _ => .one (.int k 0)) l = some segs) (hi : intsOf k segs = some xs) (hn : xs.length = n) : LOk P ⟨d, .build t parts, ty, pos, af, g⟩ T H H (.agg [.ints k n xs]) [] [] := let ⟨_, h1, h2⟩ := hz.h; l_buildI hps hl hu.h h1 he.h h2 hs hi hn
theorem a_buildK {t e : TypeId} {n : Nat} {k : IntKind} (xs : List Int) {parts : Array (Nat × Operand)} [hu : Und P t (.array n e)] [hz : Zb P t k n] [he : Sz P e 1] (hl : (partsOf T parts.toList).all (fun p => p.2.solid) = true) (hs : (fillS (fun i => some (i * 1, 1)) ((List.range n).map fun _ => .one (.int k 0)) (partsOf T parts.toList)).bind (intsOf k) = some xs) (hn : xs.length = n) : LOk P ⟨d, .build t parts, ty, pos, af, g⟩ T H H (.agg [.ints k n xs]) [] [] := by
  obtain ⟨_, h1, h2⟩ := hz.h
  cases hq : fillS (fun i => some (i * 1, 1)) ((List.range n).map fun _ => .one (.int k 0)) (partsOf T parts.toList) with
  | none => rw [hq] at hs; cases hs
  | some segs => rw [hq] at hs; exact l_buildI rfl (partsOf_ok hl) hu.h h1 he.h h2 hq hs hn
theorem a_bslI {t e : TypeId} {n n0 : Nat} {k : IntKind} {parts : Array (Nat × Operand)} {ps : List (Nat × Operand)} {l : List (Nat × AV)} {segs : List Seg} {xs : List Int} (hps : parts.toList = ps) (hl : PartL T ps l) [hu : Und P t (.slice e)] [he : Sz P e 1] (hbig : n * 1 ≤ 16777216) [hz : Zi P e k] (hs : fillS (fun i => some (i * 1, 1)) ((List.range (n * 1)).map fun _ => .one (.int k 0)) l = some segs) (hZ1 : rowOk ((List.range (n * 1)).map fun _ => .one (.int k 0)) ((Array.range (n * 1)).map fun i => (Value.int k 0).cells[i % (Value.int k 0).cells.size]!) = true) (hi : intsOf k segs = some xs) (hxn : xs.length = n)
    (h0 : 0 < n * 1) (hn : H.length = n0) {H' : Heap} (hH : H ++ [some (Blk.mk true [.ints k n xs])] = H') : LOk P ⟨d, .buildSlice t n parts, ty, pos, af, g⟩ T H H' (.s (.slice n0 0 0 n n)) [] [] := l_bsl hps hl hu.h he.h hbig hz.h hZ1 hs h0 (fun _ _ h => rep_ints hi hxn h) hn hH
theorem a_app {x y : Operand} {t tx e rt : TypeId} {id len m size n0 : Nat} {u : SV} {segs sub segs' : List Seg} {inf : TypeInfo} {z : Value} {R : List Nat} {H' : Heap} (hx : ev T x = .s (.gro id size len)) (hy : ev T y = .s u) (hb : hget H id = some ⟨true, segs⟩) [hu : Und P t (.slice e)] [hi : Inf P e inf] (hsz : inf.size = size) (hz : inf.zero = some z) (hzs : z.cells.size = size) (hsrc : ASrc P tx size R H u m sub)
    (h1 : len * size ≤ sizeS segs) (hj : Joins segs (len * size) sub (m * size) segs') (hbig : (len + m) * inf.bytes ≤ 140737488355328) (hb1 : 0 < inf.bytes)
    (hRi : ∀ i ∈ R, i < H.length) (hn : H.length = n0) (hH : H.set id none ++ [some (Blk.mk true segs')] = H') :
    LOk P ⟨d, .call ⟨.builtin .append, #[x, y], #[t, tx]⟩, rt, pos, af, g⟩ T H H' (.s (.gro n0 size (len + m))) (id :: R) [id] := l_app hx hy hb hsrc hu.h hi.h hsz hz hzs h1 hj hbig hb1 hRi hn hH
theorem sub_ints {k : IntKind} {m n q : Nat} {l l' : List Int} (hq : n * 1 = q) (h : q ≤ m) (hl : l.take q = l') : SubS [.ints k m l] 0 (n * 1) [.ints k q l'] := by
  subst hl; rw [hq]
  have := SubS.ints (l := [.ints k m l]) (o := 0) (i := 0) (n := q) (k := k) (xs := l) rfl (by omega)
  simpa using this
end rules

theorem cv {R : List Nat} {H : Heap} {x y : AV} (h : AConv R H x y := by first | exact .eq rfl | exact conv_nil | exact conv_sl rfl rfl rfl (by omega) (by omega) (by first | assumption | omega | simp [*]) rfl | exact conv_gro rfl rfl rfl (by omega) (by first | assumption | omega | simp) rfl) : AConv R H x y := h
section kinds
variable {P : Program} {T : Tm} {H : Heap} {d : Option Tmp} {ty : TypeId} {pos : String} {af : Array Edge} {g : Option (Nat × Bool)} {v : AV} {H' : Heap} {F M : List Nat}
theorem k_st {t : TypeId} {x y : Operand} (h : LOk P ⟨d, .store t x y, ty, pos, af, g⟩ T H H' v F M := by first
    | exact a_store_one rfl rfl SV.noConfusion rfl rfl (hset_seg (by first | exact sset_0 | exact sset_s _ rfl rfl sset_0 | exact sset_s _ rfl rfl (sset_s _ rfl rfl sset_0) | exact sset_s _ rfl rfl (sset_s _ rfl rfl (sset_s _ rfl rfl sset_0)) | exact sset_s _ rfl rfl (sset_s _ rfl rfl (sset_s _ rfl rfl (sset_s _ rfl rfl sset_0))) | exact sset_s _ rfl rfl (sset_s _ rfl rfl (sset_s _ rfl rfl (sset_s _ rfl rfl (sset_s _ rfl rfl sset_0)))) | exact sset_s _ rfl rfl (sset_s _ rfl rfl (sset_s _ rfl rfl (sset_s _ rfl rfl (sset_s _ rfl rfl (sset_s _ rfl rfl sset_0))))) | exact sset_s _ rfl rfl (sset_s _ rfl rfl (sset_s _ rfl rfl (sset_s _ rfl rfl (sset_s _ rfl rfl (sset_s _ rfl rfl (sset_s _ rfl rfl sset_0)))))) | exact sset_s _ rfl rfl (sset_s _ rfl rfl (sset_s _ rfl rfl (sset_s _ rfl rfl (sset_s _ rfl rfl (sset_s _ rfl rfl (sset_s _ rfl rfl (sset_s _ rfl rfl sset_0)))))))) (by repeat (first | exact hset_0 | apply hset_s)))
    | exact a_store_nat rfl rfl rfl rfl (by omega) (by first | assumption | omega | exact spl_len _ _ _ _ _ | simp [*, spl_len]) (hset_seg (by first | exact sset_0 | exact sset_s _ rfl rfl sset_0 | exact sset_s _ rfl rfl (sset_s _ rfl rfl sset_0) | exact sset_s _ rfl rfl (sset_s _ rfl rfl (sset_s _ rfl rfl sset_0)) | exact sset_s _ rfl rfl (sset_s _ rfl rfl (sset_s _ rfl rfl (sset_s _ rfl rfl sset_0))) | exact sset_s _ rfl rfl (sset_s _ rfl rfl (sset_s _ rfl rfl (sset_s _ rfl rfl (sset_s _ rfl rfl sset_0)))) | exact sset_s _ rfl rfl (sset_s _ rfl rfl (sset_s _ rfl rfl (sset_s _ rfl rfl (sset_s _ rfl rfl (sset_s _ rfl rfl sset_0))))) | exact sset_s _ rfl rfl (sset_s _ rfl rfl (sset_s _ rfl rfl (sset_s _ rfl rfl (sset_s _ rfl rfl (sset_s _ rfl rfl (sset_s _ rfl rfl sset_0)))))) | exact sset_s _ rfl rfl (sset_s _ rfl rfl (sset_s _ rfl rfl (sset_s _ rfl rfl (sset_s _ rfl rfl (sset_s _ rfl rfl (sset_s _ rfl rfl (sset_s _ rfl rfl sset_0)))))))) (by repeat (first | exact hset_0 | apply hset_s)))
    | exact a_store_int rfl rfl rfl rfl (by omega) (by first | assumption | omega | exact spl_len _ _ _ _ _ | simp [*, spl_len]) (hset_seg (by first | exact sset_0 | exact sset_s _ rfl rfl sset_0 | exact sset_s _ rfl rfl (sset_s _ rfl rfl sset_0) | exact sset_s _ rfl rfl (sset_s _ rfl rfl (sset_s _ rfl rfl sset_0)) | exact sset_s _ rfl rfl (sset_s _ rfl rfl (sset_s _ rfl rfl (sset_s _ rfl rfl sset_0))) | exact sset_s _ rfl rfl (sset_s _ rfl rfl (sset_s _ rfl rfl (sset_s _ rfl rfl (sset_s _ rfl rfl sset_0)))) | exact sset_s _ rfl rfl (sset_s _ rfl rfl (sset_s _ rfl rfl (sset_s _ rfl rfl (sset_s _ rfl rfl (sset_s _ rfl rfl sset_0))))) | exact sset_s _ rfl rfl (sset_s _ rfl rfl (sset_s _ rfl rfl (sset_s _ rfl rfl (sset_s _ rfl rfl (sset_s _ rfl rfl (sset_s _ rfl rfl sset_0)))))) | exact sset_s _ rfl rfl (sset_s _ rfl rfl (sset_s _ rfl rfl (sset_s _ rfl rfl (sset_s _ rfl rfl (sset_s _ rfl rfl (sset_s _ rfl rfl (sset_s _ rfl rfl sset_0)))))))) (by repeat (first | exact hset_0 | apply hset_s)))
    | exact a_store_agg rfl rfl rfl (by first | exact put_w (by exact rfl) | exact put_0 (by exact rfl) (by repeat (first | exact app_0 | apply app_s)) | exact put_s _ rfl rfl rfl rfl (put_0 (by exact rfl) (by repeat (first | exact app_0 | apply app_s))) | exact put_s _ rfl rfl rfl rfl (put_s _ rfl rfl rfl rfl (put_0 (by exact rfl) (by repeat (first | exact app_0 | apply app_s)))) | exact put_s _ rfl rfl rfl rfl (put_s _ rfl rfl rfl rfl (put_s _ rfl rfl rfl rfl (put_0 (by exact rfl) (by repeat (first | exact app_0 | apply app_s))))) | exact put_s _ rfl rfl rfl rfl (put_s _ rfl rfl rfl rfl (put_s _ rfl rfl rfl rfl (put_s _ rfl rfl rfl rfl (put_0 (by exact rfl) (by repeat (first | exact app_0 | apply app_s)))))) | exact put_s _ rfl rfl rfl rfl (put_s _ rfl rfl rfl rfl (put_s _ rfl rfl rfl rfl (put_s _ rfl rfl rfl rfl (put_s _ rfl rfl rfl rfl (put_0 (by exact rfl) (by repeat (first | exact app_0 | apply app_s))))))) | exact put_s _ rfl rfl rfl rfl (put_s _ rfl rfl rfl rfl (put_s _ rfl rfl rfl rfl (put_s _ rfl rfl rfl rfl (put_s _ rfl rfl rfl rfl (put_s _ rfl rfl rfl rfl (put_0 (by exact rfl) (by repeat (first | exact app_0 | apply app_s))))))))) (by exact Nat.le_of_ble_eq_true rfl) (by exact rfl) (by repeat (first | exact hset_0 | apply hset_s))) : LOk P ⟨d, .store t x y, ty, pos, af, g⟩ T H H' v F M := h
theorem k_bd {t : TypeId} {parts : Array (Nat × Operand)} (h : LOk P ⟨d, .build t parts, ty, pos, af, g⟩ T H H v [] [] := by first
    | exact a_build rfl (by first | exact .nil | exact (pc (k := .nil)) | exact (pc (k := (pc (k := .nil)))) | exact (pc (k := (pc (k := (pc (k := .nil)))))) | exact (pc (k := (pc (k := (pc (k := (pc (k := .nil)))))))) | exact (pc (k := (pc (k := (pc (k := (pc (k := (pc (k := .nil)))))))))) | exact (pc (k := (pc (k := (pc (k := (pc (k := (pc (k := (pc (k := .nil)))))))))))) | exact (pc (k := (pc (k := (pc (k := (pc (k := (pc (k := (pc (k := (pc (k := .nil)))))))))))))) | exact (pc (k := (pc (k := (pc (k := (pc (k := (pc (k := (pc (k := (pc (k := (pc (k := .nil)))))))))))))))) | exact (pc (k := (pc (k := (pc (k := (pc (k := (pc (k := (pc (k := (pc (k := (pc (k := (pc (k := .nil)))))))))))))))))) | exact (pc (k := (pc (k := (pc (k := (pc (k := (pc (k := (pc (k := (pc (k := (pc (k := (pc (k := (pc (k := .nil)))))))))))))))))))) | exact (pc (k := (pc (k := (pc (k := (pc (k := (pc (k := (pc (k := (pc (k := (pc (k := (pc (k := (pc (k := (pc (k := .nil)))))))))))))))))))))) | exact (pc (k := (pc (k := (pc (k := (pc (k := (pc (k := (pc (k := (pc (k := (pc (k := (pc (k := (pc (k := (pc (k := (pc (k := .nil))))))))))))))))))))))))) (by exact rfl)
    | exact a_buildI rfl (by first | exact .nil | exact (pc (k := .nil)) | exact (pc (k := (pc (k := .nil)))) | exact (pc (k := (pc (k := (pc (k := .nil)))))) | exact (pc (k := (pc (k := (pc (k := (pc (k := .nil)))))))) | exact (pc (k := (pc (k := (pc (k := (pc (k := (pc (k := .nil)))))))))) | exact (pc (k := (pc (k := (pc (k := (pc (k := (pc (k := (pc (k := .nil)))))))))))) | exact (pc (k := (pc (k := (pc (k := (pc (k := (pc (k := (pc (k := (pc (k := .nil)))))))))))))) | exact (pc (k := (pc (k := (pc (k := (pc (k := (pc (k := (pc (k := (pc (k := (pc (k := .nil)))))))))))))))) | exact (pc (k := (pc (k := (pc (k := (pc (k := (pc (k := (pc (k := (pc (k := (pc (k := (pc (k := .nil)))))))))))))))))) | exact (pc (k := (pc (k := (pc (k := (pc (k := (pc (k := (pc (k := (pc (k := (pc (k := (pc (k := (pc (k := .nil)))))))))))))))))))) | exact (pc (k := (pc (k := (pc (k := (pc (k := (pc (k := (pc (k := (pc (k := (pc (k := (pc (k := (pc (k := (pc (k := .nil)))))))))))))))))))))) | exact (pc (k := (pc (k := (pc (k := (pc (k := (pc (k := (pc (k := (pc (k := (pc (k := (pc (k := (pc (k := (pc (k := (pc (k := .nil))))))))))))))))))))))))) (by exact rfl) (by exact rfl) (by exact rfl)) : LOk P ⟨d, .build t parts, ty, pos, af, g⟩ T H H v [] [] := h
theorem k_sl {t : TypeId} {x : Operand} {lo hi mx : Option Operand} (h : LOk P ⟨d, .slice t x lo hi mx, ty, pos, af, g⟩ T H H v F M := by first
    | exact a_sl rfl bnd_none bnd_none bnd_none rfl (by omega) (by omega) (by omega) (by omega)
    | exact a_sla rfl bnd_none bnd_none bnd_none rfl (by omega) (by omega) (by omega) (by omega)
    | exact a_sli rfl bnd_none bnd_none (by omega) (by omega)
    | exact a_sl rfl (bnd_some rfl) bnd_none bnd_none rfl (by omega) (by omega) (by omega) (by omega)
    | exact a_sla rfl (bnd_some rfl) bnd_none bnd_none rfl (by omega) (by omega) (by omega) (by omega)
    | exact a_sli rfl (bnd_some rfl) bnd_none (by omega) (by omega)
    | exact a_sl rfl bnd_none (bnd_some rfl) bnd_none rfl (by omega) (by omega) (by omega) (by omega)
    | exact a_sla rfl bnd_none (bnd_some rfl) bnd_none rfl (by omega) (by omega) (by omega) (by omega)
    | exact a_sli rfl bnd_none (bnd_some rfl) (by omega) (by omega)
    | exact a_sl rfl (bnd_some rfl) (bnd_some rfl) bnd_none rfl (by omega) (by omega) (by omega) (by omega)
    | exact a_sla rfl (bnd_some rfl) (bnd_some rfl) bnd_none rfl (by omega) (by omega) (by omega) (by omega)
    | exact a_sli rfl (bnd_some rfl) (bnd_some rfl) (by omega) (by omega)
    | exact a_sl rfl bnd_none (bnd_some rfl) (bnd_some rfl) rfl (by omega) (by omega) (by omega) (by omega)
    | exact a_sla rfl bnd_none (bnd_some rfl) (bnd_some rfl) rfl (by omega) (by omega) (by omega) (by omega)
    | exact a_slim rfl bnd_none (bnd_some rfl) rfl rfl (by omega) (by omega) (by omega)
    | exact a_sl rfl (bnd_some rfl) (bnd_some rfl) (bnd_some rfl) rfl (by omega) (by omega) (by omega) (by omega)
    | exact a_sla rfl (bnd_some rfl) (bnd_some rfl) (bnd_some rfl) rfl (by omega) (by omega) (by omega) (by omega)
    | exact a_slim rfl (bnd_some rfl) (bnd_some rfl) rfl rfl (by omega) (by omega) (by omega)) : LOk P ⟨d, .slice t x lo hi mx, ty, pos, af, g⟩ T H H v F M := h
theorem k_fn {f n : Nat} {caps : Array Operand} {ps : List Operand} (l : List SV) (hl : caps.toList = ps := by rfl) (hc : CapL T (capF l) 0 ps := by first | exact .nil | exact .cons rfl .nil | exact .cons rfl (.cons rfl .nil) | exact .cons rfl (.cons rfl (.cons rfl .nil)) | exact .cons rfl (.cons rfl (.cons rfl (.cons rfl .nil)))) (hn : Nat.beq ps.length l.length = true := by rfl) (hm : l.length = n := by first | exact len_0 | exact len_1 | exact len_2 | exact len_3 | exact len_4) : LOk P ⟨d, .makeFunc (.func f) #[] caps, ty, pos, af, g⟩ T H H (.s (.clo f n (capF l))) [] [] := l_fn hl hc ((Nat.eq_of_beq_eq_true hn).trans hm)
theorem k_call {f : FuncId} {xs : Array Operand} {l : List Operand} {at_ : Array TypeId} {args0 : List AV} {H0 H1 H' : Heap} {v0 v : AV} {R : List Nat} (σ : List Nat) [hf : Clb P f] (hl : xs.toList = l := by rfl)
    (hargs : ConvL T H R l (args0.map (AV.ren (nmsF σ H.length))) := by first | exact .nil | exact .cons rfl cv .nil | exact .cons rfl cv (.cons rfl cv .nil) | exact .cons rfl cv (.cons rfl cv (.cons rfl cv .nil)) | exact .cons rfl cv (.cons rfl cv (.cons rfl cv (.cons rfl cv .nil))) | exact .cons rfl cv (.cons rfl cv (.cons rfl cv (.cons rfl cv (.cons rfl cv .nil)))) | exact .cons rfl cv (.cons rfl cv (.cons rfl cv (.cons rfl cv (.cons rfl cv (.cons rfl cv .nil))))) | exact .cons rfl cv (.cons rfl cv (.cons rfl cv (.cons rfl cv (.cons rfl cv (.cons rfl cv (.cons rfl cv .nil)))))) | exact .cons rfl cv (.cons rfl cv (.cons rfl cv (.cons rfl cv (.cons rfl cv (.cons rfl cv (.cons rfl cv (.cons rfl cv .nil)))))))) (con : Con P f args0 H0 v0 H1) (hok : callOk σ R args0 H0 H1 v0 H.length = true := by rfl) (hσ : AllIn H (nmsF σ H.length) σ 0 H0 := by repeat (first | exact trivial | refine ⟨rfl, ?_⟩)) (hR : frozenIn H R = true := by rfl) (hv : v0.ren (nmsF σ H.length) = v := by first | exact AV.ren_self rfl | exact (clo_ren rfl).symm | exact (rfl : _ = AV.s _) | exact (rfl : _ = AV.agg _) | exact (rfl : _ = AV.tup _)) (hH : aftH H σ H0 H1 = H' := by first | exact aft_same rfl rfl | rfl) :
    LOk P ⟨d, .call ⟨.value (.func f), xs, at_⟩, ty, pos, af, g⟩ T H H' v (σ ++ R) ((muts σ H0 0).map (·.1)) := l_call σ hf.h con hl hargs hok hσ hR hv hH
theorem k_callc {f n : Nat} {x : Operand} {q : Nat → SV} {xs : Array Operand} {l : List Operand} {at_ : Array TypeId} {args0 : List AV} {H0 H1 H' : Heap} {v0 v : AV} {R : List Nat} (σ : List Nat) [hf : Clb P f] (hx : ev T x = .s (.clo f n q)) (hl : xs.toList = l := by rfl)
    (hargs : ConvL T H R l ((args0.take l.length).map (AV.ren (nmsF σ H.length))) := by first | exact .nil | exact .cons rfl cv .nil | exact .cons rfl cv (.cons rfl cv .nil) | exact .cons rfl cv (.cons rfl cv (.cons rfl cv .nil)) | exact .cons rfl cv (.cons rfl cv (.cons rfl cv (.cons rfl cv .nil))) | exact .cons rfl cv (.cons rfl cv (.cons rfl cv (.cons rfl cv (.cons rfl cv .nil)))) | exact .cons rfl cv (.cons rfl cv (.cons rfl cv (.cons rfl cv (.cons rfl cv (.cons rfl cv .nil))))) | exact .cons rfl cv (.cons rfl cv (.cons rfl cv (.cons rfl cv (.cons rfl cv (.cons rfl cv (.cons rfl cv .nil)))))) | exact .cons rfl cv (.cons rfl cv (.cons rfl cv (.cons rfl cv (.cons rfl cv (.cons rfl cv (.cons rfl cv (.cons rfl cv .nil)))))))) (con : Con P f args0 H0 v0 H1) (hcap : (args0.drop l.length).map (AV.ren (nmsF σ H.length)) = (List.range n).map fun i => .s (q i) := by rfl) (hok : callOk σ R args0 H0 H1 v0 H.length = true := by rfl) (hσ : AllIn H (nmsF σ H.length) σ 0 H0 := by repeat (first | exact trivial | refine ⟨rfl, ?_⟩)) (hR : frozenIn H R = true := by rfl) (hv : v0.ren (nmsF σ H.length) = v := by first | exact AV.ren_self rfl | exact (clo_ren rfl).symm | exact (rfl : _ = AV.s _) | exact (rfl : _ = AV.agg _) | exact (rfl : _ = AV.tup _)) (hH : aftH H σ H0 H1 = H' := by first | exact aft_same rfl rfl | rfl) :
    LOk P ⟨d, .call ⟨.value x, xs, at_⟩, ty, pos, af, g⟩ T H H' v (σ ++ R) ((muts σ H0 0).map (·.1)) := l_callc σ hx hf.h con hl hargs hcap hok hσ hR hv hH
end kinds

section code
variable {E : Env} {P : Program} {T : Tm} {H : Heap} {Q : Exit → Tm → Heap → Prop}
theorem g_reg {n : Nat} (hP : E.P = P) (hn : E.n = n) {id : Nat} {ops : Array Oper} {l : List Oper} (h : SK P ops l T H (fun _ => True) (Q .normal)) (hok : regionOk n ops = true := by kernel_rfl) (hl : ops.toList = l := by rfl) : Wp E (.region id ops false) T H Q := by subst hP; subst hn; exact c_reg hok hl h
theorem g_any {n : Nat} (hP : E.P = P) (hn : E.n = n) [hm : Mix P] {id : Nat} {ops : Array Oper} {l : List Oper} (h : SK P ops l T H (fun fs => ordOk ops H.length fs = true) (Q .normal)) (hok : regionOk n ops = true := by kernel_rfl) (hl : ops.toList = l := by rfl) : Wp E (.region id ops true) T H Q := by subst hP; subst hn; exact c_any hm.h hok hl h
theorem w_t {t : Nat} {x y : Code} {b : Bool} (hc : look T t = .s (.bool b)) (hb : b = true) (h : Wp E x T H Q) : Wp E (.cond (.tmp t) x y) T H Q := w_cond hc (fun _ => h) (fun e => by rw [hb] at e; cases e)
theorem w_f {t : Nat} {x y : Code} {b : Bool} (hc : look T t = .s (.bool b)) (hb : b = false) (h : Wp E y T H Q) : Wp E (.cond (.tmp t) x y) T H Q := w_cond hc (fun e => by rw [hb] at e; cases e) (fun _ => h)
theorem wk {T' : Tm} {H' : Heap} {m : Nat} (hN : E.nE = m) (π : List Nat) (hT : AllLook T π T' := by repeat (first | exact trivial | refine ⟨rfl, ?_⟩ | refine ⟨clo_ren rfl, ?_⟩)) (hH : AllGet H π 0 H' := by repeat (first | exact trivial | refine ⟨rfl, ?_⟩)) (hk : knownAll T' H' = true := by rfl) (hd : distinct ((List.range H'.length).map (rn π)) = true := by rfl) (hE : m ≤ H'.length ∧ ((List.range m).all fun k => Nat.beq (rn π k) k) = true := by exact ⟨Nat.le_of_ble_eq_true rfl, rfl⟩) : Weak E T H T' H' := by subst hN; exact weak π hT hH hk hd hE
end code
end Go.Bx
namespace Go.Bx
section code
variable {E : Env} {T : Tm} {H : Heap} {Q : Exit → Tm → Heap → Prop}
theorem w_T {t : Nat} {x y : Code} {b : Bool} (hc : look T t = .s (.bool b)) (h : Wp E x T H Q) (hb : b = true := by first | rfl | assumption | exact decide_eq_true (by omega) | (simp only [Bool.or_eq_true, Bool.and_eq_true, Bool.not_eq_true', decide_eq_true_eq, decide_eq_false_iff_not]; omega)) : Wp E (.cond (.tmp t) x y) T H Q := w_t hc hb h
theorem w_F {t : Nat} {x y : Code} {b : Bool} (hc : look T t = .s (.bool b)) (h : Wp E y T H Q) (hb : b = false := by first | rfl | assumption | exact decide_eq_false (by omega) | (simp only [Bool.or_eq_false_iff, Bool.and_eq_false_imp, Bool.not_eq_false', decide_eq_true_eq, decide_eq_false_iff_not]; omega)) : Wp E (.cond (.tmp t) x y) T H Q := w_f hc hb h
theorem w_if {t : Nat} {x y : Code} {p : Prop} [Decidable p] (hc : look T t = .s (.bool (decide p))) (h1 : p → Wp E x T H Q) (h2 : ¬ p → Wp E y T H Q) : Wp E (.cond (.tmp t) x y) T H Q := w_cond hc (fun h => h1 (of_decide_eq_true h)) (fun h => h2 (of_decide_eq_false h))
theorem w_ifn {t : Nat} {x y : Code} {p : Prop} [Decidable p] (hc : look T t = .s (.bool (!decide p))) (h1 : ¬ p → Wp E x T H Q) (h2 : p → Wp E y T H Q) : Wp E (.cond (.tmp t) x y) T H Q := w_cond hc (fun h => h1 (fun k => by rw [decide_eq_true k] at h; cases h)) (fun h => h2 (by by_cases k : p; exact k; rw [decide_eq_false k] at h; cases h))
end code
end Go.Bx
end

section
/- Contracts whose results are read ahead of what is told at the end. No program. -/
namespace Go.Bx
theorem hrep_mark {W : Nat → Prop} {ρ : Rho} {h : Nat → Option Blk} {w2 : World} {D : Nat} (h1 : HRep W ρ h w2) (hd : w2.heap[D]? = some (.deferred (some []))) : HRep W ρ h (w2.putObj D (.deferred none)) := by
  have ho : ∀ k, k ≠ D → (w2.putObj D (.deferred none)).heap[k]? = w2.heap[k]? := fun k hk => World.putObj_heap_other hk
  refine ⟨fun id b o e => by simpa using h1.lt id b o e, fun id b o k e1 e2 => ?_, h1.apart, fun b cs e => ?_, fun b n e => ?_⟩
  · have hr := h1.rep id b o k e1 e2
    refine ⟨hr.1.world (ho b ?_), hr.2⟩
    intro e
    subst e
    obtain ⟨cells, t, fr, g1, _⟩ := hr.1
    rw [hd] at g1; cases g1
  · obtain ⟨q1, t, fr, q2⟩ := h1.fz b cs e
    refine ⟨q1, t, fr, ?_⟩
    rw [ho b ?_]; exact q2
    intro e'
    subst e'
    rw [hd] at q2; cases q2
  · obtain ⟨cs, t, fr, q1, q2⟩ := h1.sz b n e
    refine ⟨cs, t, fr, ?_, q2⟩
    rw [ho b ?_]; exact q1
    intro e'
    subst e'
    rw [hd] at q1; cases q1
theorem fr_mark {W : Nat → Prop} {w w2 : World} {D : Nat} (h2 : Fr W w w2) (hD : w.heap.size ≤ D) : Fr W w (w2.putObj D (.deferred none)) := by
  have ho : ∀ k, k ≠ D → (w2.putObj D (.deferred none)).heap[k]? = w2.heap[k]? := fun k hk => World.putObj_heap_other hk
  refine ⟨h2.os, h2.tape, h2.output, by simpa using h2.size, fun k hk hn => ?_, fun k o hk hc => ?_, fun k cs t fr hk => ?_⟩
  · rw [ho k (by omega)]; exact h2.block k hk hn
  · have : k < w.heap.size := (Array.getElem?_eq_some_iff.1 hk).1
    rw [ho k (by omega)]; exact h2.others k o hk hc
  · have : k < w.heap.size := (Array.getElem?_eq_some_iff.1 hk).1
    rw [ho k (by omega)]; exact h2.sizes k cs t fr hk
def DoneD (E : Env) (fn : Func) (v : AV) (H' : Heap) : Exit → Tm → Heap → Prop := fun e T H => (e = .ret ∨ e = .normal) ∧ ∃ t v0, t < E.n ∧ Ret E.P fn T H v0 ∧ Weak E ((t, v0) :: T) H [(t, v)] H'

theorem con_inF {P : Program} {f : FuncId} {fn : Func} {c : Code} {args : List AV} {H H' : Heap} {v : AV} (n : Nat) (hf : P.funcs[f]? = some fn) (hb : fn.body = some c) (hn : fn.ntmps = n) {m : Nat} (hm : H.length = m)
    (h : ∀ E : Env, E.P = P → E.n = n → E.nE = m → E.flat = false → Wp E c (argT 0 args) H (DoneD E fn v H')) (hl : args.length ≤ n := by exact Nat.le_of_ble_eq_true rfl) (hlen : H.length ≤ H'.length := by exact Nat.le_of_ble_eq_true rfl) : Con P f args H v H' := by
  subst hn; subst hm
  refine ⟨hlen, fun W ρ vals w hH hdom hW hargs => ?_⟩
  let E : Env := ⟨P, W, w, ρ, fn.ntmps, H.length, hW, hdom, [], false⟩
  refine (callsIn_wide (n := 0)).1 (callsIn_of_wp_marks hf hb trivial (wpIn_wide.2 (wp_mono (h E rfl rfl rfl rfl _ w ⟨ρ, W, ⟨.refl _, hH, ?_, DefT.nil _ _ _ _, .refl _ _, fun _ h => h, hW, fun _ _ h => .inl h, fun _ _ h => .inl h⟩, hdom, fun t => ?_, Nat.le_refl _⟩) ?_)))
  · have := hargs.1
    show _ = fn.ntmps
    simp; omega
  · rw [look_argT, if_pos (Nat.zero_le _), Nat.sub_zero]
    cases hx : args[t]? with
    | none => trivial
    | some x =>
      have hlt : t < vals.size := by
        rw [hargs.1]
        exact (List.getElem?_eq_some_iff.1 hx).1
      have := hargs.2 t x hx
      simp only [Option.getD_some]
      simp only [Array.getD_eq_getD_getElem?] at this ⊢
      rw [Array.getElem?_append_left hlt]
      exact this
  · rintro e a' w' ⟨T, H1, ⟨he, t, v0, ht, hret, hwk⟩, ρ0, W0, p0, hno0, hT0, hE0⟩
    have hl : LeavesInM Fence.wide 0 P fn a'.tmps (fun e w' => ∃ v' ρ' W', e = .returned v' ∧ Nx H.length H'.length ρ ρ' W W' (hget H') w w' ∧ v.rep ρ' v') a'.defers .returning w' := by
      refine leaves_marks (w0 := w) (Φ := fun w2 => HRep W0 ρ0 (hget H1) w2 ∧ Fr W w w2 ∧ (∀ b, w2.heap.size ≤ b → W0 b) ∧ w2.heap.size = w'.heap.size) (fun w2 D ⟨h1, h2, h3, h4⟩ hD hd => ⟨hrep_mark h1 hd, fr_mark h2 hD, fun b hb => h3 b (by simpa using hb), by simpa using h4⟩) (fun w2 ⟨h1, h2, h3, h4⟩ => ?_) a'.defers w' (DefT.flat0 p0.defs) ⟨p0.rep, p0.fr, p0.fresh, rfl⟩
      obtain ⟨v', hv, hrv⟩ := hret W0 ρ0 a' w2 h1 hT0
      -- the world behind the marks, the value in a slot
      have hrep2 : Rep E ((t, v0) :: T) H1 ({ a' with defers := [] }.put (some t) v') w2 := by
        refine ⟨ρ0, W0, ⟨p0.le, h1, (put_size _ _ _).trans p0.size, ?_, h2, p0.sub, h3, p0.fzn, p0.old⟩, hno0, ?_, hE0⟩
        · rw [put_defers]; exact DefT.nil _ _ _ []
        · exact TRep.put (d := some t) (a := { a' with defers := [] }) hT0 (fun i hi => by cases hi; show t < a'.tmps.size; rw [p0.size]; exact ht) hrv
      obtain ⟨ρ', W', p, hno, hT, _⟩ := hwk _ w2 hrep2
      refine ⟨v', hv, v', ρ', W', rfl, ⟨p.le, fun id x e => ?_, p.rep, p.fr, p.sub, p.fresh, p.fzn⟩, ?_⟩
      · rcases p.old id x e with h4 | h4
        · exact .inl h4
        · refine .inr ⟨h4.1, ?_, h4.2⟩
          rcases Nat.lt_or_ge id H'.length with h5 | h5
          · exact h5
          · rw [hno id h5] at e; cases e
      · have := hT t
        rw [look_cons, if_pos rfl] at this
        have hg : ({ a' with defers := [] }.put (some t) v').tmps.getD t undef = v' := by
          have hs : t < a'.tmps.size := by rw [p0.size]; exact ht
          simp [Act.put, hs]
        rwa [hg] at this
    rcases he with rfl | rfl
    · exact hl
    · exact hl
section
variable {E : Env} {P : Program} {T : Tm} {H : Heap}
theorem con_in {P : Program} {f : FuncId} {fn : Func} {c : Code} {args : List AV} {H H' : Heap} {v : AV} (n : Nat) (hf : P.funcs[f]? = some fn) (hb : fn.body = some c) (hn : fn.ntmps = n) {m : Nat} (hm : H.length = m)
    (h : ∀ E : Env, E.P = P → E.n = n → E.nE = m → Wp E c (argT 0 args) H (DoneD E fn v H')) (hl : args.length ≤ n := by exact Nat.le_of_ble_eq_true rfl) (hlen : H.length ≤ H'.length := by exact Nat.le_of_ble_eq_true rfl) : Con P f args H v H' := con_inF n hf hb hn hm (fun E h1 h2 h3 _ => h E h1 h2 h3) hl hlen
theorem d_ret {fn : Func} {v v0 : AV} {H' : Heap} {e : Exit} {m n : Nat} (hP : E.P = P) (hn : E.n = n) (hN : E.nE = m) (π : List Nat) (hr : Ret P fn T H v0) (h0 : Nat.blt 0 n = true := by rfl) (hT : AllLook ((0, v0) :: T) π [(0, v)] := by first | exact ⟨rfl, trivial⟩ | exact ⟨clo_ren rfl, trivial⟩) (hH : AllGet H π 0 H' := by repeat (first | exact trivial | refine ⟨rfl, ?_⟩)) (hk : knownAll [(0, v)] H' = true := by rfl) (hd : distinct ((List.range H'.length).map (rn π)) = true := by rfl) (hE : m ≤ H'.length ∧ ((List.range m).all fun k => Nat.beq (rn π k) k) = true := by exact ⟨Nat.le_of_ble_eq_true rfl, rfl⟩) (he : e = .ret ∨ e = .normal := by first | exact .inl rfl | exact .inr rfl) : DoneD E fn v H' e T H := by
  subst hP; subst hN; subst hn; exact ⟨he, 0, v0, Nat.blt_eq.mp h0, hr, weak π hT hH hk hd hE⟩
theorem r_tmp {fn : Func} {t : Nat} {v : SV} (hr : fn.results = #[.tmp t]) (hv : look T t = .s v := by rfl) : Ret P fn T H (.s v) := ret_tmp hr hv
theorem r_tmpa {fn : Func} {t : Nat} {v : List Seg} (hr : fn.results = #[.tmp t]) (hv : look T t = .agg v := by rfl) : Ret P fn T H (.agg v) := ret_tmp hr hv
theorem r_cell {fn : Func} {p id n : Nat} {ty : TypeId} {k : Blk} {segs : List Seg} (hr : fn.results = #[.cell p ty]) [ha : Ag P ty true] [hz : Sz P ty n] (hp : look T p = .s (.ptr id 0 0) := by rfl) (hb : hget H id = some k := by rfl) (hs : SubS k.segs 0 n segs := by first | exact .whole rfl | exact .part rfl rfl) : Ret P fn T H (.agg segs) := ret_cell hr hp hb hs ha.h hz.h
theorem r_cella {p id n : Nat} {ty : TypeId} {k : Blk} {segs : List Seg} [ha : Ag P ty true] [hz : Sz P ty n] (hp : look T p = .s (.ptr id 0 0) := by rfl) (hb : hget H id = some k := by rfl) (hs : SubS k.segs 0 n segs := by first | exact .whole rfl | exact .part rfl rfl) : RetI P T H (.cell p ty) (.agg segs) := ri_cella hp hb hs ha.h hz.h
end
end Go.Bx
end

section
/- What an operation makes, and nobody writes: a value. Integers copied, appended. No program. -/
namespace Go.Bx
section
variable {P : Program} {T : Tm} {H : Heap}
theorem lok_val {o : Oper} {F M : List Nat} {segs : List Seg} {y x : SV} (h : LOk P o T H (H ++ [some ⟨true, segs⟩]) (.s y) F M) (hc : AConv [H.length] (H ++ [some ⟨false, segs⟩]) (.s y) (.s x)) : LOk P o T H (H ++ [none]) (.s x) F M := by
  refine ⟨by simp, fun j hj hn => ?_, h.sub, h.lt, ?_⟩
  · have := h.keep j hj hn
    rw [hget_app, if_pos hj] at this ⊢
  · have hrun := h.run
    rw [msk_app] at hrun ⊢
    generalize hH0 : msk F H.length H = H0 at *
    have hl0 : H0.length = H.length := by rw [← hH0, msk_len]
    intro W ρ a w hH hn hW ho next Q hq
    refine hrun W ρ a w hH (fun i a1 a2 => hn i a1 (by simpa using a2)) hW ho next Q ?_
    rintro v' w' ⟨ρ', W', k, hv⟩
    have hb : hget (H0 ++ [some ⟨true, segs⟩]) H0.length = some ⟨true, segs⟩ := by rw [hget_app, if_neg (by omega)]; simp [hget]
    obtain ⟨ρ2, W2, h1, h2, h3, h4, h5, h6⟩ := hrep_frz k.rep hb k.fresh
    have hset : (H0 ++ [some (⟨true, segs⟩ : Blk)]).set H0.length (some ⟨false, segs⟩) = H0 ++ [some ⟨false, segs⟩] := by simp
    rw [hset] at h3
    refine hq v' w' ⟨ρ2, W2, ?_, ?_⟩
    · refine ⟨k.le.trans h1, fun i x e => ?_, h3.sub fun j b hj => ?_, k.fr, fun b hb => k.sub b (h4 b hb), h5, fun b c e => ?_⟩
      · rw [h2] at e; simpa using k.old i x e
      · rw [hget_app] at hj ⊢
        split at hj
        · rename_i h7; rw [if_pos h7]; exact hj
        · have h8 : ∀ k, hget ([none] : Heap) k = none := fun k => by unfold hget; cases k <;> simp
          rw [h8] at hj; cases hj
      · rcases h6 b c e with h7 | h7
        · exact k.fzn b c h7
        · exact .inr (k.sub b h7)
    · refine hc _ W2 ρ2 w' v' (fun i hi => ?_) h3 (AV.rep_le h1 hv)
      simp only [List.mem_singleton] at hi
      subst hi
      rw [hget_app, hget_app, if_neg (by omega), if_neg (by omega), hl0]
end
end Go.Bx
namespace Go.Bx
section
variable {P : Program} {T : Tm} {H : Heap} {d : Option Tmp} {ty : TypeId} {pos : String} {af : Array Edge} {g : Option (Nat × Bool)}
theorem lok_val' {o : Oper} {F M : List Nat} {segs : List Seg} {y x : SV} {H' : Heap} (h : LOk P o T H (H ++ [some ⟨true, segs⟩]) (.s y) F M) (hc : AConv [H.length] (H ++ [some ⟨false, segs⟩]) (.s y) (.s x)) (hH : H ++ [none] = H') : LOk P o T H H' (.s x) F M := hH ▸ lok_val h hc
theorem hget_last (H : Heap) (b : Blk) : hget (H ++ [some b]) H.length = some b := by rw [hget_app, if_neg (by omega)]; simp [hget]
theorem a_boxf {t : TypeId} {x : Operand} {l : List Seg} {n : Nat} {H' : Heap} (hx : ev T x = .agg l) [hz : Sz P t n] (hn : sizeS l = n) (hid : l.all (Seg.idB fun _ => false) = true) (hH : H ++ [none] = H') : LOk P ⟨d, .box t x, ty, pos, af, g⟩ T H H' (.s (.fptr n (cellsF l) 0 0)) [] [] :=
  lok_val' (l_box_agg hx rfl) (conv_ptr (k := ⟨false, l⟩) (hget_last _ _) rfl hn hid) hH
theorem a_bslF {t e : TypeId} {n : Nat} {k : IntKind} {parts : Array (Nat × Operand)} {ps : List (Nat × Operand)} {l : List (Nat × AV)} {segs : List Seg} {xs : List Int} (hps : parts.toList = ps) (hl : PartL T ps l) [hu : Und P t (.slice e)] [he : Sz P e 1] (hbig : n * 1 ≤ 16777216) [hz : Zi P e k] (hs : fillS (fun i => some (i * 1, 1)) ((List.range (n * 1)).map fun _ => .one (.int k 0)) l = some segs) (hZ1 : rowOk ((List.range (n * 1)).map fun _ => .one (.int k 0)) ((Array.range (n * 1)).map fun i => (Value.int k 0).cells[i % (Value.int k 0).cells.size]!) = true) (hi : intsOf k segs = some xs) (hxn : xs.length = n)
    (h0 : 0 < n * 1) {H' : Heap} (hH : H ++ [none] = H') : LOk P ⟨d, .buildSlice t n parts, ty, pos, af, g⟩ T H H' (.s (.fzi k xs)) [] [] :=
  lok_val' (a_bslI hps hl hbig hs hZ1 hi hxn h0 rfl rfl) (conv_sl (k := ⟨false, [.ints k n xs]⟩) (n := n) (hget_last _ _) rfl rfl (by omega) (Nat.le_refl _) hxn (by rw [List.drop_zero, ← hxn, List.take_length])) hH
theorem atS_ones : ∀ (vs : List SV) (i : Nat), atS (vs.map Seg.one) i = vs[i]?
  | [], i => by simp [atS]
  | v :: r, 0 => by simp [atS, Seg.size, Seg.at]
  | v :: r, i + 1 => by simp [atS, Seg.size, atS_ones r i]
class Zn (P : Program) (t : TypeId) : Prop where
  h : ∀ w, (zeroValue t).run P w = .ok (.slice none 0 0) w
theorem a_bslZ {t e : TypeId} {n : Nat} {parts : Array (Nat × Operand)} {ps : List (Nat × Operand)} {l : List (Nat × AV)} {segs : List Seg} (vs : List SV) (hps : parts.toList = ps) (hl : PartL T ps l) [hu : Und P t (.slice e)] [he : Sz P e 1] (hbig : n * 1 ≤ 16777216) [hz : Zn P e] (hs : fillS (fun i => some (i * 1, 1)) ((List.range (n * 1)).map fun _ => .one .nils) l = some segs) (hZ1 : rowOk ((List.range (n * 1)).map fun _ => .one .nils) ((Array.range (n * 1)).map fun i => (Value.slice none 0 0).cells[i % (Value.slice none 0 0).cells.size]!) = true) (hvs : segs = vs.map Seg.one) (hvn : vs.length = n) (hid : vs.all (SV.idB fun _ => false) = true)
    (h0 : 0 < n * 1) {H' : Heap} (hH : H ++ [none] = H') : LOk P ⟨d, .buildSlice t n parts, ty, pos, af, g⟩ T H H' (.s (.fz n 1 fun i _ => vs.getD i .nils)) [] [] :=
  lok_val' (l_bsl hps hl hu.h he.h hbig hz.h hZ1 hs h0 (fun _ _ h => h) rfl rfl) (conv_rows (k := ⟨false, segs⟩) (R := []) (hget_last _ _) rfl (Nat.le_refl _) fun i j hi hj => by
    have hj0 : j = 0 := by omega
    subst hj0
    have hiv : i < vs.length := by omega
    refine ⟨vs.getD i .nils, ?_, .same, ?_⟩
    · rw [hvs, show (0 + 0 + (i * 1 + 0)) = i by omega, atS_ones]; simp [hiv]
    · rw [List.all_eq_true] at hid
      rw [List.getD_eq_getElem?_getD, List.getElem?_eq_getElem hiv]
      exact hid _ (List.getElem_mem _)) hH
theorem a_copyI {x y : Operand} {t tx e rt : TypeId} {id base idx dl dc n m q : Nat} {k : IntKind} {u : SV} {segs : List Seg} {xs ys zz : List Int} {R : List Nat} {H' : Heap} (hx : ev T x = .s (.slice id base idx dl dc)) (hy : ev T y = .s u) (hb : hget H id = some ⟨true, segs⟩) (hsrc : ASrc P tx 1 R H u m [.ints k m ys]) (hn : min m dl = n)
    [hu : Und P t (.slice e)] [hs : Sz P e 1] (hsg : segAt segs base = some (.ints k q xs)) (h0 : 0 < n) (hq : idx + n ≤ q) (hz : ys.take n = zz) (hRi : ∀ i ∈ R, i < H.length) (hH : H.set id (some ⟨true, segSet segs base (.ints k q (spl xs zz idx n q))⟩) = H') :
    LOk P ⟨d, .call ⟨.builtin .copy, #[x, y], #[t, tx]⟩, rt, pos, af, g⟩ T H H' (.s (.int .i64 (n : Int))) (id :: R) [id] := by
  have hnm : n ≤ m := by omega
  refine l_copy hx hy hb hsrc hn hu.h hs.h (sub' := [.ints k (n * 1) zz]) (sub_ints rfl (by omega) (by rw [Nat.mul_one]; exact hz)) ?_ hRi hH
  have h1 : n * 1 = n := Nat.mul_one n
  rw [h1]
  exact PutS.ints h0 hsg hq
end
section kinds
variable {P : Program} {T : Tm} {H : Heap} {d : Option Tmp} {ty : TypeId} {pos : String} {af : Array Edge} {g : Option (Nat × Bool)} {v : AV} {H' : Heap} {F M : List Nat}
theorem k_bsf {t : TypeId} {n : Nat} {parts : Array (Nat × Operand)} (h : LOk P ⟨d, .buildSlice t n parts, ty, pos, af, g⟩ T H H' v [] [] := by
    first
    | exact a_bslF rfl (by first | exact .nil | exact (pc (k := .nil)) | exact (pc (k := (pc (k := .nil)))) | exact (pc (k := (pc (k := (pc (k := .nil)))))) | exact (pc (k := (pc (k := (pc (k := (pc (k := .nil)))))))) | exact (pc (k := (pc (k := (pc (k := (pc (k := (pc (k := .nil)))))))))) | exact (pc (k := (pc (k := (pc (k := (pc (k := (pc (k := (pc (k := .nil)))))))))))) | exact (pc (k := (pc (k := (pc (k := (pc (k := (pc (k := (pc (k := (pc (k := .nil)))))))))))))) | exact (pc (k := (pc (k := (pc (k := (pc (k := (pc (k := (pc (k := (pc (k := (pc (k := .nil)))))))))))))))) | exact (pc (k := (pc (k := (pc (k := (pc (k := (pc (k := (pc (k := (pc (k := (pc (k := (pc (k := .nil)))))))))))))))))) | exact (pc (k := (pc (k := (pc (k := (pc (k := (pc (k := (pc (k := (pc (k := (pc (k := (pc (k := (pc (k := .nil)))))))))))))))))))) | exact (pc (k := (pc (k := (pc (k := (pc (k := (pc (k := (pc (k := (pc (k := (pc (k := (pc (k := (pc (k := (pc (k := .nil)))))))))))))))))))))) | exact (pc (k := (pc (k := (pc (k := (pc (k := (pc (k := (pc (k := (pc (k := (pc (k := (pc (k := (pc (k := (pc (k := (pc (k := .nil))))))))))))))))))))))))) (by exact Nat.le_of_ble_eq_true rfl) (by exact rfl) (by kernel_rfl) (by exact rfl) (by exact rfl) (by exact Nat.le_of_ble_eq_true rfl) (by repeat (first | exact happ_0 | apply happ_s))) : LOk P ⟨d, .buildSlice t n parts, ty, pos, af, g⟩ T H H' v [] [] := h
theorem k_bsz {t e : TypeId} {n : Nat} {parts : Array (Nat × Operand)} {ps : List (Nat × Operand)} {l : List (Nat × AV)} {segs : List Seg} (vs : List SV) [hu : Und P t (.slice e)] [he : Sz P e 1] [hz : Zn P e] (hps : parts.toList = ps := by rfl) (hl : PartL T ps l := by first | exact .nil | exact (pc (k := .nil)) | exact (pc (k := (pc (k := .nil)))) | exact (pc (k := (pc (k := (pc (k := .nil)))))) | exact (pc (k := (pc (k := (pc (k := (pc (k := .nil)))))))) | exact (pc (k := (pc (k := (pc (k := (pc (k := (pc (k := .nil)))))))))) | exact (pc (k := (pc (k := (pc (k := (pc (k := (pc (k := (pc (k := .nil)))))))))))) | exact (pc (k := (pc (k := (pc (k := (pc (k := (pc (k := (pc (k := (pc (k := .nil)))))))))))))) | exact (pc (k := (pc (k := (pc (k := (pc (k := (pc (k := (pc (k := (pc (k := (pc (k := .nil)))))))))))))))) | exact (pc (k := (pc (k := (pc (k := (pc (k := (pc (k := (pc (k := (pc (k := (pc (k := (pc (k := .nil)))))))))))))))))) | exact (pc (k := (pc (k := (pc (k := (pc (k := (pc (k := (pc (k := (pc (k := (pc (k := (pc (k := (pc (k := .nil)))))))))))))))))))) | exact (pc (k := (pc (k := (pc (k := (pc (k := (pc (k := (pc (k := (pc (k := (pc (k := (pc (k := (pc (k := (pc (k := .nil)))))))))))))))))))))) | exact (pc (k := (pc (k := (pc (k := (pc (k := (pc (k := (pc (k := (pc (k := (pc (k := (pc (k := (pc (k := (pc (k := (pc (k := .nil))))))))))))))))))))))))) (hbig : n * 1 ≤ 16777216 := by exact Nat.le_of_ble_eq_true rfl) (hs : fillS (fun i => some (i * 1, 1)) ((List.range (n * 1)).map fun _ => .one .nils) l = some segs := by exact rfl) (hZ1 : rowOk ((List.range (n * 1)).map fun _ => .one .nils) ((Array.range (n * 1)).map fun i => (Value.slice none 0 0).cells[i % (Value.slice none 0 0).cells.size]!) = true := by kernel_rfl) (hvs : segs = vs.map Seg.one := by exact rfl) (hvn : vs.length = n := by exact rfl) (hid : vs.all (SV.idB fun _ => false) = true := by exact rfl) (h0 : 0 < n * 1 := by exact Nat.le_of_ble_eq_true rfl) (hH : H ++ [none] = H' := by repeat (first | exact happ_0 | apply happ_s)) : LOk P ⟨d, .buildSlice t n parts, ty, pos, af, g⟩ T H H' (.s (.fz n 1 fun i _ => vs.getD i .nils)) [] [] := a_bslZ vs hps hl hbig hs hZ1 hvs hvn hid h0 hH
theorem k_bxf {t : TypeId} {x : Operand} (h : LOk P ⟨d, .box t x, ty, pos, af, g⟩ T H H' v F M := by exact a_boxf rfl (by exact rfl) (by exact rfl) (by repeat (first | exact happ_0 | apply happ_s))) : LOk P ⟨d, .box t x, ty, pos, af, g⟩ T H H' v F M := h
theorem k_cpn (n : Nat) {x y : Operand} {t tx e rt : TypeId} {id base idx dl dc m q : Nat} {k : IntKind} {u : SV} {segs : List Seg} {xs ys zz : List Int} {R : List Nat} [hu : Und P t (.slice e)] [hs : Sz P e 1] (hx : ev T x = .s (.slice id base idx dl dc) := by rfl) (hy : ev T y = .s u := by rfl) (hb : hget H id = some ⟨true, segs⟩ := by rfl) (hsrc : ASrc P tx 1 R H u m [.ints k m ys] := by first | exact asrc_fzi Und.h | exact asrc_sl Und.h rfl (by first | exact .seg rfl rfl | exact .ints rfl (by omega)) | exact asrc_gro Und.h rfl (by first | exact .seg rfl rfl | exact .ints rfl (by omega))) (hn : min m dl = n := by first | omega | (simp; omega))
    (hsg : segAt segs base = some (.ints k q xs) := by rfl) (h0 : 0 < n := by omega) (hq : idx + n ≤ q := by omega) (hz : ys.take n = zz := by first | exact take_same | rfl) (hRi : ∀ i ∈ R, i < H.length := by first | exact fun _ h => (List.not_mem_nil h).elim | (intro i hi; simp at hi; subst hi; exact Nat.le_of_ble_eq_true rfl)) (hH : H.set id (some ⟨true, segSet segs base (.ints k q (spl xs zz idx n q))⟩) = H' := by exact hset_seg (by first | exact sset_0 | exact sset_s _ rfl rfl sset_0 | exact sset_s _ rfl rfl (sset_s _ rfl rfl sset_0) | exact sset_s _ rfl rfl (sset_s _ rfl rfl (sset_s _ rfl rfl sset_0)) | exact sset_s _ rfl rfl (sset_s _ rfl rfl (sset_s _ rfl rfl (sset_s _ rfl rfl sset_0))) | exact sset_s _ rfl rfl (sset_s _ rfl rfl (sset_s _ rfl rfl (sset_s _ rfl rfl (sset_s _ rfl rfl sset_0)))) | exact sset_s _ rfl rfl (sset_s _ rfl rfl (sset_s _ rfl rfl (sset_s _ rfl rfl (sset_s _ rfl rfl (sset_s _ rfl rfl sset_0))))) | exact sset_s _ rfl rfl (sset_s _ rfl rfl (sset_s _ rfl rfl (sset_s _ rfl rfl (sset_s _ rfl rfl (sset_s _ rfl rfl (sset_s _ rfl rfl sset_0)))))) | exact sset_s _ rfl rfl (sset_s _ rfl rfl (sset_s _ rfl rfl (sset_s _ rfl rfl (sset_s _ rfl rfl (sset_s _ rfl rfl (sset_s _ rfl rfl (sset_s _ rfl rfl sset_0)))))))) (by repeat (first | exact hset_0 | apply hset_s))) :
    LOk P ⟨d, .call ⟨.builtin .copy, #[x, y], #[t, tx]⟩, rt, pos, af, g⟩ T H H' (.s (.int .i64 (n : Int))) (id :: R) [id] := a_copyI hx hy hb hsrc hn hsg h0 hq hz hRi hH
theorem k_mk {t : TypeId} {x y : Operand} (h : LOk P ⟨d, .makeSlice t x y, ty, pos, af, g⟩ T H H' v F M := by exact a_make rfl rfl (by exact rfl) (by exact rfl) (by omega) (by first | (show 1 * _ ≤ _; omega) | (show 8 * _ ≤ _; omega) | (show 4 * _ ≤ _; omega) | (show 2 * _ ≤ _; omega)) (by omega) LenN.h (by repeat (first | exact happ_0 | apply happ_s))) : LOk P ⟨d, .makeSlice t x y, ty, pos, af, g⟩ T H H' v F M := h
end kinds
end Go.Bx
namespace Go.Bx
section
variable {P : Program} {T : Tm} {H : Heap} {d : Option Tmp} {ty : TypeId} {pos : String} {af : Array Edge} {g : Option (Nat × Bool)} {v : AV} {H' : Heap} {F M : List Nat}
theorem a_idx {t e : TypeId} {x i : Operand} {k k' : IntKind} {n j' : Nat} {j : Int} {l : List Int} (hx : ev T x = .agg [.ints k n l]) (hi : ev T i = .s (.int k' j)) [hu : Und P t (.array n e)] [hs : Sz P e 1] [ha : Ag P e false] [hjn : IsN j j'] (hj : j' < n) :
    LOk P ⟨d, .index t x i, ty, pos, af, g⟩ T H H (.s (.int k (l.getD j' 0))) [] [] :=
  lok_pure fun ρ a w ho => by
    obtain ⟨h1, h2⟩ := two (op := .index t x i) rfl ho hx hi
    obtain ⟨cs, e1, c1⟩ := agg_ints_cells h1
    rw [hjn.h] at h2
    have h2 : a.eval i = .int k' (j' : Int) := h2
    have hb : (0 : Int) ≤ (j' : Int) ∧ (j' : Int) < (n : Int) := by omega
    exact ⟨.int k (l.getD j' 0), by simp [execOp, e1, h2, Instr.index, Sem.run_bind, run_underlying hu.h, asIntOf, hb, hj, hs.h, ha.h, part, c1 j' hj], rfl⟩
theorem k_id {t : TypeId} {x i : Operand} (h : LOk P ⟨d, .index t x i, ty, pos, af, g⟩ T H H v [] [] := by exact a_idx rfl rfl (by omega)) : LOk P ⟨d, .index t x i, ty, pos, af, g⟩ T H H v [] [] := h
end
end Go.Bx
end
