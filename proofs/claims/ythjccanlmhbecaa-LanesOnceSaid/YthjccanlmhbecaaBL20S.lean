/- What LanesOnce reckons. No program. -/
import Derived.Test.YthjccanlmhbecaaBLaneP
import Derived.Test.YthjccanlmhbecaaBxE
set_option linter.unusedVariables false
set_option linter.unusedSimpArgs false
open Go Go.Bx
namespace Go.Proofs.X
def M20 : List Int := 1 :: List.replicate 31 0
def C20 : List Int := 2 :: List.replicate 15 0
theorem M20_len : M20.length = 32 := rfl
theorem C20_len : C20.length = 16 := rfl
theorem C20_U8 : U8 C20 := U8_app (A := [2]) (fun i => by match i with | 0 => exact ⟨by decide, by decide⟩ | i + 1 => simp) (U8'_rep 15)
/-- How much is counted so far. -/
def recS (L : List (List Int)) : Nat → Int
  | 0 => (L.length : Int)
  | i + 1 => IntKind.i64.wrap (recS L i + ((L.getD i []).length : Int))
def recP (L : List (List Int)) (i : Nat) : Prop := ¬ (i < L.length ∧ recS L i ≤ 1048576)
theorem least {p : Nat → Prop} {n : Nat} (h : p n) : ∃ i, i ≤ n ∧ p i ∧ ∀ j, j < i → ¬ p j := by
  induction n using Nat.strongRecOn with
  | _ n ih =>
    by_cases hj : ∃ j, j < n ∧ p j
    · obtain ⟨j, h1, h2⟩ := hj
      obtain ⟨i, a, b, c⟩ := ih j h1 h2
      exact ⟨i, by omega, b, c⟩
    · exact ⟨n, Nat.le_refl _, h, fun j h1 h2 => hj ⟨j, h1, h2⟩⟩
theorem rec_least (L : List (List Int)) : ∃ i, i ≤ L.length ∧ recP L i ∧ ∀ j, j < i → ¬ recP L j := least (p := recP L) (fun h => absurd h.1 (Nat.lt_irrefl _))
/-- What is sealed, one behind the other. -/
abbrev SG (M C : List Int) (L : List (List Int)) : Nat → Nat → SV := fun k _ => .fzi .u8 (sealB M C 9 (k + 1) (L.getD k []))
/-- What came, in marks and in the window: x + 1 is at its place if x came. -/
structure Cw (c q : List Nat) (h n : Nat) : Prop where
  cl : c.length = 64
  ql : q.length = 64
  at_ : ∀ x, x < 64 → c.getD x 0 ≤ 1 ∧ q.getD ((x + 1) % 64) 0 = if c.getD x 0 = 1 then x + 1 else 0
  h : h ≤ 64
  n : n = c.sum
theorem repD (n i : Nat) : (List.replicate n (0 : Nat)).getD i 0 = 0 := by
  by_cases h : i < n
  · simp [List.getD_eq_getElem?_getD, h]
  · simp [List.getD_eq_getElem?_getD, h]
theorem cw_0 : Cw (List.replicate 64 0) (List.replicate 64 0) 0 0 := ⟨rfl, rfl, fun x hx => by rw [repD, repD, if_neg (by omega)]; exact ⟨by omega, rfl⟩, by omega, by decide⟩
theorem cw_there {c q : List Nat} {h n : Nat} (w : Cw c q h n) {x : Nat} (hx : x < 64) (hc : c.getD x 0 = 1) : fitsW q h (x + 1) = 8 := by
  have h1 := (w.at_ x hx).2
  rw [if_pos hc] at h1
  have := w.h
  unfold fitsW
  rw [if_neg (by omega), if_neg (by omega), if_pos h1]
theorem cw_new {c q : List Nat} {h n : Nat} (w : Cw c q h n) {x : Nat} (hx : x < 64) (hc : c.getD x 0 ≠ 1) : fitsW q h (x + 1) = 0 := by
  have h1 := (w.at_ x hx).2
  rw [if_neg hc] at h1
  have := w.h
  unfold fitsW
  rw [if_neg (by omega), if_neg (by omega), if_neg (by omega)]
theorem sum_set (c : List Nat) (x : Nat) (hx : x < c.length) (hc : c.getD x 0 = 0) : (c.set x 1).sum = c.sum + 1 := by
  induction c generalizing x with
  | nil => simp at hx
  | cons a c ih =>
    cases x with
    | zero => simp at hc; subst hc; simp; omega
    | succ x => simp at hc hx ⊢; rw [ih x hx (by simpa using hc)]; omega
theorem cw_set {c q : List Nat} {h n : Nat} (w : Cw c q h n) {x : Nat} (hx : x < 64) (hc : c.getD x 0 ≠ 1) : Cw (c.set x 1) (q.set ((x + 1) % 64) (x + 1)) (max h (x + 1)) (n + 1) := by
  have hc0 : c.getD x 0 = 0 := by have := (w.at_ x hx).1; omega
  refine ⟨by simp [w.cl], by simp [w.ql], fun y hy => ?_, by have := w.h; omega, by rw [sum_set c x (by rw [w.cl]; exact hx) hc0, w.n]⟩
  rw [setD _ _ _ _ (by rw [w.cl]; exact hx), setD _ _ _ _ (by rw [w.ql]; omega)]
  by_cases h1 : x = y
  · subst h1
    rw [if_pos rfl, if_pos rfl, if_pos rfl]; exact ⟨by omega, rfl⟩
  · rw [if_neg h1, if_neg (by omega)]; exact w.at_ y hy
/-- All came: as many as there are. -/
theorem sum_all (c : List Nat) (m : Nat) (hm : m ≤ c.length) (h1 : ∀ x, x < m → c.getD x 0 = 1) (h0 : ∀ x, m ≤ x → c.getD x 0 = 0) : c.sum = m := by
  induction c generalizing m with
  | nil => simp at hm; subst hm; rfl
  | cons a c ih =>
    cases m with
    | zero =>
      have : (a :: c) = List.replicate (c.length + 1) 0 := by
        apply eqD (by simp)
        intro i hi
        rw [h0 i (by omega)]
        have hi : i < c.length + 1 := by simpa using hi
        simp [List.getD_eq_getElem?_getD, hi]
      rw [this]; simp
    | succ m =>
      have ha := h1 0 (by omega)
      simp at ha
      have := ih m (by simpa using hm) (fun x hx => by simpa using h1 (x + 1) (by omega)) (fun x hx => by simpa using h0 (x + 1) (by omega))
      simp [ha, this]; omega
/-- Beyond as many as there are, nothing came; those of the last round did. -/
structure Cl (c : List Nat) (m r : Nat) : Prop where
  out : ∀ x, m ≤ x → c.getD x 0 = 0
  in_ : ∀ x, x < r → c.getD x 0 = 1
theorem cl_0 (m : Nat) : Cl (List.replicate 64 0) m 0 := ⟨fun x _ => repD _ _, fun x hx => absurd hx (Nat.not_lt_zero _)⟩
theorem Cl.set {c : List Nat} {m r x : Nat} (w : Cl c m r) (hx : x < m) (hl : x < c.length) : Cl (c.set x 1) m r := ⟨fun y hy => by rw [setD _ _ _ _ hl, if_neg (by omega)]; exact w.out y hy, fun y hy => by rw [setD _ _ _ _ hl]; split; rfl; exact w.in_ y hy⟩
theorem Cl.up {c : List Nat} {m r : Nat} (w : Cl c m r) (h : c.getD r 0 = 1) : Cl c m (r + 1) := ⟨w.out, fun y hy => by
  by_cases e : y = r
  · subst e; exact h
  · exact w.in_ y (by omega)⟩
end Go.Proofs.X
