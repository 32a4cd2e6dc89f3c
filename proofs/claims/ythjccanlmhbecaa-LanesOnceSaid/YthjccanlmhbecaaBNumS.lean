/- Numbers of 256 bits, told by what they are: words, halves, sums, differences, products. No program. -/
import Derived.Test.YthjccanlmhbecaaBxD
set_option linter.unusedVariables false
set_option linter.unusedSimpArgs false
open Go Go.Bx
namespace Go.Proofs.X
/-! ### Lists told place by place -/
theorem map_getD (f : Nat → Nat) (m j : Nat) (h : j < m) : ((List.range m).map f).getD j 0 = f j := by
  simp [List.getD_eq_getElem?_getD, h]
theorem eqD {l k : List Nat} (hl : l.length = k.length) (h : ∀ i, i < l.length → l.getD i 0 = k.getD i 0) : l = k := by
  apply List.ext_getElem hl
  intro i h1 h2
  have := h i h1
  simpa [List.getD_eq_getElem?_getD, h1, h2] using this
theorem setD (l : List Nat) (i v j : Nat) (hi : i < l.length) : (l.set i v).getD j 0 = if i = j then v else l.getD j 0 := by
  by_cases h : i = j
  · subst h; simp [List.getD_eq_getElem?_getD, hi]
  · simp [List.getD_eq_getElem?_getD, List.getElem?_set_ne h, h]
/-- f's first i, then g's, m in all. -/
def pf2 (f g : Nat → Nat) (m i : Nat) : List Nat := (List.range m).map fun j => if j < i then f j else g j
theorem pf2_len (f g : Nat → Nat) (m i : Nat) : (pf2 f g m i).length = m := by simp [pf2]
theorem pf2_getD (f g : Nat → Nat) (m i j : Nat) (h : j < m) : (pf2 f g m i).getD j 0 = if j < i then f j else g j := map_getD _ _ _ h
theorem pf2_0 (f g : Nat → Nat) (m : Nat) : pf2 f g m 0 = (List.range m).map g := by simp [pf2]
theorem pf2_at (f g : Nat → Nat) (m i : Nat) (h : i < m) : (pf2 f g m i).getD i 0 = g i := by rw [pf2_getD _ _ _ _ _ h]; simp
theorem pf2_m (f g : Nat → Nat) (m : Nat) : pf2 f g m m = (List.range m).map f := by
  unfold pf2
  apply List.map_congr_left
  intro j hj
  rw [if_pos (by simpa using hj)]
theorem pf2_eq (f g : Nat → Nat) (m i : Nat) (h : ∀ j, i ≤ j → j < m → g j = f j) : pf2 f g m i = (List.range m).map f := by
  unfold pf2
  apply List.map_congr_left
  intro j hj
  by_cases hji : j < i
  · rw [if_pos hji]
  · rw [if_neg hji, h j (by omega) (by simpa using hj)]
theorem pf2_set (f g : Nat → Nat) (m i x : Nat) (h : i < m) (hx : f i = x) : (pf2 f g m i).set i x = pf2 f g m (i + 1) := by
  apply eqD
  · simp [pf2]
  · intro j hj
    have hj : j < m := by simpa [pf2] using hj
    rw [setD _ _ _ _ (by rw [pf2_len]; exact h), pf2_getD _ _ _ _ _ hj, pf2_getD _ _ _ _ _ hj]
    by_cases h1 : i = j
    · subst h1; simp [hx]
    · rw [if_neg h1]
      by_cases h2 : j < i
      · rw [if_pos h2, if_pos (by omega)]
      · rw [if_neg h2, if_neg (by omega)]
/-! ### Digits -/
def dg (B n i : Nat) : Nat := n / B ^ i % B
def wd (n : Nat) : List Nat := (List.range 4).map (dg 18446744073709551616 n)
def hv (n : Nat) : List Nat := (List.range 8).map (dg 4294967296 n)
def hw (n : Nat) : List Nat := (List.range 16).map (dg 4294967296 n)
theorem wd_len (n : Nat) : (wd n).length = 4 := by simp [wd]
theorem hv_len (n : Nat) : (hv n).length = 8 := by simp [hv]
theorem hw_len (n : Nat) : (hw n).length = 16 := by simp [hw]
theorem wd_at (n i : Nat) (h : i < 4) : (wd n).getD i 0 = dg 18446744073709551616 n i := map_getD _ _ _ h
theorem hv_at (n i : Nat) (h : i < 8) : (hv n).getD i 0 = dg 4294967296 n i := map_getD _ _ _ h
theorem hw_at (n i : Nat) (h : i < 16) : (hw n).getD i 0 = dg 4294967296 n i := map_getD _ _ _ h
theorem dg_lt (B n i : Nat) (h : 0 < B) : dg B n i < B := Nat.mod_lt _ h
theorem and32 (n : Nat) : n &&& 4294967295 = n % 4294967296 := Nat.and_two_pow_sub_one_eq_mod n 32
theorem apart_step (n i : Nat) (h : i < 8) : dg 4294967296 n i = (wd n).getD (i / 2) 0 / 2 ^ (i % 2 * 32) &&& 4294967295 := by
  rw [and32, wd_at _ _ (by omega)]
  simp only [dg]
  match i, h with
  | 0, _ => simp <;> omega
  | 1, _ => simp <;> omega
  | 2, _ => simp <;> omega
  | 3, _ => simp <;> omega
  | 4, _ => simp <;> omega
  | 5, _ => simp <;> omega
  | 6, _ => simp <;> omega
  | 7, _ => simp <;> omega
theorem or_add (a b : Nat) (hb : b < 4294967296) : a * 4294967296 ||| b = a * 4294967296 + b := by
  have := (Nat.two_pow_add_eq_or_of_lt (i := 32) hb a).symm
  rw [show (2 : Nat) ^ 32 = 4294967296 from rfl, Nat.mul_comm] at this
  exact this
theorem whole_step (n i : Nat) (h : i < 4) : dg 18446744073709551616 n i = (((hv n).getD (2 * i + 1) 0) * 2 ^ 32 % 18446744073709551616) ||| (hv n).getD (2 * i) 0 := by
  rw [hv_at _ _ (by omega), hv_at _ _ (by omega)]
  have h1 := dg_lt 4294967296 n (2 * i) (by omega)
  have h2 := dg_lt 4294967296 n (2 * i + 1) (by omega)
  rw [Nat.mod_eq_of_lt (by omega), show (2 : Nat) ^ 32 = 4294967296 from rfl, or_add _ _ h1]
  clear h1 h2
  simp only [dg]
  match i, h with
  | 0, _ => simp <;> omega
  | 1, _ => simp <;> omega
  | 2, _ => simp <;> omega
  | 3, _ => simp <;> omega
/-- Of four words: the number. -/
def val (l : List Nat) : Nat := l.getD 0 0 + 18446744073709551616 * (l.getD 1 0 + 18446744073709551616 * (l.getD 2 0 + 18446744073709551616 * l.getD 3 0))
def B64 (x : List Nat) : Prop := ∀ i, x.getD i 0 < 18446744073709551616
theorem val_lt (l : List Nat) (h : B64 l) : val l < 2 ^ 256 := by
  have h0 := h 0
  have h1 := h 1
  have h2 := h 2
  have h3 := h 3
  unfold val
  omega
theorem wd_val (l : List Nat) (hl : l.length = 4) (h : B64 l) : wd (val l) = l := by
  apply eqD (by rw [wd_len, hl])
  intro i hi
  rw [wd_len] at hi
  rw [wd_at _ _ hi]
  have h0 := h 0
  have h1 := h 1
  have h2 := h 2
  have h3 := h 3
  match l, hl with
  | [a, b, c, d], _ =>
    unfold dg val
    simp at h0 h1 h2 h3
    match i, hi with
    | 0, _ => simp <;> omega
    | 1, _ => simp <;> omega
    | 2, _ => simp <;> omega
    | 3, _ => simp <;> omega
theorem val_wd (n : Nat) (h : n < 2 ^ 256) : val (wd n) = n := by
  unfold val
  rw [wd_at _ _ (by omega), wd_at _ _ (by omega), wd_at _ _ (by omega), wd_at _ _ (by omega)]
  unfold dg
  simp
  omega
theorem wd_mod (n : Nat) : wd (n % 2 ^ 256) = wd n := by
  apply eqD (by rw [wd_len, wd_len])
  intro i hi
  rw [wd_len] at hi
  rw [wd_at _ _ hi, wd_at _ _ hi]
  unfold dg
  match i, hi with
  | 0, _ => simp <;> omega
  | 1, _ => simp <;> omega
  | 2, _ => simp <;> omega
  | 3, _ => simp <;> omega
theorem wd_B64 (n : Nat) : B64 (wd n) := by
  intro i
  by_cases h : i < 4
  · rw [wd_at _ _ h]; exact dg_lt _ _ _ (by omega)
  · rw [List.getD_eq_getElem?_getD, List.getElem?_eq_none (by rw [wd_len]; omega)]; simp
theorem wd_inj {a b : Nat} (ha : a < 2 ^ 256) (hb : b < 2 ^ 256) : wd a = wd b ↔ a = b :=
  ⟨fun h => by rw [← val_wd a ha, h, val_wd b hb], fun h => by rw [h]⟩
theorem hv_inj {a b : Nat} (ha : a < 2 ^ 256) (hb : b < 2 ^ 256) : hv a = hv b ↔ a = b := by
  refine ⟨fun h => ?_, fun h => by rw [h]⟩
  have g : ∀ i, i < 8 → dg 4294967296 a i = dg 4294967296 b i := fun i hi => by rw [← hv_at _ _ hi, h, hv_at _ _ hi]
  have h0 := g 0 (by omega)
  have h1 := g 1 (by omega)
  have h2 := g 2 (by omega)
  have h3 := g 3 (by omega)
  have h4 := g 4 (by omega)
  have h5 := g 5 (by omega)
  have h6 := g 6 (by omega)
  have h7 := g 7 (by omega)
  unfold dg at *
  simp at *
  omega
/-! ### Compared, from the highest half down -/
theorem dg_split (B n i : Nat) : n / B ^ i = n / B ^ (i + 1) * B + dg B n i := by
  unfold dg
  rw [Nat.pow_succ, ← Nat.div_div_eq_div_mul, Nat.mul_comm]
  exact (Nat.div_add_mod _ _).symm
theorem cmp_up {B a b i : Nat} (h : a / B ^ (i + 1) = b / B ^ (i + 1)) (hd : dg B a i = dg B b i) : a / B ^ i = b / B ^ i := by
  rw [dg_split, dg_split B b, h, hd]
theorem cmp_lt {B a b i : Nat} (h : a / B ^ (i + 1) = b / B ^ (i + 1)) (hd : dg B a i < dg B b i) : a < b := by
  have : a / B ^ i < b / B ^ i := by rw [dg_split, dg_split B b, h]; omega
  exact Nat.lt_of_not_le fun hle => absurd (Nat.div_le_div_right (c := B ^ i) hle) (by omega)
/-- -1, 0 or 1. -/
def cmpI (a b : Nat) : Int := if a = b then 0 else if a < b then -1 else 1
/-! ### Sums, with what goes beyond -/
def cy (B a b c i : Nat) : Nat := (a % B ^ i + b % B ^ i + c) / B ^ i
theorem mod_succ (B n i : Nat) : n % B ^ (i + 1) = n % B ^ i + B ^ i * dg B n i := by
  unfold dg
  rw [Nat.pow_succ]; exact Nat.mod_mul ..
theorem cy_split (B a b c i : Nat) (hB : 0 < B) : (a % B ^ (i + 1) + b % B ^ (i + 1) + c) / B ^ i = cy B a b c i + (dg B a i + dg B b i) := by
  unfold cy
  have hp : 0 < B ^ i := Nat.pow_pos hB
  rw [mod_succ, mod_succ, show a % B ^ i + B ^ i * dg B a i + (b % B ^ i + B ^ i * dg B b i) + c = (a % B ^ i + b % B ^ i + c) + B ^ i * (dg B a i + dg B b i) by rw [Nat.mul_add]; omega, Nat.add_mul_div_left _ _ hp]
theorem cy_succ (B a b c i : Nat) (hB : 0 < B) : (cy B a b c i + (dg B a i + dg B b i)) / B = cy B a b c (i + 1) := by
  rw [← cy_split B a b c i hB, Nat.div_div_eq_div_mul, ← Nat.pow_succ]; rfl
theorem cy_dg (B a b c i : Nat) (hB : 0 < B) : (cy B a b c i + (dg B a i + dg B b i)) % B = dg B (a + b + c) i := by
  rw [← cy_split B a b c i hB]
  unfold dg
  have hp : 0 < B ^ i := Nat.pow_pos hB
  have ha := Nat.mod_add_div a (B ^ (i + 1))
  have hb := Nat.mod_add_div b (B ^ (i + 1))
  have e : a + b + c = (a % B ^ (i + 1) + b % B ^ (i + 1) + c) + B ^ i * (B * (a / B ^ (i + 1) + b / B ^ (i + 1))) := by
    have e1 : B ^ i * (B * (a / B ^ (i + 1) + b / B ^ (i + 1))) = B ^ (i + 1) * (a / B ^ (i + 1)) + B ^ (i + 1) * (b / B ^ (i + 1)) := by
      rw [← Nat.mul_add, Nat.pow_succ, Nat.mul_assoc]
    rw [e1]; omega
  generalize a % B ^ (i + 1) + b % B ^ (i + 1) + c = s at e
  rw [e, Nat.add_mul_div_left _ _ hp, Nat.add_mul_mod_self_left]
theorem cy_0 (B a b c : Nat) : cy B a b c 0 = c := by simp [cy, Nat.mod_one]
theorem cy_lt (B a b c i : Nat) (hB : 0 < B) (hc : c ≤ 1) : cy B a b c i ≤ 1 := by
  unfold cy
  have hp : 0 < B ^ i := Nat.pow_pos hB
  have h1 := Nat.mod_lt a hp
  have h2 := Nat.mod_lt b hp
  have : (a % B ^ i + b % B ^ i + c) / B ^ i < 2 := by
    apply Nat.div_lt_of_lt_mul
    omega
  omega
theorem cy_8 (a b c : Nat) (ha : a < 2 ^ 256) (hb : b < 2 ^ 256) : cy 4294967296 a b c 8 = (a + b + c) / 2 ^ 256 := by
  unfold cy
  have e : (4294967296 : Nat) ^ 8 = 2 ^ 256 := rfl
  rw [e, Nat.mod_eq_of_lt ha, Nat.mod_eq_of_lt hb]
theorem not_dg (b i : Nat) (hb : b < 2 ^ 256) (h : i < 8) : 4294967295 - dg 4294967296 b i = dg 4294967296 (2 ^ 256 - 1 - b) i := by
  simp only [dg]
  match i, h with
  | 0, _ => simp <;> omega
  | 1, _ => simp <;> omega
  | 2, _ => simp <;> omega
  | 3, _ => simp <;> omega
  | 4, _ => simp <;> omega
  | 5, _ => simp <;> omega
  | 6, _ => simp <;> omega
  | 7, _ => simp <;> omega
/-! ### Products: a number more, at a place -/
/-- What goes beyond, at place p. -/
def my (B v n at_ p : Nat) : Nat := (v % B ^ p + n * B ^ at_) / B ^ p
theorem my_at (B v n at_ : Nat) (hB : 0 < B) : my B v n at_ at_ = n := by
  unfold my
  have hp : 0 < B ^ at_ := Nat.pow_pos hB
  rw [Nat.add_mul_div_right _ _ hp, Nat.div_eq_of_lt (Nat.mod_lt _ hp), Nat.zero_add]
theorem my_split (B v n at_ p : Nat) (hB : 0 < B) : (v % B ^ (p + 1) + n * B ^ at_) / B ^ p = my B v n at_ p + dg B v p := by
  unfold my
  have hp : 0 < B ^ p := Nat.pow_pos hB
  rw [mod_succ, show v % B ^ p + B ^ p * dg B v p + n * B ^ at_ = (v % B ^ p + n * B ^ at_) + B ^ p * dg B v p by omega, Nat.add_mul_div_left _ _ hp]
theorem my_succ (B v n at_ p : Nat) (hB : 0 < B) : (my B v n at_ p + dg B v p) / B = my B v n at_ (p + 1) := by
  rw [← my_split B v n at_ p hB, Nat.div_div_eq_div_mul, ← Nat.pow_succ]; rfl
theorem my_dg (B v n at_ p : Nat) (hB : 0 < B) : (my B v n at_ p + dg B v p) % B = dg B (v + n * B ^ at_) p := by
  rw [← my_split B v n at_ p hB]
  unfold dg
  have hp : 0 < B ^ p := Nat.pow_pos hB
  have hv := Nat.mod_add_div v (B ^ (p + 1))
  have e : v + n * B ^ at_ = (v % B ^ (p + 1) + n * B ^ at_) + B ^ p * (B * (v / B ^ (p + 1))) := by
    have e1 : B ^ p * (B * (v / B ^ (p + 1))) = B ^ (p + 1) * (v / B ^ (p + 1)) := by
      conv => rhs; rw [Nat.pow_succ]
      rw [Nat.mul_assoc, ← Nat.pow_succ]
    rw [e1]; omega
  generalize v % B ^ (p + 1) + n * B ^ at_ = s at e
  rw [e, Nat.add_mul_div_left _ _ hp, Nat.add_mul_mod_self_left]
/-- Below the place nothing turns; from where nothing goes beyond, neither. -/
theorem dg_below (B v n at_ j : Nat) (hB : 0 < B) (h : j < at_) : dg B (v + n * B ^ at_) j = dg B v j := by
  unfold dg
  have hp : 0 < B ^ j := Nat.pow_pos hB
  have e : n * B ^ at_ = B ^ j * (B * (n * B ^ (at_ - j - 1))) := by
    rw [show at_ = j + (1 + (at_ - j - 1)) by omega, Nat.pow_add, Nat.pow_add, Nat.pow_one, show j + (1 + (at_ - j - 1)) - j - 1 = at_ - j - 1 by omega]
    simp only [Nat.mul_left_comm]
  rw [e, Nat.add_mul_div_left _ _ hp, Nat.add_mul_mod_self_left]
theorem my_0 (B v n at_ p j : Nat) (hB : 0 < B) (h : my B v n at_ p = 0) (hj : p ≤ j) : dg B v j = dg B (v + n * B ^ at_) j := by
  unfold dg
  have hp : 0 < B ^ p := Nat.pow_pos hB
  have h1 : v % B ^ p + n * B ^ at_ < B ^ p := by
    unfold my at h
    exact (Nat.div_eq_zero_iff_lt hp).1 h
  have e : (v + n * B ^ at_) / B ^ p = v / B ^ p := by
    have hv := Nat.mod_add_div v (B ^ p)
    rw [show v + n * B ^ at_ = (v % B ^ p + n * B ^ at_) + B ^ p * (v / B ^ p) by omega, Nat.add_mul_div_left _ _ hp, Nat.div_eq_of_lt h1, Nat.zero_add]
  rw [show j = p + (j - p) by omega, Nat.pow_add, ← Nat.div_div_eq_div_mul, ← Nat.div_div_eq_div_mul, e]
theorem my_top (v n at_ : Nat) (h : v + n * 4294967296 ^ at_ < 4294967296 ^ 16) : my 4294967296 v n at_ 16 = 0 := by
  unfold my
  apply Nat.div_eq_of_lt
  have := Nat.mod_le v (4294967296 ^ 16)
  omega
theorem hw_lo (v : Nat) : (hw v).take 8 = hv v := by
  unfold hw hv
  rw [← List.map_take]; rfl
theorem hw_hi (v : Nat) : (hw v).drop 8 = hv (v / 2 ^ 256) := by
  apply eqD
  · simp [hw, hv]
  · intro i hi
    have hi : i < 8 := by simpa [hw] using hi
    rw [hv_at _ _ hi]
    have : ((hw v).drop 8).getD i 0 = (hw v).getD (8 + i) 0 := by
      simp [List.getD_eq_getElem?_getD, List.getElem?_drop]
    rw [this, hw_at _ _ (by omega)]
    unfold dg
    rw [Nat.pow_add, ← Nat.div_div_eq_div_mul]
end Go.Proofs.X
