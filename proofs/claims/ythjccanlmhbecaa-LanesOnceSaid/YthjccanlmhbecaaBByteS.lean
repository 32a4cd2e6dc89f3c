/- Numbers as bytes, the highest first: what is put, what is read. No program. -/
import Derived.Test.YthjccanlmhbecaaBNumS
import Derived.Test.YthjccanlmhbecaaBRowS
import Derived.Test.YthjccanlmhbecaaBShaS2
set_option linter.unusedVariables false
set_option linter.unusedSimpArgs false
open Go Go.Bx
namespace Go.Proofs.X
theorem eqI {l k : List Int} (hl : l.length = k.length) (h : ∀ i, i < l.length → l.getD i 0 = k.getD i 0) : l = k := by
  apply List.ext_getElem hl
  intro i h1 h2
  have := h i h1
  simpa [List.getD_eq_getElem?_getD, h1, h2] using this
theorem getD_app (A B : List Int) (i : Nat) : (A ++ B).getD i 0 = if i < A.length then A.getD i 0 else B.getD (i - A.length) 0 := by
  by_cases h : i < A.length
  · simp [List.getD_eq_getElem?_getD, List.getElem?_append_left h, h]
  · simp [List.getD_eq_getElem?_getD, List.getElem?_append_right (Nat.le_of_not_lt h), h]
theorem getD_rep (n i : Nat) : (List.replicate n (0 : Int)).getD i 0 = 0 := by
  by_cases h : i < n
  · simp [List.getD_eq_getElem?_getD, h]
  · simp [List.getD_eq_getElem?_getD, h]
theorem getD_take' (l : List Int) (n i : Nat) (h : i < n) : (l.take n).getD i 0 = l.getD i 0 := by
  simp [List.getD_eq_getElem?_getD, List.getElem?_take, h]
theorem getD_drop' (l : List Int) (n i : Nat) : (l.drop n).getD i 0 = l.getD (n + i) 0 := by
  simp [List.getD_eq_getElem?_getD, List.getElem?_drop]
theorem setDI (l : List Int) (i : Nat) (v : Int) (j : Nat) (hi : i < l.length) : (l.set i v).getD j 0 = if i = j then v else l.getD j 0 := by
  by_cases h : i = j
  · subst h; simp [List.getD_eq_getElem?_getD, hi]
  · simp [List.getD_eq_getElem?_getD, List.getElem?_set_ne h, h]
theorem eqI_n {l k : List Int} (n : Nat) (hl : l.length = n) (hk : k.length = n) (h : ∀ i, i < n → l.getD i 0 = k.getD i 0) : l = k := eqI (hl.trans hk.symm) fun i hi => h i (hl ▸ hi)
/-- What is copied over the front, a middle, the end. -/
theorem spl_app (A Y Z : List Int) (a n m : Nat) (ha : A.length = a) (hn : Y.length = n) (hm : a + n ≤ m) (hz : A.length + Z.length = m) : spl (A ++ Z) Y a n m = A ++ Y ++ Z.drop n := by
  refine eqI_n m (Bx.spl_len _ _ _ _ _) (by simp; omega) fun i hi => ?_
  rw [spl_getD _ _ _ _ _ _ hi, getD_app, getD_app, getD_app, getD_drop', List.length_append]
  by_cases h1 : i < a
  · rw [if_neg (by omega), if_pos (by omega), if_pos (by omega), if_pos (by omega)]
  · by_cases h2 : i < a + n
    · rw [if_pos (by omega), if_pos (by omega), if_neg (by omega), ha]
    · rw [if_neg (by omega), if_neg (by omega), if_neg (by omega), ha, hn]
      congr 1; omega
/-- n bytes, the highest first. -/
def beN (n v : Nat) : List Nat := (List.range n).map fun i => v / 256 ^ (n - 1 - i) % 256
def be (n v : Nat) : List Int := zs (beN n v)
theorem be_len (n v : Nat) : (be n v).length = n := by simp [be, beN, zs]
theorem be_get (n v i : Nat) (h : i < n) : (be n v).getD i 0 = ((v / 256 ^ (n - 1 - i) % 256 : Nat) : Int) := by
  unfold be beN
  rw [zs_getD, map_getD _ _ _ h]
theorem wrap8 (v : Nat) : IntKind.u8.wrap (v : Int) = ((v % 256 : Nat) : Int) := by
  unfold IntKind.wrap; simp [IntKind.bits, IntKind.signed]
theorem wrap64' {v : Nat} (h : v < 18446744073709551616) : IntKind.u64.wrap (v : Int) = (v : Int) := by
  unfold IntKind.wrap; simp [IntKind.bits, IntKind.signed]; omega
theorem rb_n (out : List Int) (at_ v : Nat) (hv : v < 18446744073709551616) (ha : at_ ≤ out.length) (j : Nat) (hj : j ≤ at_) : (rb out at_ (v : Int) j).2 = ((v / 256 ^ j : Nat) : Int) ∧ ∀ i, (rb out at_ (v : Int) j).1.getD i 0 = if at_ - j ≤ i ∧ i < at_ then ((v / 256 ^ (at_ - 1 - i) % 256 : Nat) : Int) else out.getD i 0 := by
  induction j with
  | zero => exact ⟨by simp [rb], fun i => by rw [if_neg (by omega)]; rfl⟩
  | succ j ih =>
    obtain ⟨h1, h2⟩ := ih (by omega)
    constructor
    · rw [rb, h1]
      show IntKind.u64.wrap ((((v / 256 ^ j : Nat) : Int)).tdiv ((256 : Nat) : Int)) = _
      rw [show (((v / 256 ^ j : Nat) : Int)).tdiv ((256 : Nat) : Int) = ((v / 256 ^ j / 256 : Nat) : Int) from rfl, Nat.div_div_eq_div_mul, ← Nat.pow_succ, wrap64' (Nat.lt_of_le_of_lt (Nat.div_le_self _ _) hv)]
    · intro i
      rw [rb, h1, wrap8]
      show ((rb out at_ (v : Int) j).1.set (at_ - (j + 1)) _).getD i 0 = _
      rw [setDI _ _ _ _ (by rw [rb_len]; omega), h2]
      by_cases h : at_ - (j + 1) = i
      · rw [if_pos h, if_pos (by omega), show at_ - 1 - i = j by omega]
      · rw [if_neg h]
        by_cases h3 : at_ - j ≤ i ∧ i < at_
        · rw [if_pos h3, if_pos (by omega)]
        · rw [if_neg h3, if_neg (by omega)]
/-- Words put behind each other, from the end. -/
theorem rr_n (tot each N : Nat) (ws : List Nat) (h64 : B64 ws) (he : 0 < each) (k : Nat) (hk : each * k ≤ tot) (i : Nat) (hi : i < tot) : (rr tot each N (zs ws) k).getD i 0 = if tot - 1 - i < each * k then ((ws.getD (N - 1 - (tot - 1 - i) / each) 0 / 256 ^ ((tot - 1 - i) % each) % 256 : Nat) : Int) else 0 := by
  induction k with
  | zero => rw [if_neg (by omega), rr, getD_rep]
  | succ k ih =>
    rw [Nat.mul_succ] at hk
    rw [rr, zs_getD, (rb_n _ _ _ (h64 _) (by rw [rr_len]; omega) each (by omega)).2, ih (by omega), Nat.mul_succ]
    by_cases h1 : tot - 1 - i < each * k
    · rw [if_neg (by omega), if_pos h1, if_pos (by omega)]
    · rw [if_neg h1]
      by_cases h2 : tot - each * k - each ≤ i ∧ i < tot - each * k
      · rw [if_pos h2, if_pos (by omega)]
        have e1 : (tot - 1 - i) / each = k := by
          rw [Nat.div_eq_iff he]
          rw [Nat.mul_comm] at h1 h2
          omega
        have e2 : (tot - 1 - i) % each = tot - each * k - 1 - i := by
          have := Nat.div_add_mod (tot - 1 - i) each
          rw [e1] at this
          omega
        rw [e1, e2]
      · rw [if_neg h2, if_neg (by omega)]
/-- One number put behind bytes. -/
theorem rowL_1 (B : List Int) (n v : Nat) (hn : 0 < n) (hv : v < 18446744073709551616) : rowL (B.length + n) B B.length n 1 [(v : Int)] = B ++ be n v := by
  have h64 : B64 [v] := fun i => by
    match i with
    | 0 => simpa using hv
    | i + 1 => simp
  have hr : ∀ i, i < B.length + n → (rr (B.length + n) n 1 [(v : Int)] 1).getD i 0 = if i < B.length then 0 else (be n v).getD (i - B.length) 0 := fun i hi => by
    have := rr_n (B.length + n) n 1 [v] h64 hn 1 (by omega) i hi
    rw [show zs [v] = [(v : Int)] from rfl] at this
    rw [this]
    by_cases h : i < B.length
    · rw [if_pos h, if_neg (by omega)]
    · rw [if_neg h, if_pos (by omega), be_get _ _ _ (by omega), show (B.length + n - 1 - i) / n = 0 from Nat.div_eq_of_lt (by omega), show (B.length + n - 1 - i) % n = n - 1 - (i - B.length) by rw [Nat.mod_eq_of_lt (by omega)]; omega]
      rfl
  refine eqI_n (B.length + n) (rowL_len _ _ _ _ _ _) (by simp [be_len]) fun i hi => ?_
  unfold rowL
  rw [getD_app]
  by_cases h0 : B.length = 0
  · rw [if_pos h0, hr i hi, if_neg (by omega), if_neg (by omega)]
  · rw [if_neg h0, spl_getD _ _ _ _ _ _ hi, hr i hi, List.take_length]
    by_cases h : i < B.length
    · rw [if_pos (by omega), if_pos h]; rfl
    · rw [if_neg (by omega), if_neg h, if_neg h]
/-- A great number put behind bytes. -/
theorem rowL_4 (B : List Int) (v : Nat) : rowL (B.length + 8 * 4) B B.length 8 4 (zs [(wd v).getD 3 0, (wd v).getD 2 0, (wd v).getD 1 0, (wd v).getD 0 0]) = B ++ be 32 v := by
  have h64 : B64 [(wd v).getD 3 0, (wd v).getD 2 0, (wd v).getD 1 0, (wd v).getD 0 0] := fun i => by
    match i with
    | 0 => exact wd_B64 v 3
    | 1 => exact wd_B64 v 2
    | 2 => exact wd_B64 v 1
    | 3 => exact wd_B64 v 0
    | i + 4 => simp
  have hd : ∀ q, q < 4 → [(wd v).getD 3 0, (wd v).getD 2 0, (wd v).getD 1 0, (wd v).getD 0 0].getD (3 - q) 0 = v / 18446744073709551616 ^ q % 18446744073709551616 := fun q hq => by
    rw [wd_at _ _ (by omega), wd_at _ _ (by omega), wd_at _ _ (by omega), wd_at _ _ (by omega)]
    match q, hq with
    | 0, _ => rfl
    | 1, _ => rfl
    | 2, _ => rfl
    | 3, _ => rfl
  have hr : ∀ i, i < B.length + 8 * 4 → (rr (B.length + 8 * 4) 8 4 (zs [(wd v).getD 3 0, (wd v).getD 2 0, (wd v).getD 1 0, (wd v).getD 0 0]) 4).getD i 0 = if i < B.length then 0 else (be 32 v).getD (i - B.length) 0 := fun i hi => by
    rw [rr_n _ _ _ _ h64 (by omega) 4 (by omega) i hi]
    by_cases h : i < B.length
    · rw [if_pos h, if_neg (by omega)]
    · rw [if_neg h, if_pos (by omega), be_get _ _ _ (by omega), show 4 - 1 - (B.length + 8 * 4 - 1 - i) / 8 = 3 - (B.length + 8 * 4 - 1 - i) / 8 by omega, hd _ (by omega), show 32 - 1 - (i - B.length) = B.length + 8 * 4 - 1 - i by omega]
      congr 1
      generalize B.length + 8 * 4 - 1 - i = p
      have e1 : (18446744073709551616 : Nat) ^ (p / 8) = 256 ^ (8 * (p / 8)) := by rw [Nat.pow_mul]
      have hp : p % 8 < 8 := Nat.mod_lt _ (by omega)
      have e2 : (18446744073709551616 : Nat) = 256 ^ (p % 8) * (256 * 256 ^ (7 - p % 8)) := by
        rw [← Nat.mul_assoc, ← Nat.pow_succ, ← Nat.pow_add, show p % 8 + 1 + (7 - p % 8) = 8 by omega]
      rw [e1]
      generalize hx : v / 256 ^ (8 * (p / 8)) = x
      rw [show x % 18446744073709551616 = x % (256 ^ (p % 8) * (256 * 256 ^ (7 - p % 8))) by rw [← e2], Nat.mod_mul_right_div_self, Nat.mod_mul_right_mod, ← hx, Nat.div_div_eq_div_mul, ← Nat.pow_add, show 8 * (p / 8) + p % 8 = p by omega]
  refine eqI_n (B.length + 8 * 4) (rowL_len _ _ _ _ _ _) (by simp [be_len]) fun i hi => ?_
  unfold rowL
  rw [getD_app]
  by_cases h0 : B.length = 0
  · rw [if_pos h0, hr i hi, if_neg (by omega), if_neg (by omega)]
  · rw [if_neg h0, spl_getD _ _ _ _ _ _ hi, hr i hi, List.take_length]
    by_cases h : i < B.length
    · rw [if_pos (by omega), if_pos h]; rfl
    · rw [if_neg (by omega), if_neg h, if_neg h]
/-! ### Read -/
/-- Each is a byte. -/
def U8' (l : List Int) : Prop := ∀ i, 0 ≤ l.getD i 0 ∧ l.getD i 0 < 256
def gN (w : List Int) : Nat → Nat
  | 0 => 0
  | i + 1 => 256 * gN w i + (w.getD i 0).toNat
theorem gN_lt {w : List Int} (h : U8' w) (i : Nat) : gN w i < 256 ^ i := by
  induction i with
  | zero => simp [gN]
  | succ i ih => have := h i; rw [gN, Nat.pow_succ]; omega
theorem gI_gN {w : List Int} (h : U8' w) (i : Nat) (hi : i ≤ 8) : gI w i = (gN w i : Int) := by
  induction i with
  | zero => rfl
  | succ i ih =>
    have h1 := gN_lt h i
    have h2 := h i
    have hp : (256 : Nat) ^ i ≤ 256 ^ 7 := Nat.pow_le_pow_right (by omega) (by omega)
    rw [gI, ih (by omega), gN]
    obtain ⟨b, hb⟩ : ∃ b : Nat, w.getD i 0 = (b : Int) := ⟨(w.getD i 0).toNat, by omega⟩
    rw [hb] at h2 ⊢
    have e1 : (256 : Int) * (gN w i : Int) = ((256 * gN w i : Nat) : Int) := by simp
    rw [e1, wrap64' (by omega), wrap64' (by omega), ← Int.natCast_add, wrap64' (by omega)]
    simp
theorem gN_app (A B : List Int) (i : Nat) (h : i ≤ A.length) : gN (A ++ B) i = gN A i := by
  induction i with
  | zero => rfl
  | succ i ih => rw [gN, gN, ih (by omega), getD_app, if_pos (by omega)]
theorem gN_take (A : List Int) (n i : Nat) (h : i ≤ n) : gN (A.take n) i = gN A i := by
  induction i with
  | zero => rfl
  | succ i ih => rw [gN, gN, ih (by omega), getD_take' _ _ _ (by omega)]
theorem gN_rep (k : Nat) (B : List Int) (i : Nat) : gN (List.replicate k 0 ++ B) (k + i) = gN B i := by
  induction i with
  | zero =>
    rw [Nat.add_zero, gN_app _ _ _ (by simp)]
    show _ = 0
    induction k with
    | zero => rfl
    | succ k ih =>
      rw [gN, getD_rep]
      have : gN (List.replicate (k + 1) 0) k = gN (List.replicate k 0) k := by
        rw [← gN_take _ k k (Nat.le_refl _)]; simp
      rw [this, ih]; rfl
  | succ i ih =>
    rw [← Nat.add_assoc, gN, ih, gN, getD_app, if_neg (by simp)]
    simp
theorem U8'_app {A B : List Int} (ha : U8' A) (hb : U8' B) : U8' (A ++ B) := fun i => by
  rw [getD_app]; split
  · exact ha i
  · exact hb _
theorem U8'_take {A : List Int} (ha : U8' A) (n : Nat) : U8' (A.take n) := fun i => by
  by_cases h : i < n
  · rw [getD_take' _ _ _ h]; exact ha i
  · rw [List.getD_eq_getElem?_getD, List.getElem?_eq_none (by simp; omega)]; simp
theorem U8'_drop {A : List Int} (ha : U8' A) (n : Nat) : U8' (A.drop n) := fun i => by rw [getD_drop']; exact ha _
theorem U8'_rep (n : Nat) : U8' (List.replicate n 0) := fun i => by rw [getD_rep]; omega
theorem U8'_be (n v : Nat) : U8' (be n v) := fun i => by
  by_cases h : i < n
  · rw [be_get _ _ _ h]; omega
  · rw [List.getD_eq_getElem?_getD, List.getElem?_eq_none (by rw [be_len]; omega)]; simp
/-- What Get reads. -/
theorem getI_n {B : List Int} (h : U8' B) (m : Nat) (h8 : m ≤ 8) (hm : m ≤ B.length) : getI B m = (gN B m : Int) := by
  unfold getI
  have e : spl (z 8) (B.take m) (8 - m) m 8 = List.replicate (8 - m) 0 ++ B.take m := by
    have hz : z 8 = List.replicate (8 - m) 0 ++ List.replicate m 0 := by rw [List.replicate_append_replicate, show 8 - m + m = 8 by omega]; rfl
    rw [hz]
    have := spl_app (List.replicate (8 - m) 0) (B.take m) (List.replicate m 0) (8 - m) m 8 (by simp) (by simp; omega) (by omega) (by simp; omega)
    rw [this]
    simp
  rw [e, gI_gN (U8'_app (U8'_rep _) (U8'_take h _)) 8 (Nat.le_refl _)]
  have := gN_rep (8 - m) (B.take m) m
  rw [show 8 - m + m = 8 by omega] at this
  rw [this, gN_take _ _ _ (Nat.le_refl _)]
/-- What was put is read. -/
theorem gN_be_i (n v i : Nat) (h : i ≤ n) : gN (be n v) i = v / 256 ^ (n - i) % 256 ^ i := by
  induction i with
  | zero => simp [gN, Nat.mod_one]
  | succ i ih =>
    rw [gN, ih (by omega), be_get _ _ _ (by omega), Int.toNat_natCast]
    have e : n - i = (n - (i + 1)) + 1 := by omega
    rw [e, Nat.pow_succ 256 (n - (i + 1)), ← Nat.div_div_eq_div_mul, show n - 1 - i = n - (i + 1) by omega]
    generalize v / 256 ^ (n - (i + 1)) = x
    rw [Nat.pow_succ, Nat.mul_comm (256 ^ i) 256, Nat.mod_mul]
    omega
theorem gN_be (n v : Nat) (R : List Int) (h : v < 256 ^ n) : gN (be n v ++ R) n = v := by
  rw [gN_app _ _ _ (by rw [be_len]; omega), gN_be_i _ _ _ (Nat.le_refl _), Nat.sub_self, Nat.pow_zero, Nat.div_one, Nat.mod_eq_of_lt h]
end Go.Proofs.X
