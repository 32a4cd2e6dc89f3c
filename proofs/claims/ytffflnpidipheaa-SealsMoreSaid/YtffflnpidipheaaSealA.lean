/- A part of the proofs of this claim: SealA (SealSpec, SealPure, SealMo, SealU8). No conditions. -/
import Derived.Test.YtffflnpidipheaaKeyA
import Derived.Test.YtffflnpidipheaaAesC
set_option linter.unusedVariables false
set_option linter.unusedSimpArgs false
section
/- What sealed bytes are, on lists. No program. -/
open Go Go.Ab Go.Proofs
namespace Go.Proofs.X
/-- The lane and the number, behind the kind. -/
def ahL (l n : Int) : List Int := rowL 13 (rowL 5 [9] 1 4 1 [l]) 5 8 1 [n]
theorem ahL_len (l n : Int) : (ahL l n).length = 13 := rowL_len _ _ _ _ _ _
/-- The first block of a number. -/
def fiL (b : List Int) : List Int := spl (z 16) ((b.drop 1).take 12) (0 + 0) 12 16
theorem fiL_len (b : List Int) : (fiL b).length = 16 := spl_len _ _ _ _ _
def so1 (l n : Int) (len : Nat) : List Int := spl (List.replicate (29 + len) 0) (((ahL l n).drop 0).take 13) (0 + 0) 13 (29 + len)
def so2 (C : List Int) (l n : Int) (B : List Int) (len : Nat) : List Int := spl (so1 l n len) (((streamN C (fiL (ahL l n)) B len).drop 0).take len) (0 + 13) len (29 + len)
def sMac (M : List Int) (x : List Int) (e : Nat) : List Int := hmO M (tk (hmI M) ((x.drop 0).take e)) (64 + e)
theorem sMac_len (M x : List Int) (e : Nat) : (sMac M x e).length = 32 := hmO_len _ _ _
def sealL (M C : List Int) (l n : Int) (B : List Int) (len : Nat) : List Int := spl (so2 C l n B len) (((sMac M (so2 C l n B len) (13 + len)).drop 0).take 16) (0 + (13 + len)) 16 (29 + len)
theorem sealL_len (M C : List Int) (l n : Int) (B : List Int) (len : Nat) : (sealL M C l n B len).length = 29 + len := spl_len _ _ _ _ _
theorem spl_0 (xs ys : List Int) (i m : Nat) (h : xs.length = m) : spl xs ys i 0 m = xs := by
  refine eq_getD (n := m) (spl_len _ _ _ _ _) h fun k hk => ?_
  rw [spl_getD _ _ _ _ _ _ hk, if_neg (by omega)]
theorem so1_len (l n : Int) (len : Nat) : (so1 l n len).length = 29 + len := spl_len _ _ _ _ _
theorem so2_len (C : List Int) (l n : Int) (B : List Int) (len : Nat) : (so2 C l n B len).length = 29 + len := spl_len _ _ _ _ _
theorem so2_0 (C : List Int) (l n : Int) (B : List Int) : so2 C l n B 0 = so1 l n 0 := spl_0 _ _ _ _ (so1_len _ _ _)
theorem so2_ah (C : List Int) (l n : Int) (B : List Int) (len k : Nat) (hk : k < 13) : (so2 C l n B len).getD k 0 = (ahL l n).getD k 0 := by
  rw [so2, spl_getD _ _ _ _ _ _ (by omega), if_neg (by omega), so1, spl_getD _ _ _ _ _ _ (by omega), if_pos ⟨by omega, by omega⟩, getD_dt _ _ _ _ (by omega)]
  simp
theorem so2_by (C : List Int) (l n : Int) (B : List Int) (len k : Nat) (hk : k < len) : (so2 C l n B len).getD (13 + k) 0 = (streamN C (fiL (ahL l n)) B len).getD k 0 := by
  rw [so2, spl_getD _ _ _ _ _ _ (by omega), if_pos ⟨by omega, by omega⟩, getD_dt _ _ _ _ (by omega)]
  congr 1
  omega
theorem seal_fr (M C : List Int) (l n : Int) (B : List Int) (len k : Nat) (hk : k < 13 + len) : (sealL M C l n B len).getD k 0 = (so2 C l n B len).getD k 0 := by
  rw [sealL, spl_getD _ _ _ _ _ _ (by omega), if_neg (by omega)]
theorem seal_ah (M C : List Int) (l n : Int) (B : List Int) (len k : Nat) (hk : k < 13) : (sealL M C l n B len).getD k 0 = (ahL l n).getD k 0 := by
  rw [seal_fr _ _ _ _ _ _ _ (by omega), so2_ah _ _ _ _ _ _ hk]
theorem seal_by (M C : List Int) (l n : Int) (B : List Int) (len k : Nat) (hk : k < len) : (sealL M C l n B len).getD (13 + k) 0 = (streamN C (fiL (ahL l n)) B len).getD k 0 := by
  rw [seal_fr _ _ _ _ _ _ _ (by omega), so2_by _ _ _ _ _ _ hk]
theorem seal_mac (M C : List Int) (l n : Int) (B : List Int) (len k : Nat) (hk : k < 16) : (sealL M C l n B len).getD (13 + len + k) 0 = (sMac M (so2 C l n B len) (13 + len)).getD k 0 := by
  rw [sealL, spl_getD _ _ _ _ _ _ (by omega), if_pos ⟨by omega, by omega⟩, getD_dt _ _ _ _ (by omega)]
  congr 1
  omega
theorem sMac_eq (M x y : List Int) (e : Nat) (hx : e ≤ x.length) (hy : e ≤ y.length) (h : ∀ k, k < e → x.getD k 0 = y.getD k 0) : sMac M x e = sMac M y e := by
  have : (x.drop 0).take e = (y.drop 0).take e := by
    refine eq_getD (n := e) (by simp; omega) (by simp; omega) fun k hk => ?_
    rw [getD_dt _ _ _ _ hk, getD_dt _ _ _ _ hk, Nat.zero_add]
    exact h k hk
  rw [sMac, sMac, this]
theorem seal_sum (M C : List Int) (l n : Int) (B : List Int) (len : Nat) : sMac M (sealL M C l n B len) (13 + len) = sMac M (so2 C l n B len) (13 + len) :=
  sMac_eq _ _ _ _ (by rw [sealL_len]; omega) (by rw [so2_len]; omega) fun _ hk => seal_fr _ _ _ _ _ _ _ hk
/-! ### numbers as bytes -/
def w8 (x : Int) : Int := IntKind.u8.wrap x
def d8 (v : Int) : Nat → Int
  | 0 => v
  | j + 1 => IntKind.u64.wrap ((d8 v j).tdiv 256)
theorem ahL_eq (l n : Int) : ahL l n = [9, w8 (d8 l 3), w8 (d8 l 2), w8 (d8 l 1), w8 (d8 l 0), w8 (d8 n 7), w8 (d8 n 6), w8 (d8 n 5), w8 (d8 n 4), w8 (d8 n 3), w8 (d8 n 2), w8 (d8 n 1), w8 (d8 n 0)] := by kernel_rfl
theorem wrap64 {x : Int} (h0 : 0 ≤ x) (h1 : x < 18446744073709551616) : IntKind.u64.wrap x = x := by
  unfold IntKind.wrap
  simp [IntKind.bits, IntKind.signed]
  omega
theorem w8_n (v : Nat) : w8 (v : Int) = ((v % 256 : Nat) : Int) := by
  unfold w8 IntKind.wrap
  simp [IntKind.bits, IntKind.signed]
theorem d8_n (v : Nat) (h : v < 18446744073709551616) : ∀ j, d8 (v : Int) j = ((v / 256 ^ j : Nat) : Int)
  | 0 => by simp [d8]
  | j + 1 => by
    rw [d8, d8_n v h j]
    have e : ((v / 256 ^ j : Nat) : Int).tdiv 256 = ((v / 256 ^ j / 256 : Nat) : Int) := rfl
    rw [e, Nat.div_div_eq_div_mul, show 256 ^ j * 256 = 256 ^ (j + 1) from rfl]
    have : v / 256 ^ (j + 1) ≤ v := Nat.div_le_self _ _
    generalize v / 256 ^ (j + 1) = q at this
    exact wrap64 (by omega) (by omega)
theorem gI_step {w : List Int} {i g b : Nat} (h : gI w i = (g : Int)) (hb : w.getD i 0 = (b : Int)) (hlt : 256 * g + b < 18446744073709551616) : gI w (i + 1) = ((256 * g + b : Nat) : Int) := by
  rw [gI_s, h, hb, wrap64 (x := (b : Int)) (by omega) (by omega), wrap64 (x := 256 * (g : Int)) (by omega) (by omega), wrap64 (by omega) (by omega)]
  omega
theorem gI_first {w : List Int} {b : Nat} {i : Nat} (h : gI w i = 0) (hb : w.getD i 0 = (b : Int)) (hlt : b < 256) : gI w (i + 1) = (b : Int) := by
  have := gI_step (g := 0) h hb (by omega)
  simpa using this
theorem getI8 (B : List Int) (b0 b1 b2 b3 b4 b5 b6 b7 : Nat) (h0 : b0 < 256) (h1 : b1 < 256) (h2 : b2 < 256) (h3 : b3 < 256) (h4 : b4 < 256) (h5 : b5 < 256) (h6 : b6 < 256) (h7 : b7 < 256)
    (e : (B.drop 0).take 8 = [(b0 : Int), b1, b2, b3, b4, b5, b6, b7]) : getI B 8 = ((256 * (256 * (256 * (256 * (256 * (256 * (256 * b0 + b1) + b2) + b3) + b4) + b5) + b6) + b7 : Nat) : Int) := by
  unfold getI
  rw [e, show spl (z 8) [(b0 : Int), b1, b2, b3, b4, b5, b6, b7] (0 + (8 - 8)) 8 8 = [(b0 : Int), b1, b2, b3, b4, b5, b6, b7] from rfl]
  exact gI_step (gI_step (gI_step (gI_step (gI_step (gI_step (gI_step (gI_first (gI_0 _) rfl h0) rfl (by omega)) rfl (by omega)) rfl (by omega)) rfl (by omega)) rfl (by omega)) rfl (by omega)) rfl (by omega)
theorem getI4 (B : List Int) (b0 b1 b2 b3 : Nat) (h0 : b0 < 256) (h1 : b1 < 256) (h2 : b2 < 256) (h3 : b3 < 256)
    (e : (B.drop 0).take 4 = [(b0 : Int), b1, b2, b3]) : getI B 4 = ((256 * (256 * (256 * b0 + b1) + b2) + b3 : Nat) : Int) := by
  unfold getI
  rw [e, show spl (z 8) [(b0 : Int), b1, b2, b3] (0 + (8 - 4)) 4 8 = [0, 0, 0, 0, (b0 : Int), b1, b2, b3] from rfl]
  have s1 := gI_first (w := [0, 0, 0, 0, (b0 : Int), b1, b2, b3]) (b := 0) (gI_0 _) rfl (by omega)
  have s2 := gI_first (w := [0, 0, 0, 0, (b0 : Int), b1, b2, b3]) (b := 0) s1 rfl (by omega)
  have s3 := gI_first (w := [0, 0, 0, 0, (b0 : Int), b1, b2, b3]) (b := 0) s2 rfl (by omega)
  have s4 := gI_first (w := [0, 0, 0, 0, (b0 : Int), b1, b2, b3]) (b := 0) s3 rfl (by omega)
  exact gI_step (gI_step (gI_step (gI_first s4 rfl h0) rfl (by omega)) rfl (by omega)) rfl (by omega)
end Go.Proofs.X
end

section
/- Laws of sealed bytes, on lists. No program. -/
open Go Go.Ab Go.Proofs
namespace Go.Proofs.X
theorem fiL_eq (x y : List Int) (h : ∀ k, 1 ≤ k → k < 13 → x.getD k 0 = y.getD k 0) : fiL x = fiL y := by
  refine eq_getD (n := 16) (fiL_len _) (fiL_len _) fun k hk => ?_
  rw [fiL, fiL, spl_getD _ _ _ _ _ _ hk, spl_getD _ _ _ _ _ _ hk]
  by_cases h1 : 0 + 0 ≤ k ∧ k < 0 + 0 + 12
  · rw [if_pos h1, if_pos h1, getD_dt _ _ _ _ (by omega), getD_dt _ _ _ _ (by omega)]
    exact h _ (by omega) (by omega)
  · rw [if_neg h1, if_neg h1]
theorem seal_fi (M C : List Int) (l n : Int) (B : List Int) (len : Nat) : fiL (sealL M C l n B len) = fiL (ahL l n) := fiL_eq _ _ fun k _ h => seal_ah _ _ _ _ _ _ _ h
theorem seal_ct (M C : List Int) (l n : Int) (B : List Int) (len : Nat) : ((sealL M C l n B len).drop 13).take len = streamN C (fiL (ahL l n)) B len := by
  refine eq_getD (n := len) (by simp [sealL_len]; omega) (streamN_len _ _ _ _) fun k hk => ?_
  rw [getD_dt _ _ _ _ hk, seal_by _ _ _ _ _ _ _ hk]
/-- What is sealed is opened. -/
theorem seal_back (M C : List Int) (l n : Int) (B : List Int) (len : Nat) (hB : B.length = len) (h8 : U8 B) : streamN C (fiL (sealL M C l n B len)) (((sealL M C l n B len).drop 13).take len) len = B := by
  rw [seal_fi, seal_ct, stream_twice _ _ _ _ hB h8]
theorem seal_same (M C : List Int) (l n : Int) (B : List Int) (len k : Nat) (hk : k < 16) : (sMac M (sealL M C l n B len) (13 + len)).getD k 0 = (sealL M C l n B len).getD (13 + len + k) 0 := by
  rw [seal_sum, seal_mac _ _ _ _ _ _ _ hk]
/-! ### the lane and the number, back -/
theorem take4 (B : List Int) (x0 x1 x2 x3 : Int) (hl : 4 ≤ B.length) (h0 : B.getD 0 0 = x0) (h1 : B.getD 1 0 = x1) (h2 : B.getD 2 0 = x2) (h3 : B.getD 3 0 = x3) : (B.drop 0).take 4 = [x0, x1, x2, x3] := by
  refine eq_getD (n := 4) (by simp; omega) rfl fun k hk => ?_
  rw [getD_dt _ _ _ _ hk, Nat.zero_add]
  match k, hk with
  | 0, _ => exact h0
  | 1, _ => exact h1
  | 2, _ => exact h2
  | 3, _ => exact h3
theorem take8 (B : List Int) (x0 x1 x2 x3 x4 x5 x6 x7 : Int) (hl : 8 ≤ B.length) (h0 : B.getD 0 0 = x0) (h1 : B.getD 1 0 = x1) (h2 : B.getD 2 0 = x2) (h3 : B.getD 3 0 = x3) (h4 : B.getD 4 0 = x4) (h5 : B.getD 5 0 = x5) (h6 : B.getD 6 0 = x6) (h7 : B.getD 7 0 = x7) : (B.drop 0).take 8 = [x0, x1, x2, x3, x4, x5, x6, x7] := by
  refine eq_getD (n := 8) (by simp; omega) rfl fun k hk => ?_
  rw [getD_dt _ _ _ _ hk, Nat.zero_add]
  match k, hk with
  | 0, _ => exact h0
  | 1, _ => exact h1
  | 2, _ => exact h2
  | 3, _ => exact h3
  | 4, _ => exact h4
  | 5, _ => exact h5
  | 6, _ => exact h6
  | 7, _ => exact h7
theorem w8d (v j : Nat) (h : v < 18446744073709551616) : w8 (d8 (v : Int) j) = ((v / 256 ^ j % 256 : Nat) : Int) := by rw [d8_n _ h, w8_n]
theorem lane_back (B : List Int) (l : Nat) (n : Int) (hl : l < 4294967296) (hB : 4 ≤ B.length) (h : ∀ k, k < 4 → B.getD k 0 = (ahL (l : Int) n).getD (1 + k) 0) : getI B 4 = (l : Int) := by
  have hl' : l < 18446744073709551616 := by omega
  have e0 := h 0 (by omega)
  have e1 := h 1 (by omega)
  have e2 := h 2 (by omega)
  have e3 := h 3 (by omega)
  rw [ahL_eq] at e0 e1 e2 e3
  simp only [Nat.reduceAdd, List.getD_cons_succ, List.getD_cons_zero, w8d _ _ hl'] at e0 e1 e2 e3
  rw [getI4 B _ _ _ _ (Nat.mod_lt _ (by omega)) (Nat.mod_lt _ (by omega)) (Nat.mod_lt _ (by omega)) (Nat.mod_lt _ (by omega)) (take4 B _ _ _ _ hB e0 e1 e2 e3)]
  simp only [Nat.reducePow, Nat.div_one]
  congr 1
  omega
theorem dig (n : Nat) (h : n < 18446744073709551616) : 256 * (256 * (256 * (256 * (256 * (256 * (256 * (n / 256 ^ 7 % 256) + n / 256 ^ 6 % 256) + n / 256 ^ 5 % 256) + n / 256 ^ 4 % 256) + n / 256 ^ 3 % 256) + n / 256 ^ 2 % 256) + n / 256 ^ 1 % 256) + n / 256 ^ 0 % 256 = n := by
  have e : ∀ j, 256 * (n / 256 ^ (j + 1)) + n / 256 ^ j % 256 = n / 256 ^ j := fun j => by
    rw [Nat.pow_succ, ← Nat.div_div_eq_div_mul]; exact Nat.div_add_mod _ _
  have e7 : n / 256 ^ 7 % 256 = n / 256 ^ 7 := Nat.mod_eq_of_lt (Nat.div_lt_of_lt_mul (by simpa using h))
  have e6 : 256 * (n / 256 ^ 7) + n / 256 ^ 6 % 256 = n / 256 ^ 6 := e 6
  have e5 : 256 * (n / 256 ^ 6) + n / 256 ^ 5 % 256 = n / 256 ^ 5 := e 5
  have e4 : 256 * (n / 256 ^ 5) + n / 256 ^ 4 % 256 = n / 256 ^ 4 := e 4
  have e3 : 256 * (n / 256 ^ 4) + n / 256 ^ 3 % 256 = n / 256 ^ 3 := e 3
  have e2 : 256 * (n / 256 ^ 3) + n / 256 ^ 2 % 256 = n / 256 ^ 2 := e 2
  have e1 : 256 * (n / 256 ^ 2) + n / 256 ^ 1 % 256 = n / 256 ^ 1 := e 1
  have e0 : 256 * (n / 256 ^ 1) + n / 256 ^ 0 % 256 = n / 256 ^ 0 := e 0
  rw [e7, e6, e5, e4, e3, e2, e1, e0, Nat.pow_zero, Nat.div_one]
theorem num_back (B : List Int) (l : Int) (n : Nat) (hn : n < 18446744073709551616) (hB : 8 ≤ B.length) (h : ∀ k, k < 8 → B.getD k 0 = (ahL l (n : Int)).getD (5 + k) 0) : getI B 8 = (n : Int) := by
  have e0 := h 0 (by omega)
  have e1 := h 1 (by omega)
  have e2 := h 2 (by omega)
  have e3 := h 3 (by omega)
  have e4 := h 4 (by omega)
  have e5 := h 5 (by omega)
  have e6 := h 6 (by omega)
  have e7 := h 7 (by omega)
  rw [ahL_eq] at e0 e1 e2 e3 e4 e5 e6 e7
  simp only [Nat.reduceAdd, List.getD_cons_succ, List.getD_cons_zero, w8d _ _ hn] at e0 e1 e2 e3 e4 e5 e6 e7
  rw [getI8 B _ _ _ _ _ _ _ _ (Nat.mod_lt _ (by omega)) (Nat.mod_lt _ (by omega)) (Nat.mod_lt _ (by omega)) (Nat.mod_lt _ (by omega)) (Nat.mod_lt _ (by omega)) (Nat.mod_lt _ (by omega)) (Nat.mod_lt _ (by omega)) (Nat.mod_lt _ (by omega)) (take8 B _ _ _ _ _ _ _ _ hB e0 e1 e2 e3 e4 e5 e6 e7)]
  exact congrArg _ (dig n hn)
theorem U8_nat {l : List Int} (h : U8 l) (k : Nat) : ∃ b : Nat, b < 256 ∧ l.getD k 0 = (b : Int) := by
  have := h k
  exact ⟨(l.getD k 0).toNat, by omega, by omega⟩
theorem lane_of (B : List Int) (h8 : U8 B) (hB : 4 ≤ B.length) : ∃ l : Nat, l < 4294967296 ∧ getI B 4 = (l : Int) ∧ ∀ n k, k < 4 → (ahL (l : Int) n).getD (1 + k) 0 = B.getD k 0 := by
  obtain ⟨b0, g0, e0⟩ := U8_nat h8 0
  obtain ⟨b1, g1, e1⟩ := U8_nat h8 1
  obtain ⟨b2, g2, e2⟩ := U8_nat h8 2
  obtain ⟨b3, g3, e3⟩ := U8_nat h8 3
  refine ⟨_, ?_, getI4 B b0 b1 b2 b3 g0 g1 g2 g3 (take4 B _ _ _ _ hB e0 e1 e2 e3), fun n k hk => ?_⟩
  · omega
  · rw [ahL_eq]
    generalize hv : 256 * (256 * (256 * b0 + b1) + b2) + b3 = v
    have hv' : v < 18446744073709551616 := by omega
    match k, hk with
    | 0, _ => simp only [Nat.reduceAdd, List.getD_cons_succ, List.getD_cons_zero, w8d _ _ hv', Nat.reducePow]; rw [e0]; congr 1; omega
    | 1, _ => simp only [Nat.reduceAdd, List.getD_cons_succ, List.getD_cons_zero, w8d _ _ hv', Nat.reducePow]; rw [e1]; congr 1; omega
    | 2, _ => simp only [Nat.reduceAdd, List.getD_cons_succ, List.getD_cons_zero, w8d _ _ hv', Nat.reducePow]; rw [e2]; congr 1; omega
    | 3, _ => simp only [Nat.reduceAdd, List.getD_cons_succ, List.getD_cons_zero, w8d _ _ hv', Nat.reducePow]; rw [e3]; congr 1; omega
theorem num_of (B : List Int) (h8 : U8 B) (hB : 8 ≤ B.length) : ∃ n : Nat, n < 18446744073709551616 ∧ getI B 8 = (n : Int) ∧ ∀ l k, k < 8 → (ahL l (n : Int)).getD (5 + k) 0 = B.getD k 0 := by
  obtain ⟨b0, g0, e0⟩ := U8_nat h8 0
  obtain ⟨b1, g1, e1⟩ := U8_nat h8 1
  obtain ⟨b2, g2, e2⟩ := U8_nat h8 2
  obtain ⟨b3, g3, e3⟩ := U8_nat h8 3
  obtain ⟨b4, g4, e4⟩ := U8_nat h8 4
  obtain ⟨b5, g5, e5⟩ := U8_nat h8 5
  obtain ⟨b6, g6, e6⟩ := U8_nat h8 6
  obtain ⟨b7, g7, e7⟩ := U8_nat h8 7
  refine ⟨_, ?_, getI8 B b0 b1 b2 b3 b4 b5 b6 b7 g0 g1 g2 g3 g4 g5 g6 g7 (take8 B _ _ _ _ _ _ _ _ hB e0 e1 e2 e3 e4 e5 e6 e7), fun l k hk => ?_⟩
  · omega
  · rw [ahL_eq]
    generalize hv : 256 * (256 * (256 * (256 * (256 * (256 * (256 * b0 + b1) + b2) + b3) + b4) + b5) + b6) + b7 = v
    have hv' : v < 18446744073709551616 := by omega
    match k, hk with
    | 0, _ => simp only [Nat.reduceAdd, List.getD_cons_succ, List.getD_cons_zero, w8d _ _ hv', Nat.reducePow]; rw [e0]; congr 1; omega
    | 1, _ => simp only [Nat.reduceAdd, List.getD_cons_succ, List.getD_cons_zero, w8d _ _ hv', Nat.reducePow]; rw [e1]; congr 1; omega
    | 2, _ => simp only [Nat.reduceAdd, List.getD_cons_succ, List.getD_cons_zero, w8d _ _ hv', Nat.reducePow]; rw [e2]; congr 1; omega
    | 3, _ => simp only [Nat.reduceAdd, List.getD_cons_succ, List.getD_cons_zero, w8d _ _ hv', Nat.reducePow]; rw [e3]; congr 1; omega
    | 4, _ => simp only [Nat.reduceAdd, List.getD_cons_succ, List.getD_cons_zero, w8d _ _ hv', Nat.reducePow]; rw [e4]; congr 1; omega
    | 5, _ => simp only [Nat.reduceAdd, List.getD_cons_succ, List.getD_cons_zero, w8d _ _ hv', Nat.reducePow]; rw [e5]; congr 1; omega
    | 6, _ => simp only [Nat.reduceAdd, List.getD_cons_succ, List.getD_cons_zero, w8d _ _ hv', Nat.reducePow]; rw [e6]; congr 1; omega
    | 7, _ => simp only [Nat.reduceAdd, List.getD_cons_succ, List.getD_cons_zero, w8d _ _ hv', Nat.reducePow]; rw [e7]; congr 1; omega
/-- Whatever is opened was sealed so. -/
theorem seal_open (M C X : List Int) (l n : Int) (len : Nat) (hX : X.length = 29 + len) (h8 : U8 X) (hk : X.getD 0 0 = 9) (hl : ∀ k, k < 4 → (ahL l n).getD (1 + k) 0 = X.getD (1 + k) 0) (hn : ∀ k, k < 8 → (ahL l n).getD (5 + k) 0 = X.getD (5 + k) 0)
    (hm : ∀ k, k < 16 → (sMac M X (13 + len)).getD k 0 = X.getD (13 + len + k) 0) : sealL M C l n (streamN C (fiL X) ((X.drop 13).take len) len) len = X := by
  have hah : ∀ k, k < 13 → (ahL l n).getD k 0 = X.getD k 0 := fun k h => by
    rcases Nat.lt_or_ge k 5 with h5 | h5
    · rcases Nat.eq_zero_or_pos k with h0 | h0
      · subst h0; rw [hk, ahL_eq]; rfl
      · have := hl (k - 1) (by omega)
        rwa [show 1 + (k - 1) = k by omega] at this
    · have := hn (k - 5) (by omega)
      rwa [show 5 + (k - 5) = k by omega] at this
  have hfi : fiL (ahL l n) = fiL X := fiL_eq _ _ fun k _ h => hah k h
  have hct : ((X.drop 13).take len).length = len := by simp; omega
  have hst : streamN C (fiL (ahL l n)) (streamN C (fiL X) ((X.drop 13).take len) len) len = (X.drop 13).take len := by
    rw [hfi]; exact stream_twice _ _ _ _ hct (h8.cut _ _)
  have hfr : ∀ k, k < 13 + len → (so2 C l n (streamN C (fiL X) ((X.drop 13).take len) len) len).getD k 0 = X.getD k 0 := fun k h => by
    rcases Nat.lt_or_ge k 13 with h3 | h3
    · rw [so2_ah _ _ _ _ _ _ h3, hah k h3]
    · obtain ⟨i, rfl⟩ : ∃ i, k = 13 + i := ⟨k - 13, by omega⟩
      rw [so2_by _ _ _ _ _ _ (by omega), hst, getD_dt _ _ _ _ (by omega)]
  refine eq_getD (n := 29 + len) (sealL_len _ _ _ _ _ _) hX fun k h => ?_
  rcases Nat.lt_or_ge k (13 + len) with h3 | h3
  · rw [seal_fr _ _ _ _ _ _ _ h3, hfr k h3]
  · obtain ⟨i, rfl⟩ : ∃ i, k = 13 + len + i := ⟨k - (13 + len), by omega⟩
    rw [seal_mac _ _ _ _ _ _ _ (by omega), sMac_eq M _ X _ (by rw [so2_len]; omega) (by omega) hfr, hm i (by omega)]
/-- Two of one number part in what the bytes part. -/
theorem seal_part (M C M' : List Int) (l n : Int) (B B' : List Int) (len k : Nat) (hk : k < len) : xorK .u8 ((sealL M C l n B len).getD (13 + k) 0) ((sealL M' C l n B' len).getD (13 + k) 0) = xorK .u8 (B.getD k 0) (B'.getD k 0) := by
  rw [seal_by _ _ _ _ _ _ _ hk, seal_by _ _ _ _ _ _ _ hk, stream_against _ _ _ _ _ _ _ hk hk]
theorem seal_pre (M C M' C' : List Int) (l n : Int) (B B' : List Int) (len len' : Nat) : ((sealL M C l n B len).drop 0).take 13 = ((sealL M' C' l n B' len').drop 0).take 13 := by
  refine eq_getD (n := 13) (by simp [sealL_len]; omega) (by simp [sealL_len]; omega) fun k hk => ?_
  rw [getD_dt _ _ _ _ hk, getD_dt _ _ _ _ hk, Nat.zero_add, seal_ah _ _ _ _ _ _ _ hk, seal_ah _ _ _ _ _ _ _ hk]
/-- Bytes that go on. -/
theorem seal_more (M C : List Int) (l n : Int) (B B' : List Int) (len len' : Nat) (hle : len ≤ len') (h : ∀ k, k < len → B'.getD k 0 = B.getD k 0) : ((sealL M C l n B len).drop 0).take (13 + len) = ((sealL M C l n B' len').drop 0).take (13 + len) := by
  refine eq_getD (n := 13 + len) (by simp [sealL_len]; try omega) (by simp [sealL_len]; omega) fun k hk => ?_
  rw [getD_dt _ _ _ _ hk, getD_dt _ _ _ _ hk, Nat.zero_add]
  rcases Nat.lt_or_ge k 13 with h3 | h3
  · rw [seal_ah _ _ _ _ _ _ _ h3, seal_ah _ _ _ _ _ _ _ h3]
  · obtain ⟨i, rfl⟩ : ∃ i, k = 13 + i := ⟨k - 13, by omega⟩
    rw [seal_by _ _ _ _ _ _ _ (by omega), seal_by _ _ _ _ _ _ _ (by omega), streamN_get _ _ _ _ _ (by omega), streamN_get _ _ _ _ _ (by omega), h i (by omega)]
end Go.Proofs.X
end

section
/- Bytes held against bytes, all of them. No program. -/
open Go Go.Ab Go.Proofs
namespace Go.Proofs.X
def mo (A B : List Int) : Nat → Int
  | 0 => 0
  | i + 1 => orK .u8 (mo A B i) (xorK .u8 (A.getD i 0) (B.getD i 0))
theorem xor8_nat (n m : Nat) (hn : n < 256) (hm : m < 256) : xorK .u8 (n : Int) (m : Int) = ((n ^^^ m : Nat) : Int) := by
  have h := Nat.xor_lt_two_pow (n := 8) hn hm
  show IntKind.u8.wrap ((BitVec.ofInt 8 (n : Int) ^^^ BitVec.ofInt 8 (m : Int)).toNat : Int) = _
  rw [show BitVec.ofInt 8 (n : Int) = BitVec.ofNat 8 n from rfl, show BitVec.ofInt 8 (m : Int) = BitVec.ofNat 8 m from rfl, BitVec.toNat_xor, BitVec.toNat_ofNat, BitVec.toNat_ofNat, Nat.mod_eq_of_lt hn, Nat.mod_eq_of_lt hm]
  exact wrap_u8 (by omega) (by omega)
theorem or8_nat (n m : Nat) (hn : n < 256) (hm : m < 256) : orK .u8 (n : Int) (m : Int) = ((n ||| m : Nat) : Int) := by
  have h := Nat.or_lt_two_pow (n := 8) hn hm
  show IntKind.u8.wrap ((BitVec.ofInt 8 (n : Int) ||| BitVec.ofInt 8 (m : Int)).toNat : Int) = _
  rw [show BitVec.ofInt 8 (n : Int) = BitVec.ofNat 8 n from rfl, show BitVec.ofInt 8 (m : Int) = BitVec.ofNat 8 m from rfl, BitVec.toNat_or, BitVec.toNat_ofNat, BitVec.toNat_ofNat, Nat.mod_eq_of_lt hn, Nat.mod_eq_of_lt hm]
  exact wrap_u8 (by omega) (by omega)
theorem or_zero (n m : Nat) : n ||| m = 0 ↔ n = 0 ∧ m = 0 := by
  constructor
  · intro h
    have h1 : n ≤ n ||| m := Nat.left_le_or
    have h2 : m ≤ n ||| m := Nat.right_le_or
    omega
  · rintro ⟨rfl, rfl⟩; rfl
theorem xor_zero (n m : Nat) : n ^^^ m = 0 ↔ n = m := by
  constructor
  · intro h
    have : n ^^^ m ^^^ m = m := by rw [h, Nat.zero_xor]
    rwa [Nat.xor_assoc, Nat.xor_self, Nat.xor_zero] at this
  · rintro rfl; exact Nat.xor_self n
theorem mo_zero (A B : List Int) (hA : U8 A) (hB : U8 B) (i : Nat) : ∃ v : Nat, v < 256 ∧ mo A B i = (v : Int) ∧ (v = 0 ↔ ∀ k, k < i → A.getD k 0 = B.getD k 0) := by
  induction i with
  | zero => exact ⟨0, by omega, rfl, by simp⟩
  | succ i ih =>
    obtain ⟨v, hv, e, h⟩ := ih
    obtain ⟨a, ha, ea⟩ := U8_nat hA i
    obtain ⟨b, hb, eb⟩ := U8_nat hB i
    have hx := Nat.xor_lt_two_pow (n := 8) ha hb
    refine ⟨v ||| (a ^^^ b), Nat.or_lt_two_pow (n := 8) hv hx, ?_, ?_⟩
    · rw [mo, e, ea, eb, xor8_nat _ _ ha hb, or8_nat _ _ hv hx]
    · rw [or_zero, xor_zero, h]
      constructor
      · rintro ⟨h1, h2⟩ k hk
        rcases Nat.lt_or_ge k i with h3 | h3
        · exact h1 k h3
        · have : k = i := by omega
          subst this
          rw [ea, eb, h2]
      · intro h1
        refine ⟨fun k hk => h1 k (by omega), ?_⟩
        have := h1 i (by omega)
        rw [ea, eb] at this
        omega
theorem mo_iff (A B : List Int) (hA : U8 A) (hB : U8 B) (n : Nat) : mo A B n = 0 ↔ ∀ k, k < n → A.getD k 0 = B.getD k 0 := by
  obtain ⟨v, _, e, h⟩ := mo_zero A B hA hB n
  rw [e, ← h]
  omega
end Go.Proofs.X
end

section
/- Sealed bytes are bytes. No program. -/
open Go Go.Ab Go.Proofs
namespace Go.Proofs.X
theorem U8_rep (n : Nat) : U8 (List.replicate n 0) := U8_z n
theorem U8_rb {out : List Int} (h : U8 out) (a : Nat) (v : Int) (j : Nat) : U8 (rb out a v j).1 := by
  induction j with
  | zero => exact h
  | succ j ih => exact ih.set _ (wrap_u8_range _)
theorem U8_rr (tot each N : Nat) (ws : List Int) (k : Nat) : U8 (rr tot each N ws k) := by
  induction k with
  | zero => exact U8_rep _
  | succ k ih => exact U8_rb ih _ _ _
theorem U8_rowL {B : List Int} (h : U8 B) (tot len each N : Nat) (ws : List Int) : U8 (rowL tot B len each N ws) := by
  unfold rowL
  split
  · exact U8_rr _ _ _ _ _
  · exact U8_spl (U8_rr _ _ _ _ _) (h.cut _ _) _ _ _
theorem U8_nil : U8 [] := U8_mem fun x hx => by simp at hx
theorem U8_ob (s : List Int) (i : Nat) : U8 (ob s i) := by
  induction i with
  | zero => exact U8_nil
  | succ i ih => exact U8_rowL ih _ _ _ _ _
theorem U8_sumL (q : Run) (tot : Nat) : U8 (sumL q tot) := U8_spl (U8_z 32) ((U8_ob _ _).cut _ _) _ _ _
theorem U8_hmO (K : List Int) (q : Run) (tot : Nat) : U8 (hmO K q tot) := U8_sumL _ _
theorem U8_sMac (M x : List Int) (e : Nat) : U8 (sMac M x e) := U8_hmO _ _ _
theorem U8_stream (C f B : List Int) (n : Nat) : U8 (streamN C f B n) := fun k => by
  rcases Nat.lt_or_ge k n with h | h
  · rw [streamN_get _ _ _ _ _ h]; exact wrap_u8_range _
  · have : (streamN C f B n).getD k 0 = 0 := by
      rw [List.getD_eq_getElem?_getD, List.getElem?_eq_none (by rw [streamN_len]; exact h)]; rfl
    rw [this]; omega
theorem U8_ahL (l n : Int) : U8 (ahL l n) := U8_rowL (U8_rowL (U8_mem fun x hx => by simp at hx; subst hx; omega) _ _ _ _ _) _ _ _ _ _
theorem U8_seal (M C : List Int) (l n : Int) (B : List Int) (len : Nat) : U8 (sealL M C l n B len) :=
  U8_spl (U8_spl (U8_spl (U8_rep _) ((U8_ahL _ _).cut _ _) _ _ _) ((U8_stream _ _ _ _).cut _ _) _ _ _) ((U8_sMac _ _ _).cut _ _) _ _ _
/-- The sum of what is sealed is at its end. -/
theorem seal_mo (M C : List Int) (l n : Int) (B : List Int) (len : Nat) : mo (((sMac M (sealL M C l n B len) (13 + len)).drop 0).take 16) (((sealL M C l n B len).drop (13 + len)).take 16) 16 = 0 := by
  refine (mo_iff _ _ ((U8_sMac _ _ _).cut _ _) ((U8_seal _ _ _ _ _ _).cut _ _) _).2 fun k hk => ?_
  rw [getD_dt _ _ _ _ hk, getD_dt _ _ _ _ hk, Nat.zero_add, seal_same _ _ _ _ _ _ _ hk]
theorem seal_nine (M C : List Int) (l n : Int) (B : List Int) (len : Nat) : (sealL M C l n B len).getD 0 0 = 9 := by
  rw [seal_ah _ _ _ _ _ _ _ (by omega), ahL_eq]; rfl
theorem cut_getD (X : List Int) (a n k : Nat) (hk : k < n) : ((X.drop (0 + a)).take n).getD k 0 = X.getD (a + k) 0 := by rw [getD_dt _ _ _ _ hk, Nat.zero_add]
theorem seal_lane (M C : List Int) (l : Nat) (n : Int) (B : List Int) (len : Nat) (hl : l < 4294967296) : getI (((sealL M C (l : Int) n B len).drop (0 + 1)).take (29 + len - 1)) 4 = (l : Int) :=
  lane_back _ l n hl (by simp [sealL_len]; omega) fun k hk => by rw [cut_getD _ _ _ _ (by omega), seal_ah _ _ _ _ _ _ _ (by omega)]
theorem seal_num (M C : List Int) (l : Int) (n : Nat) (B : List Int) (len : Nat) (hn : n < 18446744073709551616) : getI (((sealL M C l (n : Int) B len).drop (0 + 5)).take (29 + len - 5)) 8 = (n : Int) :=
  num_back _ l n hn (by simp [sealL_len]; omega) fun k hk => by rw [cut_getD _ _ _ _ (by omega), seal_ah _ _ _ _ _ _ _ (by omega)]
theorem seal_back' (M C : List Int) (l n : Int) (B : List Int) (len : Nat) (hB : B.length = len) (h8 : U8 B) : streamN C (fiL (sealL M C l n B len)) (((sealL M C l n B len).drop (0 + 13)).take len) len = B := seal_back M C l n B len hB h8
/-- What is opened was sealed: the lane, the number. -/
theorem seal_of (M C X : List Int) (m : Nat) (hX : X.length = 29 + m) (h8 : U8 X) (h9 : X.getD 0 0 = 9) (hm : mo (((sMac M X (13 + m)).drop 0).take 16) ((X.drop (13 + m)).take 16) 16 = 0) :
    ∃ l n : Nat, l < 4294967296 ∧ n < 18446744073709551616 ∧ getI ((X.drop (0 + 1)).take (29 + m - 1)) 4 = (l : Int) ∧ getI ((X.drop (0 + 5)).take (29 + m - 5)) 8 = (n : Int) ∧ sealL M C (l : Int) (n : Int) (streamN C (fiL X) ((X.drop (0 + 13)).take m) m) m = X := by
  obtain ⟨l, hl, gl, el⟩ := lane_of ((X.drop (0 + 1)).take (29 + m - 1)) (h8.cut _ _) (by simp; omega)
  obtain ⟨n, hn, gn, en⟩ := num_of ((X.drop (0 + 5)).take (29 + m - 5)) (h8.cut _ _) (by simp; omega)
  refine ⟨l, n, hl, hn, gl, gn, ?_⟩
  have hm' := (mo_iff _ _ ((U8_sMac _ _ _).cut _ _) (h8.cut _ _) _).1 hm
  rw [Nat.zero_add]
  refine seal_open M C X l n m hX h8 h9 (fun k hk => by rw [el _ k hk, cut_getD _ _ _ _ (by omega)]) (fun k hk => by rw [en _ k hk, cut_getD _ _ _ _ (by omega)]) (fun k hk => ?_)
  have := hm' k hk
  rwa [getD_dt _ _ _ _ hk, getD_dt _ _ _ _ hk, Nat.zero_add] at this
theorem lane_any (X : List Int) (m : Nat) (hX : X.length = 29 + m) (h8 : U8 X) : ∃ l : Nat, l < 4294967296 ∧ getI ((X.drop (0 + 1)).take (29 + m - 1)) 4 = (l : Int) := by
  obtain ⟨l, hl, gl, _⟩ := lane_of ((X.drop (0 + 1)).take (29 + m - 1)) (h8.cut _ _) (by simp; omega)
  exact ⟨l, hl, gl⟩
/-- The first block, number by number. -/
def hf (l : Int) : Nat → List Int
  | 0 => z 16
  | i + 1 => (hf l i).set i (IntKind.u8.wrap (shrK .u32 l ((24 - 8 * i : Nat) : Int)))
theorem hf_len (l : Int) (i : Nat) : (hf l i).length = 16 := by
  induction i with
  | zero => exact z_len _
  | succ i ih => rw [hf, List.length_set, ih]
def hg (l n : Int) : Nat → List Int
  | 0 => hf l 4
  | j + 1 => (hg l n j).set (4 + j) (IntKind.u8.wrap (shrK .u64 n ((56 - 8 * j : Nat) : Int)))
theorem hg_len (l n : Int) (i : Nat) : (hg l n i).length = 16 := by
  induction i with
  | zero => exact hf_len _ _
  | succ i ih => rw [hg, List.length_set, ih]
theorem shr_w8 (k : IntKind) (hk : 56 < k.bits) (v b : Nat) (hv : v < 18446744073709551616) (hb : b ≤ 56) : shrK k (v : Int) (b : Int) = ((v / 2 ^ b : Nat) : Int) := by
  have e : min ((b : Int).toNat) k.bits = b := by simp; omega
  rw [shrK, e]
  have : (2 : Int) ^ b = ((2 ^ b : Nat) : Int) := by simp
  rw [this, Int.fdiv_eq_ediv_of_nonneg _ (Int.natCast_nonneg _)]
  rfl
theorem hg_eq (l n : Nat) (hl : l < 4294967296) (hn : n < 18446744073709551616) : hg (l : Int) (n : Int) 8 = fiL (ahL (l : Int) (n : Int)) := by
  have s32 : ∀ b : Nat, b ≤ 24 → shrK .u32 (l : Int) (b : Int) = ((l / 2 ^ b : Nat) : Int) := fun b hb => by
    have e : min ((b : Int).toNat) IntKind.u32.bits = b := by show min _ 32 = b; simp; omega
    rw [shrK, e]
    have : (2 : Int) ^ b = ((2 ^ b : Nat) : Int) := by simp
    rw [this, Int.fdiv_eq_ediv_of_nonneg _ (Int.natCast_nonneg _)]; rfl
  have s64 : ∀ b : Nat, b ≤ 56 → shrK .u64 (n : Int) (b : Int) = ((n / 2 ^ b : Nat) : Int) := fun b hb => shr_w8 .u64 (by decide) n b hn hb
  have e1 : hg (l : Int) (n : Int) 8 = [w8 (shrK .u32 l 24), w8 (shrK .u32 l 16), w8 (shrK .u32 l 8), w8 (shrK .u32 l 0), w8 (shrK .u64 n 56), w8 (shrK .u64 n 48), w8 (shrK .u64 n 40), w8 (shrK .u64 n 32), w8 (shrK .u64 n 24), w8 (shrK .u64 n 16), w8 (shrK .u64 n 8), w8 (shrK .u64 n 0), 0, 0, 0, 0] := rfl
  have e2 : fiL (ahL (l : Int) (n : Int)) = [w8 (d8 l 3), w8 (d8 l 2), w8 (d8 l 1), w8 (d8 l 0), w8 (d8 n 7), w8 (d8 n 6), w8 (d8 n 5), w8 (d8 n 4), w8 (d8 n 3), w8 (d8 n 2), w8 (d8 n 1), w8 (d8 n 0), 0, 0, 0, 0] := by rw [fiL, ahL_eq]; rfl
  have hl' : l < 18446744073709551616 := by omega
  have a (b : Nat) (h : b ≤ 24) (j : Nat) (hj : 8 * j = b) : w8 (shrK .u32 (l : Int) (b : Int)) = w8 (d8 (l : Int) j) := by
    rw [s32 b h, d8_n _ hl', ← hj, Nat.pow_mul]
  have c (b : Nat) (h : b ≤ 56) (j : Nat) (hj : 8 * j = b) : w8 (shrK .u64 (n : Int) (b : Int)) = w8 (d8 (n : Int) j) := by
    rw [s64 b h, d8_n _ hn, ← hj, Nat.pow_mul]
  rw [e1, e2]
  congr 1
  · exact a 24 (by omega) 3 rfl
  congr 1
  · exact a 16 (by omega) 2 rfl
  congr 1
  · exact a 8 (by omega) 1 rfl
  congr 1
  · exact a 0 (by omega) 0 rfl
  congr 1
  · exact c 56 (by omega) 7 rfl
  congr 1
  · exact c 48 (by omega) 6 rfl
  congr 1
  · exact c 40 (by omega) 5 rfl
  congr 1
  · exact c 32 (by omega) 4 rfl
  congr 1
  · exact c 24 (by omega) 3 rfl
  congr 1
  · exact c 16 (by omega) 2 rfl
  congr 1
  · exact c 8 (by omega) 1 rfl
  congr 1
  · exact c 0 (by omega) 0 rfl
theorem fiL_getD (x : List Int) (k : Nat) (hk : k < 12) : (fiL x).getD k 0 = x.getD (1 + k) 0 := by
  rw [fiL, spl_getD _ _ _ _ _ _ (by omega), if_pos ⟨by omega, by omega⟩, getD_dt _ _ _ _ (by omega)]
  simp
theorem seal_first (M C : List Int) (l n : Int) (B : List Int) (len : Nat) : (((sealL M C l n B len).drop (0 + 1)).take 12) = (((fiL (ahL l n)).drop 0).take 12) := by
  refine eq_getD (n := 12) (by simp [sealL_len]; omega) (by simp [fiL_len]) fun k hk => ?_
  rw [cut_getD _ _ _ _ hk, getD_dt _ _ _ _ hk, Nat.zero_add, fiL_getD _ _ hk, seal_ah _ _ _ _ _ _ _ (by omega)]
theorem seal_last (M C : List Int) (l n : Int) (B : List Int) (len : Nat) : (((sealL M C l n B len).drop (0 + (13 + len))).take 16) = (((sMac M (sealL M C l n B len) (13 + len)).drop 0).take 16) := by
  refine eq_getD (n := 16) (by simp [sealL_len]; omega) (by simp [sMac_len]) fun k hk => ?_
  rw [cut_getD _ _ _ _ hk, getD_dt _ _ _ _ hk, Nat.zero_add, seal_same _ _ _ _ _ _ _ hk]
end Go.Proofs.X
end
