/- What the document's answer of layer 9 computes, block by block; and that it is what the program's computes. -/
import Derived.Test.YtffflnpidipheaaRefSpec
open Go Go.Ab Go.Proofs
namespace Go.Proofs.X
/-! The words -/
def rrow (W : List Int) (j : Nat) : List Int := (W.drop ((j + 3) * 4)).take 4
def rkS (W x : List Int) (j : Nat) : Nat → List Int
  | 0 => W
  | k + 1 => (rkS W x j k).set ((j + 4) * 4 + k) (xorK .u8 ((rkS W x j k).getD (j * 4 + k) 0) (x.getD k 0))
theorem rkS_len (W x : List Int) (j k : Nat) : (rkS W x j k).length = W.length := by
  induction k with
  | zero => rfl
  | succ k ih => simp [rkS, ih]
def rsub (S x : List Int) (b : Int) : List Int := [xorK .u8 (S.getD (x.getD 1 0).toNat 0) b, S.getD (x.getD 2 0).toNat 0, S.getD (x.getD 3 0).toNat 0, S.getD (x.getD 0 0).toNat 0]
def rxx (S W : List Int) (j : Nat) (b : Int) : Int × List Int := if (j + 4) % 4 = 0 then (timI b 2, rsub S (rrow W j) b) else (b, rrow W j)
def rkey (key : List Int) (i : Nat) : List Int := [key.getD (4 * i) 0, key.getD (4 * i + 1) 0, key.getD (4 * i + 2) 0, key.getD (4 * i + 3) 0]
def rows (S key : List Int) : Nat → Int × List Int
  | 0 => (1, z 176)
  | i + 1 => if i < 4 then ((rows S key i).1, spl (rows S key i).2 (rkey key i) (i * 4) 4 176)
      else ((rxx S (rows S key i).2 (i - 4) (rows S key i).1).1, rkS (rows S key i).2 (rxx S (rows S key i).2 (i - 4) (rows S key i).1).2 (i - 4) 4)
theorem rows_len (S key : List Int) (i : Nat) : (rows S key i).2.length = 176 := by
  induction i with
  | zero => exact z_len _
  | succ i ih =>
    simp only [rows]
    split
    · simp [spl]
    · rw [rkS_len, ih]
theorem U8_rkS {W x : List Int} (h : U8 W) (j k : Nat) : U8 (rkS W x j k) := by
  induction k with
  | zero => exact h
  | succ k ih => exact ih.set _ (xorK_u8_range _ _)
theorem U8_rkey {key : List Int} (h : U8 key) (i : Nat) : U8 (rkey key i) := U8_mem fun x hx => by
  simp only [rkey, List.mem_cons, List.not_mem_nil, or_false] at hx
  rcases hx with rfl | rfl | rfl | rfl <;> exact h _
theorem U8_rows {S key : List Int} (hk : U8 key) (i : Nat) : U8 (rows S key i).2 := by
  induction i with
  | zero => exact U8_z _
  | succ i ih =>
    simp only [rows]
    split
    · exact U8_spl ih (U8_rkey hk _) _ _ _
    · exact U8_rkS ih _ _
theorem rows_s1 (S key : List Int) (i : Nat) (h : i < 4) : rows S key (i + 1) = ((rows S key i).1, spl (rows S key i).2 (rkey key i) (i * 4) 4 176) := by simp only [rows]; rw [if_pos h]
theorem rows_s2 (S key : List Int) (j : Nat) : rows S key (j + 4 + 1) = ((rxx S (rows S key (j + 4)).2 j (rows S key (j + 4)).1).1, rkS (rows S key (j + 4)).2 (rxx S (rows S key (j + 4)).2 j (rows S key (j + 4)).1).2 j 4) := by
  rw [rows]; rw [if_neg (by omega), Nat.add_sub_cancel]
theorem xorK_comm (a b : Int) : xorK .u8 a b = xorK .u8 b a := by
  have e : ∀ m n : Int, xorK .u8 m n = IntKind.u8.wrap ((BitVec.ofInt 8 m ^^^ BitVec.ofInt 8 n).toNat : Int) := fun _ _ => rfl
  rw [e, e, BitVec.xor_comm]
theorem rkS_get (W x : List Int) (j k m : Nat) (hk : k ≤ 4) (hl : (j + 4) * 4 + 4 ≤ W.length) : (rkS W x j k).getD m 0 = if (j + 4) * 4 ≤ m ∧ m < (j + 4) * 4 + k then xorK .u8 (W.getD (j * 4 + (m - (j + 4) * 4)) 0) (x.getD (m - (j + 4) * 4) 0) else W.getD m 0 := by
  induction k generalizing m with
  | zero => rw [if_neg (by omega)]; rfl
  | succ k ih =>
    rw [rkS, getD_set, rkS_len, ih _ (by omega), ih _ (by omega), if_neg (show ¬ ((j + 4) * 4 ≤ j * 4 + k ∧ j * 4 + k < (j + 4) * 4 + k) by omega)]
    by_cases h : (j + 4) * 4 + k = m
    · subst h
      rw [if_pos ⟨rfl, by omega⟩, if_pos (by omega), Nat.add_sub_cancel_left]
    · rw [if_neg (fun e => h e.1)]
      by_cases h2 : (j + 4) * 4 ≤ m ∧ m < (j + 4) * 4 + k
      · rw [if_pos h2, if_pos (by omega)]
      · rw [if_neg h2, if_neg (by omega)]
theorem kw_inv (was wd K : List Int) (n' i : Nat) (hw : wd.length = 4) (hK : n' * 16 + 16 ≤ K.length) (hi : i ≤ 16) :
    (∀ m, (m < n' * 16 ∨ n' * 16 + i ≤ m) → (kw was wd K n' i).2.getD m 0 = K.getD m 0) ∧
    (∀ c, c < i → (kw was wd K n' i).2.getD (n' * 16 + c) 0 = xorK .u8 (if c < 4 then wd.getD c 0 else (kw was wd K n' i).2.getD (n' * 16 + c - 4) 0) (was.getD c 0)) ∧
    (∀ j, j < 4 → (kw was wd K n' i).1.getD j 0 = if i ≤ j then wd.getD j 0 else (kw was wd K n' i).2.getD (n' * 16 + (i - 1 - (i - 1 - j) % 4)) 0) := by
  induction i with
  | zero => exact ⟨fun _ _ => rfl, fun c hc => by omega, fun j _ => by rw [if_pos (by omega)]; rfl⟩
  | succ i ih =>
    obtain ⟨h1, h2, h3⟩ := ih (by omega)
    have lD := (kw_len was wd K n' i).1
    have lL := (kw_len was wd K n' i).2
    simp only [kw]
    generalize (kw was wd K n' i).1 = D at *
    generalize (kw was wd K n' i).2 = L at *
    have e1 : (D.set (i % 4) (xorK .u8 (D.getD (i % 4) 0) (was.getD i 0))).getD (i % 4) 0 = xorK .u8 (D.getD (i % 4) 0) (was.getD i 0) := by rw [getD_set, if_pos ⟨rfl, by omega⟩]
    rw [e1]
    have hv : D.getD (i % 4) 0 = if i < 4 then wd.getD i 0 else L.getD (n' * 16 + i - 4) 0 := by
      rw [h3 _ (by omega)]
      by_cases h4 : i < 4
      · rw [if_pos (by omega), if_pos h4, Nat.mod_eq_of_lt h4]
      · rw [if_neg (by omega), if_neg h4, show n' * 16 + (i - 1 - (i - 1 - i % 4) % 4) = n' * 16 + i - 4 by omega]
    generalize hvv : xorK .u8 (D.getD (i % 4) 0) (was.getD i 0) = v at *
    refine ⟨fun m hm => ?_, fun c hc => ?_, fun j hj => ?_⟩
    · rw [getD_set, if_neg (by omega), h1 m (by omega)]
    · have hin : (if c < 4 then wd.getD c 0 else (L.set (n' * 16 + i) v).getD (n' * 16 + c - 4) 0) = if c < 4 then wd.getD c 0 else L.getD (n' * 16 + c - 4) 0 := by
        split
        · rfl
        · rw [getD_set, if_neg (by omega)]
      rw [hin, getD_set]
      by_cases h5 : c = i
      · subst h5
        rw [if_pos ⟨rfl, by omega⟩, ← hvv, hv]
      · rw [if_neg (by omega), h2 c (by omega)]
    · rw [getD_set, getD_set]
      by_cases h5 : i % 4 = j
      · rw [if_pos ⟨h5, by omega⟩, if_neg (by omega), if_pos ⟨by omega, by omega⟩]
      · rw [if_neg (fun e => h5 e.1), h3 j hj]
        by_cases h6 : i ≤ j
        · rw [if_pos h6, if_pos (by omega)]
        · rw [if_neg h6, if_neg (by omega), if_neg (by omega), show n' * 16 + (i + 1 - 1 - (i + 1 - 1 - j) % 4) = n' * 16 + (i - 1 - (i - 1 - j) % 4) by omega]
theorem spl_get (xs ys : List Int) (i n m k : Nat) (hk : k < m) : (spl xs ys i n m).getD k 0 = if i ≤ k ∧ k < i + n then ys.getD (k - i) 0 else xs.getD k 0 := by
  simp [spl, List.getD_eq_getElem?_getD, hk]
theorem rkey_get (key : List Int) (i k : Nat) (hk : k < 4) : (rkey key i).getD k 0 = key.getD (4 * i + k) 0 := by
  match k, hk with
  | 0, _ => rfl
  | 1, _ => rfl
  | 2, _ => rfl
  | 3, _ => rfl
theorem rows_4 (S key : List Int) : rows S key 4 = ks S key 0 := by
  rw [rows_s1 S key 3 (by omega), rows_s1 S key 2 (by omega), rows_s1 S key 1 (by omega), rows_s1 S key 0 (by omega)]
  refine Prod.ext rfl (list_get (n := 176) (by simp [spl]) (by simp [ks, spl]) fun m hm => ?_)
  show (spl (spl (spl (spl (z 176) (rkey key 0) (0 * 4) 4 176) (rkey key 1) (1 * 4) 4 176) (rkey key 2) (2 * 4) 4 176) (rkey key 3) (3 * 4) 4 176).getD m 0 = (spl (z 176) key 0 16 176).getD m 0
  rw [spl_get _ _ _ _ _ _ hm, spl_get _ _ _ _ _ _ hm, spl_get _ _ _ _ _ _ hm, spl_get _ _ _ _ _ _ hm, spl_get _ _ _ _ _ _ hm]
  by_cases h3 : 3 * 4 ≤ m ∧ m < 3 * 4 + 4
  · rw [if_pos h3, if_pos (by omega), rkey_get _ _ _ (by omega), show 4 * 3 + (m - 3 * 4) = m - 0 by omega]
  rw [if_neg h3]
  by_cases h2 : 2 * 4 ≤ m ∧ m < 2 * 4 + 4
  · rw [if_pos h2, if_pos (by omega), rkey_get _ _ _ (by omega), show 4 * 2 + (m - 2 * 4) = m - 0 by omega]
  rw [if_neg h2]
  by_cases h1 : 1 * 4 ≤ m ∧ m < 1 * 4 + 4
  · rw [if_pos h1, if_pos (by omega), rkey_get _ _ _ (by omega), show 4 * 1 + (m - 1 * 4) = m - 0 by omega]
  rw [if_neg h1]
  by_cases h0 : 0 * 4 ≤ m ∧ m < 0 * 4 + 4
  · rw [if_pos h0, if_pos (by omega), rkey_get _ _ _ (by omega), show 4 * 0 + (m - 0 * 4) = m - 0 by omega]
  rw [if_neg h0, if_neg (by omega)]
theorem rrow_get (W : List Int) (j k : Nat) (hk : k < 4) : (rrow W j).getD k 0 = W.getD ((j + 3) * 4 + k) 0 := by
  rw [rrow, take_getD _ _ _ hk, drop_getD]
theorem kwas_get (K : List Int) (n i : Nat) (hi : i < 16) : (kwas K n).getD i 0 = K.getD (n * 16 + i) 0 := by
  rw [kwas, take_getD _ _ _ hi, drop_getD]
theorem rsub_word (S K : List Int) (n : Nat) (b : Int) (c : Nat) (hc : c < 4) : (rsub S (rrow K (4 * n)) b).getD c 0 = (word S K n b).getD c 0 := by
  have e : ∀ k, k < 4 → (rrow K (4 * n)).getD k 0 = (kwas K n).getD (12 + k) 0 := fun k hk => by
    rw [rrow_get _ _ _ hk, kwas_get _ _ _ (by omega), show (4 * n + 3) * 4 + k = n * 16 + (12 + k) by omega]
  match c, hc with
  | 0, _ => show xorK .u8 (S.getD ((rrow K (4 * n)).getD 1 0).toNat 0) b = xorK .u8 (S.getD ((kwas K n).getD 13 0).toNat 0) b; rw [e 1 (by omega)]
  | 1, _ => show S.getD ((rrow K (4 * n)).getD 2 0).toNat 0 = S.getD ((kwas K n).getD 14 0).toNat 0; rw [e 2 (by omega)]
  | 2, _ => show S.getD ((rrow K (4 * n)).getD 3 0).toNat 0 = S.getD ((kwas K n).getD 15 0).toNat 0; rw [e 3 (by omega)]
  | 3, _ => show S.getD ((rrow K (4 * n)).getD 0 0).toNat 0 = S.getD ((kwas K n).getD 12 0).toNat 0; rw [e 0 (by omega)]
theorem rxx_0 (S W : List Int) (j : Nat) (b : Int) (h : (j + 4) % 4 = 0) : rxx S W j b = (timI b 2, rsub S (rrow W j) b) := if_pos h
theorem rxx_1 (S W : List Int) (j : Nat) (b : Int) (h : ¬ (j + 4) % 4 = 0) : rxx S W j b = (b, rrow W j) := if_neg h
/-- Four rows are a round. -/
theorem rows_round (S K : List Int) (n : Nat) (b : Int) (hK : K.length = 176) (hn : n < 10) (x0 : List Int) (hx : ∀ c, c < 4 → x0.getD c 0 = (word S K n b).getD c 0) (W1 W2 W3 W4 : List Int)
    (e1 : W1 = rkS K x0 (4 * n) 4) (e2 : W2 = rkS W1 (rrow W1 (4 * n + 1)) (4 * n + 1) 4) (e3 : W3 = rkS W2 (rrow W2 (4 * n + 2)) (4 * n + 2) 4) (e4 : W4 = rkS W3 (rrow W3 (4 * n + 3)) (4 * n + 3) 4) :
    W4 = (kw (kwas K n) (word S K n b) K (n + 1) 16).2 := by
  have l1 : W1.length = 176 := by rw [e1, rkS_len, hK]
  have l2 : W2.length = 176 := by rw [e2, rkS_len, l1]
  have l3 : W3.length = 176 := by rw [e3, rkS_len, l2]
  have l4 : W4.length = 176 := by rw [e4, rkS_len, l3]
  obtain ⟨k1, k2, _⟩ := kw_inv (kwas K n) (word S K n b) K (n + 1) 16 rfl (by omega) (by omega)
  have lk : (kw (kwas K n) (word S K n b) K (n + 1) 16).2.length = 176 := by rw [(kw_len _ _ _ _ _).2, hK]
  generalize (kw (kwas K n) (word S K n b) K (n + 1) 16).2 = L at *
  have g1 := fun m => rkS_get K x0 (4 * n) 4 m (by omega) (by omega)
  have g2 := fun m => rkS_get W1 (rrow W1 (4 * n + 1)) (4 * n + 1) 4 m (by omega) (by omega)
  have g3 := fun m => rkS_get W2 (rrow W2 (4 * n + 2)) (4 * n + 2) 4 m (by omega) (by omega)
  have g4 := fun m => rkS_get W3 (rrow W3 (4 * n + 3)) (4 * n + 3) 4 m (by omega) (by omega)
  rw [← e1] at g1
  rw [← e2] at g2
  rw [← e3] at g3
  rw [← e4] at g4
  have old1 : ∀ m, m < (n + 1) * 16 → W1.getD m 0 = K.getD m 0 := fun m h => by rw [g1, if_neg (by omega)]
  have old2 : ∀ m, m < (n + 1) * 16 → W2.getD m 0 = K.getD m 0 := fun m h => by rw [g2, if_neg (by omega), old1 m h]
  have old3 : ∀ m, m < (n + 1) * 16 → W3.getD m 0 = K.getD m 0 := fun m h => by rw [g3, if_neg (by omega), old2 m h]
  have r1 : ∀ c, c < 4 → W1.getD ((n + 1) * 16 + c) 0 = L.getD ((n + 1) * 16 + c) 0 := fun c hc => by
    rw [g1, if_pos (by omega), k2 c (by omega), if_pos hc, show (n + 1) * 16 + c - (4 * n + 4) * 4 = c by omega, hx c hc, kwas_get _ _ _ (by omega), xorK_comm, show 4 * n * 4 + c = n * 16 + c by omega]
  have r2 : ∀ c, c < 4 → W2.getD ((n + 1) * 16 + 4 + c) 0 = L.getD ((n + 1) * 16 + 4 + c) 0 := fun c hc => by
    rw [g2, if_pos (by omega), show (n + 1) * 16 + 4 + c = (n + 1) * 16 + (4 + c) by omega, k2 (4 + c) (by omega), if_neg (by omega), show (n + 1) * 16 + (4 + c) - (4 * n + 1 + 4) * 4 = c by omega, rrow_get _ _ _ hc, show (4 * n + 1 + 3) * 4 + c = (n + 1) * 16 + c by omega, r1 c hc, old1 _ (by omega), kwas_get _ _ _ (by omega), xorK_comm, show (4 * n + 1) * 4 + c = n * 16 + (4 + c) by omega, show (n + 1) * 16 + (4 + c) - 4 = (n + 1) * 16 + c by omega]
  have r3 : ∀ c, c < 4 → W3.getD ((n + 1) * 16 + 8 + c) 0 = L.getD ((n + 1) * 16 + 8 + c) 0 := fun c hc => by
    rw [g3, if_pos (by omega), show (n + 1) * 16 + 8 + c = (n + 1) * 16 + (8 + c) by omega, k2 (8 + c) (by omega), if_neg (by omega), show (n + 1) * 16 + (8 + c) - (4 * n + 2 + 4) * 4 = c by omega, rrow_get _ _ _ hc, show (4 * n + 2 + 3) * 4 + c = (n + 1) * 16 + 4 + c by omega, r2 c hc, old2 _ (by omega), kwas_get _ _ _ (by omega), xorK_comm, show (4 * n + 2) * 4 + c = n * 16 + (8 + c) by omega, show (n + 1) * 16 + (8 + c) - 4 = (n + 1) * 16 + 4 + c by omega]
  have r4 : ∀ c, c < 4 → W4.getD ((n + 1) * 16 + 12 + c) 0 = L.getD ((n + 1) * 16 + 12 + c) 0 := fun c hc => by
    rw [g4, if_pos (by omega), show (n + 1) * 16 + 12 + c = (n + 1) * 16 + (12 + c) by omega, k2 (12 + c) (by omega), if_neg (by omega), show (n + 1) * 16 + (12 + c) - (4 * n + 3 + 4) * 4 = c by omega, rrow_get _ _ _ hc, show (4 * n + 3 + 3) * 4 + c = (n + 1) * 16 + 8 + c by omega, r3 c hc, old3 _ (by omega), kwas_get _ _ _ (by omega), xorK_comm, show (4 * n + 3) * 4 + c = n * 16 + (12 + c) by omega, show (n + 1) * 16 + (12 + c) - 4 = (n + 1) * 16 + 8 + c by omega]
  refine list_get l4 lk fun m hm => ?_
  by_cases ha : m < (n + 1) * 16 ∨ (n + 1) * 16 + 16 ≤ m
  · rw [k1 m ha, g4, if_neg (by omega), g3, if_neg (by omega), g2, if_neg (by omega), g1, if_neg (by omega)]
  · by_cases h1 : m < (n + 1) * 16 + 4
    · have := r1 (m - (n + 1) * 16) (by omega)
      rw [show (n + 1) * 16 + (m - (n + 1) * 16) = m by omega] at this
      rw [← this, g4, if_neg (by omega), g3, if_neg (by omega), g2, if_neg (by omega)]
    · by_cases h2 : m < (n + 1) * 16 + 8
      · have := r2 (m - ((n + 1) * 16 + 4)) (by omega)
        rw [show (n + 1) * 16 + 4 + (m - ((n + 1) * 16 + 4)) = m by omega] at this
        rw [← this, g4, if_neg (by omega), g3, if_neg (by omega)]
      · by_cases h3 : m < (n + 1) * 16 + 12
        · have := r3 (m - ((n + 1) * 16 + 8)) (by omega)
          rw [show (n + 1) * 16 + 8 + (m - ((n + 1) * 16 + 8)) = m by omega] at this
          rw [← this, g4, if_neg (by omega)]
        · have := r4 (m - ((n + 1) * 16 + 12)) (by omega)
          rw [show (n + 1) * 16 + 12 + (m - ((n + 1) * 16 + 12)) = m by omega] at this
          rw [this]
theorem ks_by (S key : List Int) (n : Nat) : ∃ x, (ks S key n).1 = e8 x := by
  induction n with
  | zero => exact ⟨1, rfl⟩
  | succ n ih =>
    obtain ⟨x, hx⟩ := ih
    exact ⟨tw x, by rw [show (ks S key (n + 1)).1 = twiceI (ks S key n).1 from rfl, hx, twice_e]⟩
theorem rows_ks (S key : List Int) (n : Nat) (hn : n ≤ 10) : rows S key (4 * n + 4) = ks S key n := by
  induction n with
  | zero => exact rows_4 S key
  | succ n ih =>
    have ih := ih (by omega)
    obtain ⟨x, hx⟩ := ks_by S key n
    have s1 := rows_s2 S key (4 * n)
    have s2 := rows_s2 S key (4 * n + 1)
    have s3 := rows_s2 S key (4 * n + 2)
    have s4 := rows_s2 S key (4 * n + 3)
    rw [ih, rxx_0 _ _ _ _ (by omega)] at s1
    rw [rxx_1 _ _ _ _ (by omega), show 4 * n + 1 + 4 = 4 * n + 4 + 1 by omega] at s2
    rw [rxx_1 _ _ _ _ (by omega), show 4 * n + 2 + 4 = 4 * n + 4 + 1 + 1 by omega] at s3
    rw [rxx_1 _ _ _ _ (by omega), show 4 * n + 3 + 4 = 4 * n + 4 + 1 + 1 + 1 by omega] at s4
    rw [show 4 * (n + 1) + 4 = 4 * n + 4 + 1 + 1 + 1 + 1 by omega]
    have hr := rows_round S (ks S key n).2 n (ks S key n).1 (ks_len S key n) (by omega) (rsub S (rrow (ks S key n).2 (4 * n)) (ks S key n).1) (fun c hc => rsub_word _ _ _ _ c hc) _ _ _ _ rfl rfl rfl rfl
    have hb : timI (ks S key n).1 2 = twiceI (ks S key n).1 := by rw [hx, tim2, twice_e]
    rw [s4, s3, s2, s1]
    show (_, _) = (twiceI (ks S key n).1, _)
    rw [← hr, hb]
theorem rows_eq (key : List Int) : (rows SB key 44).2 = keysOf key := by
  unfold keysOf
  rw [← rows_ks SB key 10 (by omega)]
/-! The rounds -/
def rx0 (b W : List Int) : Nat → List Int
  | 0 => b
  | i + 1 => (rx0 b W i).set i (xorK .u8 ((rx0 b W i).getD i 0) (W.getD (i / 4 * 4 + i % 4) 0))
def rxn (b W : List Int) (n : Nat) : Nat → List Int
  | 0 => b
  | i + 1 => (rxn b W n i).set i (xorK .u8 ((rxn b W n i).getD i 0) (W.getD ((4 * n + i / 4) * 4 + i % 4) 0))
def rset (b c W : List Int) (n : Nat) : Nat → List Int
  | 0 => b
  | i + 1 => (rset b c W n i).set i (xorK .u8 (c.getD i 0) (W.getD ((4 * n + i / 4) * 4 + i % 4) 0))
theorem rx0_len (b W : List Int) (i : Nat) : (rx0 b W i).length = b.length := by
  induction i with
  | zero => rfl
  | succ i ih => simp [rx0, ih]
theorem rxn_len (b W : List Int) (n i : Nat) : (rxn b W n i).length = b.length := by
  induction i with
  | zero => rfl
  | succ i ih => simp [rxn, ih]
theorem rset_len (b c W : List Int) (n i : Nat) : (rset b c W n i).length = b.length := by
  induction i with
  | zero => rfl
  | succ i ih => simp [rset, ih]
theorem rx0_to (b W : List Int) (i : Nat) (hi : i ≤ 16) : rx0 b W i = xorTo b (kwas W 0) i := by
  induction i with
  | zero => rfl
  | succ i ih => rw [rx0, xorTo, ih (by omega), kwas_get _ _ _ (by omega), show i / 4 * 4 + i % 4 = 0 * 16 + i by omega]
theorem rxn_to (b W : List Int) (n i : Nat) (hi : i ≤ 16) : rxn b W n i = xorTo b (kwas W n) i := by
  induction i with
  | zero => rfl
  | succ i ih => rw [rxn, xorTo, ih (by omega), kwas_get _ _ _ (by omega), show (4 * n + i / 4) * 4 + i % 4 = n * 16 + i by omega]
theorem rx0_eq (b W : List Int) : rx0 b W 16 = xor16 b (kwas W 0) := by rw [rx0_to _ _ _ (by omega)]; unfold xor16; rfl
theorem rxn_eq (b W : List Int) (n : Nat) : rxn b W n 16 = xor16 b (kwas W n) := by rw [rxn_to _ _ _ _ (by omega)]; unfold xor16; rfl
theorem rset_get (b c W : List Int) (n i m : Nat) (hb : b.length = 16) (hi : i ≤ 16) : (rset b c W n i).getD m 0 = if m < i then xorK .u8 (c.getD m 0) ((kwas W n).getD m 0) else b.getD m 0 := by
  induction i with
  | zero => rw [if_neg (by omega)]; rfl
  | succ i ih =>
    rw [rset, getD_set, rset_len, ih (by omega)]
    by_cases h : i = m
    · subst h
      rw [if_pos ⟨rfl, by omega⟩, if_pos (by omega), kwas_get _ _ _ (by omega), show (4 * n + i / 4) * 4 + i % 4 = n * 16 + i by omega]
    · rw [if_neg (fun e => h e.1)]
      by_cases h2 : m < i
      · rw [if_pos h2, if_pos (by omega)]
      · rw [if_neg h2, if_neg (by omega)]
theorem rset_eq (b c W : List Int) (n : Nat) (hb : b.length = 16) (hc : c.length = 16) : rset b c W n 16 = xor16 c (kwas W n) :=
  list_get ((rset_len _ _ _ _ _).trans hb) ((xor16_len _ _).trans hc) fun m hm => by
    rw [rset_get _ _ _ _ _ _ hb (by omega), if_pos hm, xor16_get _ _ _ hc hm]
def rmix1 (b : List Int) (k : Nat) (p q r t : Int) : List Int := (((b.set (4 * k) (xorK .u8 (xorK .u8 (xorK .u8 (timI p 2) (timI q 3)) r) t)).set (4 * k + 1) (xorK .u8 (xorK .u8 (xorK .u8 p (timI q 2)) (timI r 3)) t)).set (4 * k + 2) (xorK .u8 (xorK .u8 (xorK .u8 p q) (timI r 2)) (timI t 3))).set (4 * k + 3) (xorK .u8 (xorK .u8 (xorK .u8 (timI p 3) q) r) (timI t 2))
def rmixN (b : List Int) : Nat → List Int
  | 0 => b
  | k + 1 => rmix1 (rmixN b k) k ((rmixN b k).getD (4 * k) 0) ((rmixN b k).getD (4 * k + 1) 0) ((rmixN b k).getD (4 * k + 2) 0) ((rmixN b k).getD (4 * k + 3) 0)
theorem rmixN_len (b : List Int) (k : Nat) : (rmixN b k).length = b.length := by
  induction k with
  | zero => rfl
  | succ k ih => simp [rmixN, rmix1, ih]
theorem U8_rmixN {b : List Int} (h : U8 b) (k : Nat) : U8 (rmixN b k) := by
  induction k with
  | zero => exact h
  | succ k ih => exact (((ih.set _ (xorK_u8_range _ _)).set _ (xorK_u8_range _ _)).set _ (xorK_u8_range _ _)).set _ (xorK_u8_range _ _)
theorem rmix1_0 (a0 a1 a2 a3 a4 a5 a6 a7 a8 a9 a10 a11 a12 a13 a14 a15 : Int) : rmix1 [a0, a1, a2, a3, a4, a5, a6, a7, a8, a9, a10, a11, a12, a13, a14, a15] 0 a0 a1 a2 a3 = [xorK .u8 (xorK .u8 (xorK .u8 (timI a0 2) (timI a1 3)) a2) a3, xorK .u8 (xorK .u8 (xorK .u8 a0 (timI a1 2)) (timI a2 3)) a3, xorK .u8 (xorK .u8 (xorK .u8 a0 a1) (timI a2 2)) (timI a3 3), xorK .u8 (xorK .u8 (xorK .u8 (timI a0 3) a1) a2) (timI a3 2), a4, a5, a6, a7, a8, a9, a10, a11, a12, a13, a14, a15] := rfl
theorem rmix1_1 (a0 a1 a2 a3 a4 a5 a6 a7 a8 a9 a10 a11 a12 a13 a14 a15 : Int) : rmix1 [a0, a1, a2, a3, a4, a5, a6, a7, a8, a9, a10, a11, a12, a13, a14, a15] 1 a4 a5 a6 a7 = [a0, a1, a2, a3, xorK .u8 (xorK .u8 (xorK .u8 (timI a4 2) (timI a5 3)) a6) a7, xorK .u8 (xorK .u8 (xorK .u8 a4 (timI a5 2)) (timI a6 3)) a7, xorK .u8 (xorK .u8 (xorK .u8 a4 a5) (timI a6 2)) (timI a7 3), xorK .u8 (xorK .u8 (xorK .u8 (timI a4 3) a5) a6) (timI a7 2), a8, a9, a10, a11, a12, a13, a14, a15] := rfl
theorem rmix1_2 (a0 a1 a2 a3 a4 a5 a6 a7 a8 a9 a10 a11 a12 a13 a14 a15 : Int) : rmix1 [a0, a1, a2, a3, a4, a5, a6, a7, a8, a9, a10, a11, a12, a13, a14, a15] 2 a8 a9 a10 a11 = [a0, a1, a2, a3, a4, a5, a6, a7, xorK .u8 (xorK .u8 (xorK .u8 (timI a8 2) (timI a9 3)) a10) a11, xorK .u8 (xorK .u8 (xorK .u8 a8 (timI a9 2)) (timI a10 3)) a11, xorK .u8 (xorK .u8 (xorK .u8 a8 a9) (timI a10 2)) (timI a11 3), xorK .u8 (xorK .u8 (xorK .u8 (timI a8 3) a9) a10) (timI a11 2), a12, a13, a14, a15] := rfl
theorem rmix1_3 (a0 a1 a2 a3 a4 a5 a6 a7 a8 a9 a10 a11 a12 a13 a14 a15 : Int) : rmix1 [a0, a1, a2, a3, a4, a5, a6, a7, a8, a9, a10, a11, a12, a13, a14, a15] 3 a12 a13 a14 a15 = [a0, a1, a2, a3, a4, a5, a6, a7, a8, a9, a10, a11, xorK .u8 (xorK .u8 (xorK .u8 (timI a12 2) (timI a13 3)) a14) a15, xorK .u8 (xorK .u8 (xorK .u8 a12 (timI a13 2)) (timI a14 3)) a15, xorK .u8 (xorK .u8 (xorK .u8 a12 a13) (timI a14 2)) (timI a15 3), xorK .u8 (xorK .u8 (xorK .u8 (timI a12 3) a13) a14) (timI a15 2)] := rfl
theorem rmixN_16 (a0 a1 a2 a3 a4 a5 a6 a7 a8 a9 a10 a11 a12 a13 a14 a15 : Int) : rmixN [a0, a1, a2, a3, a4, a5, a6, a7, a8, a9, a10, a11, a12, a13, a14, a15] 4 = [xorK .u8 (xorK .u8 (xorK .u8 (timI a0 2) (timI a1 3)) a2) a3, xorK .u8 (xorK .u8 (xorK .u8 a0 (timI a1 2)) (timI a2 3)) a3, xorK .u8 (xorK .u8 (xorK .u8 a0 a1) (timI a2 2)) (timI a3 3), xorK .u8 (xorK .u8 (xorK .u8 (timI a0 3) a1) a2) (timI a3 2), xorK .u8 (xorK .u8 (xorK .u8 (timI a4 2) (timI a5 3)) a6) a7, xorK .u8 (xorK .u8 (xorK .u8 a4 (timI a5 2)) (timI a6 3)) a7, xorK .u8 (xorK .u8 (xorK .u8 a4 a5) (timI a6 2)) (timI a7 3), xorK .u8 (xorK .u8 (xorK .u8 (timI a4 3) a5) a6) (timI a7 2), xorK .u8 (xorK .u8 (xorK .u8 (timI a8 2) (timI a9 3)) a10) a11, xorK .u8 (xorK .u8 (xorK .u8 a8 (timI a9 2)) (timI a10 3)) a11, xorK .u8 (xorK .u8 (xorK .u8 a8 a9) (timI a10 2)) (timI a11 3), xorK .u8 (xorK .u8 (xorK .u8 (timI a8 3) a9) a10) (timI a11 2), xorK .u8 (xorK .u8 (xorK .u8 (timI a12 2) (timI a13 3)) a14) a15, xorK .u8 (xorK .u8 (xorK .u8 a12 (timI a13 2)) (timI a14 3)) a15, xorK .u8 (xorK .u8 (xorK .u8 a12 a13) (timI a14 2)) (timI a15 3), xorK .u8 (xorK .u8 (xorK .u8 (timI a12 3) a13) a14) (timI a15 2)] := by
  have s := fun b k => show rmixN b (k + 1) = rmix1 (rmixN b k) k ((rmixN b k).getD (4 * k) 0) ((rmixN b k).getD (4 * k + 1) 0) ((rmixN b k).getD (4 * k + 2) 0) ((rmixN b k).getD (4 * k + 3) 0) from rfl
  have h0 : rmixN [a0, a1, a2, a3, a4, a5, a6, a7, a8, a9, a10, a11, a12, a13, a14, a15] 1 = [xorK .u8 (xorK .u8 (xorK .u8 (timI a0 2) (timI a1 3)) a2) a3, xorK .u8 (xorK .u8 (xorK .u8 a0 (timI a1 2)) (timI a2 3)) a3, xorK .u8 (xorK .u8 (xorK .u8 a0 a1) (timI a2 2)) (timI a3 3), xorK .u8 (xorK .u8 (xorK .u8 (timI a0 3) a1) a2) (timI a3 2), a4, a5, a6, a7, a8, a9, a10, a11, a12, a13, a14, a15] := by
    rw [s]
    rw [show rmixN [a0, a1, a2, a3, a4, a5, a6, a7, a8, a9, a10, a11, a12, a13, a14, a15] 0 = [a0, a1, a2, a3, a4, a5, a6, a7, a8, a9, a10, a11, a12, a13, a14, a15] from rfl]
    rfl
  have h1 : rmixN [a0, a1, a2, a3, a4, a5, a6, a7, a8, a9, a10, a11, a12, a13, a14, a15] 2 = [xorK .u8 (xorK .u8 (xorK .u8 (timI a0 2) (timI a1 3)) a2) a3, xorK .u8 (xorK .u8 (xorK .u8 a0 (timI a1 2)) (timI a2 3)) a3, xorK .u8 (xorK .u8 (xorK .u8 a0 a1) (timI a2 2)) (timI a3 3), xorK .u8 (xorK .u8 (xorK .u8 (timI a0 3) a1) a2) (timI a3 2), xorK .u8 (xorK .u8 (xorK .u8 (timI a4 2) (timI a5 3)) a6) a7, xorK .u8 (xorK .u8 (xorK .u8 a4 (timI a5 2)) (timI a6 3)) a7, xorK .u8 (xorK .u8 (xorK .u8 a4 a5) (timI a6 2)) (timI a7 3), xorK .u8 (xorK .u8 (xorK .u8 (timI a4 3) a5) a6) (timI a7 2), a8, a9, a10, a11, a12, a13, a14, a15] := by
    rw [s]
    rw [h0]
    rfl
  have h2 : rmixN [a0, a1, a2, a3, a4, a5, a6, a7, a8, a9, a10, a11, a12, a13, a14, a15] 3 = [xorK .u8 (xorK .u8 (xorK .u8 (timI a0 2) (timI a1 3)) a2) a3, xorK .u8 (xorK .u8 (xorK .u8 a0 (timI a1 2)) (timI a2 3)) a3, xorK .u8 (xorK .u8 (xorK .u8 a0 a1) (timI a2 2)) (timI a3 3), xorK .u8 (xorK .u8 (xorK .u8 (timI a0 3) a1) a2) (timI a3 2), xorK .u8 (xorK .u8 (xorK .u8 (timI a4 2) (timI a5 3)) a6) a7, xorK .u8 (xorK .u8 (xorK .u8 a4 (timI a5 2)) (timI a6 3)) a7, xorK .u8 (xorK .u8 (xorK .u8 a4 a5) (timI a6 2)) (timI a7 3), xorK .u8 (xorK .u8 (xorK .u8 (timI a4 3) a5) a6) (timI a7 2), xorK .u8 (xorK .u8 (xorK .u8 (timI a8 2) (timI a9 3)) a10) a11, xorK .u8 (xorK .u8 (xorK .u8 a8 (timI a9 2)) (timI a10 3)) a11, xorK .u8 (xorK .u8 (xorK .u8 a8 a9) (timI a10 2)) (timI a11 3), xorK .u8 (xorK .u8 (xorK .u8 (timI a8 3) a9) a10) (timI a11 2), a12, a13, a14, a15] := by
    rw [s]
    rw [h1]
    rfl
  have h3 : rmixN [a0, a1, a2, a3, a4, a5, a6, a7, a8, a9, a10, a11, a12, a13, a14, a15] 4 = [xorK .u8 (xorK .u8 (xorK .u8 (timI a0 2) (timI a1 3)) a2) a3, xorK .u8 (xorK .u8 (xorK .u8 a0 (timI a1 2)) (timI a2 3)) a3, xorK .u8 (xorK .u8 (xorK .u8 a0 a1) (timI a2 2)) (timI a3 3), xorK .u8 (xorK .u8 (xorK .u8 (timI a0 3) a1) a2) (timI a3 2), xorK .u8 (xorK .u8 (xorK .u8 (timI a4 2) (timI a5 3)) a6) a7, xorK .u8 (xorK .u8 (xorK .u8 a4 (timI a5 2)) (timI a6 3)) a7, xorK .u8 (xorK .u8 (xorK .u8 a4 a5) (timI a6 2)) (timI a7 3), xorK .u8 (xorK .u8 (xorK .u8 (timI a4 3) a5) a6) (timI a7 2), xorK .u8 (xorK .u8 (xorK .u8 (timI a8 2) (timI a9 3)) a10) a11, xorK .u8 (xorK .u8 (xorK .u8 a8 (timI a9 2)) (timI a10 3)) a11, xorK .u8 (xorK .u8 (xorK .u8 a8 a9) (timI a10 2)) (timI a11 3), xorK .u8 (xorK .u8 (xorK .u8 (timI a8 3) a9) a10) (timI a11 2), xorK .u8 (xorK .u8 (xorK .u8 (timI a12 2) (timI a13 3)) a14) a15, xorK .u8 (xorK .u8 (xorK .u8 a12 (timI a13 2)) (timI a14 3)) a15, xorK .u8 (xorK .u8 (xorK .u8 a12 a13) (timI a14 2)) (timI a15 3), xorK .u8 (xorK .u8 (xorK .u8 (timI a12 3) a13) a14) (timI a15 2)] := by
    rw [s]
    rw [h2]
    rfl
  exact h3
def rimix1 (b : List Int) (k : Nat) (p q r t : Int) : List Int := (((b.set (4 * k) (xorK .u8 (xorK .u8 (xorK .u8 (timI p 14) (timI q 11)) (timI r 13)) (timI t 9))).set (4 * k + 1) (xorK .u8 (xorK .u8 (xorK .u8 (timI p 9) (timI q 14)) (timI r 11)) (timI t 13))).set (4 * k + 2) (xorK .u8 (xorK .u8 (xorK .u8 (timI p 13) (timI q 9)) (timI r 14)) (timI t 11))).set (4 * k + 3) (xorK .u8 (xorK .u8 (xorK .u8 (timI p 11) (timI q 13)) (timI r 9)) (timI t 14))
def rimixN (b : List Int) : Nat → List Int
  | 0 => b
  | k + 1 => rimix1 (rimixN b k) k ((rimixN b k).getD (4 * k) 0) ((rimixN b k).getD (4 * k + 1) 0) ((rimixN b k).getD (4 * k + 2) 0) ((rimixN b k).getD (4 * k + 3) 0)
theorem rimixN_len (b : List Int) (k : Nat) : (rimixN b k).length = b.length := by
  induction k with
  | zero => rfl
  | succ k ih => simp [rimixN, rimix1, ih]
theorem U8_rimixN {b : List Int} (h : U8 b) (k : Nat) : U8 (rimixN b k) := by
  induction k with
  | zero => exact h
  | succ k ih => exact (((ih.set _ (xorK_u8_range _ _)).set _ (xorK_u8_range _ _)).set _ (xorK_u8_range _ _)).set _ (xorK_u8_range _ _)
theorem rimix1_0 (a0 a1 a2 a3 a4 a5 a6 a7 a8 a9 a10 a11 a12 a13 a14 a15 : Int) : rimix1 [a0, a1, a2, a3, a4, a5, a6, a7, a8, a9, a10, a11, a12, a13, a14, a15] 0 a0 a1 a2 a3 = [xorK .u8 (xorK .u8 (xorK .u8 (timI a0 14) (timI a1 11)) (timI a2 13)) (timI a3 9), xorK .u8 (xorK .u8 (xorK .u8 (timI a0 9) (timI a1 14)) (timI a2 11)) (timI a3 13), xorK .u8 (xorK .u8 (xorK .u8 (timI a0 13) (timI a1 9)) (timI a2 14)) (timI a3 11), xorK .u8 (xorK .u8 (xorK .u8 (timI a0 11) (timI a1 13)) (timI a2 9)) (timI a3 14), a4, a5, a6, a7, a8, a9, a10, a11, a12, a13, a14, a15] := rfl
theorem rimix1_1 (a0 a1 a2 a3 a4 a5 a6 a7 a8 a9 a10 a11 a12 a13 a14 a15 : Int) : rimix1 [a0, a1, a2, a3, a4, a5, a6, a7, a8, a9, a10, a11, a12, a13, a14, a15] 1 a4 a5 a6 a7 = [a0, a1, a2, a3, xorK .u8 (xorK .u8 (xorK .u8 (timI a4 14) (timI a5 11)) (timI a6 13)) (timI a7 9), xorK .u8 (xorK .u8 (xorK .u8 (timI a4 9) (timI a5 14)) (timI a6 11)) (timI a7 13), xorK .u8 (xorK .u8 (xorK .u8 (timI a4 13) (timI a5 9)) (timI a6 14)) (timI a7 11), xorK .u8 (xorK .u8 (xorK .u8 (timI a4 11) (timI a5 13)) (timI a6 9)) (timI a7 14), a8, a9, a10, a11, a12, a13, a14, a15] := rfl
theorem rimix1_2 (a0 a1 a2 a3 a4 a5 a6 a7 a8 a9 a10 a11 a12 a13 a14 a15 : Int) : rimix1 [a0, a1, a2, a3, a4, a5, a6, a7, a8, a9, a10, a11, a12, a13, a14, a15] 2 a8 a9 a10 a11 = [a0, a1, a2, a3, a4, a5, a6, a7, xorK .u8 (xorK .u8 (xorK .u8 (timI a8 14) (timI a9 11)) (timI a10 13)) (timI a11 9), xorK .u8 (xorK .u8 (xorK .u8 (timI a8 9) (timI a9 14)) (timI a10 11)) (timI a11 13), xorK .u8 (xorK .u8 (xorK .u8 (timI a8 13) (timI a9 9)) (timI a10 14)) (timI a11 11), xorK .u8 (xorK .u8 (xorK .u8 (timI a8 11) (timI a9 13)) (timI a10 9)) (timI a11 14), a12, a13, a14, a15] := rfl
theorem rimix1_3 (a0 a1 a2 a3 a4 a5 a6 a7 a8 a9 a10 a11 a12 a13 a14 a15 : Int) : rimix1 [a0, a1, a2, a3, a4, a5, a6, a7, a8, a9, a10, a11, a12, a13, a14, a15] 3 a12 a13 a14 a15 = [a0, a1, a2, a3, a4, a5, a6, a7, a8, a9, a10, a11, xorK .u8 (xorK .u8 (xorK .u8 (timI a12 14) (timI a13 11)) (timI a14 13)) (timI a15 9), xorK .u8 (xorK .u8 (xorK .u8 (timI a12 9) (timI a13 14)) (timI a14 11)) (timI a15 13), xorK .u8 (xorK .u8 (xorK .u8 (timI a12 13) (timI a13 9)) (timI a14 14)) (timI a15 11), xorK .u8 (xorK .u8 (xorK .u8 (timI a12 11) (timI a13 13)) (timI a14 9)) (timI a15 14)] := rfl
theorem rimixN_16 (a0 a1 a2 a3 a4 a5 a6 a7 a8 a9 a10 a11 a12 a13 a14 a15 : Int) : rimixN [a0, a1, a2, a3, a4, a5, a6, a7, a8, a9, a10, a11, a12, a13, a14, a15] 4 = [xorK .u8 (xorK .u8 (xorK .u8 (timI a0 14) (timI a1 11)) (timI a2 13)) (timI a3 9), xorK .u8 (xorK .u8 (xorK .u8 (timI a0 9) (timI a1 14)) (timI a2 11)) (timI a3 13), xorK .u8 (xorK .u8 (xorK .u8 (timI a0 13) (timI a1 9)) (timI a2 14)) (timI a3 11), xorK .u8 (xorK .u8 (xorK .u8 (timI a0 11) (timI a1 13)) (timI a2 9)) (timI a3 14), xorK .u8 (xorK .u8 (xorK .u8 (timI a4 14) (timI a5 11)) (timI a6 13)) (timI a7 9), xorK .u8 (xorK .u8 (xorK .u8 (timI a4 9) (timI a5 14)) (timI a6 11)) (timI a7 13), xorK .u8 (xorK .u8 (xorK .u8 (timI a4 13) (timI a5 9)) (timI a6 14)) (timI a7 11), xorK .u8 (xorK .u8 (xorK .u8 (timI a4 11) (timI a5 13)) (timI a6 9)) (timI a7 14), xorK .u8 (xorK .u8 (xorK .u8 (timI a8 14) (timI a9 11)) (timI a10 13)) (timI a11 9), xorK .u8 (xorK .u8 (xorK .u8 (timI a8 9) (timI a9 14)) (timI a10 11)) (timI a11 13), xorK .u8 (xorK .u8 (xorK .u8 (timI a8 13) (timI a9 9)) (timI a10 14)) (timI a11 11), xorK .u8 (xorK .u8 (xorK .u8 (timI a8 11) (timI a9 13)) (timI a10 9)) (timI a11 14), xorK .u8 (xorK .u8 (xorK .u8 (timI a12 14) (timI a13 11)) (timI a14 13)) (timI a15 9), xorK .u8 (xorK .u8 (xorK .u8 (timI a12 9) (timI a13 14)) (timI a14 11)) (timI a15 13), xorK .u8 (xorK .u8 (xorK .u8 (timI a12 13) (timI a13 9)) (timI a14 14)) (timI a15 11), xorK .u8 (xorK .u8 (xorK .u8 (timI a12 11) (timI a13 13)) (timI a14 9)) (timI a15 14)] := by
  have s := fun b k => show rimixN b (k + 1) = rimix1 (rimixN b k) k ((rimixN b k).getD (4 * k) 0) ((rimixN b k).getD (4 * k + 1) 0) ((rimixN b k).getD (4 * k + 2) 0) ((rimixN b k).getD (4 * k + 3) 0) from rfl
  have h0 : rimixN [a0, a1, a2, a3, a4, a5, a6, a7, a8, a9, a10, a11, a12, a13, a14, a15] 1 = [xorK .u8 (xorK .u8 (xorK .u8 (timI a0 14) (timI a1 11)) (timI a2 13)) (timI a3 9), xorK .u8 (xorK .u8 (xorK .u8 (timI a0 9) (timI a1 14)) (timI a2 11)) (timI a3 13), xorK .u8 (xorK .u8 (xorK .u8 (timI a0 13) (timI a1 9)) (timI a2 14)) (timI a3 11), xorK .u8 (xorK .u8 (xorK .u8 (timI a0 11) (timI a1 13)) (timI a2 9)) (timI a3 14), a4, a5, a6, a7, a8, a9, a10, a11, a12, a13, a14, a15] := by
    rw [s]
    rw [show rimixN [a0, a1, a2, a3, a4, a5, a6, a7, a8, a9, a10, a11, a12, a13, a14, a15] 0 = [a0, a1, a2, a3, a4, a5, a6, a7, a8, a9, a10, a11, a12, a13, a14, a15] from rfl]
    rfl
  have h1 : rimixN [a0, a1, a2, a3, a4, a5, a6, a7, a8, a9, a10, a11, a12, a13, a14, a15] 2 = [xorK .u8 (xorK .u8 (xorK .u8 (timI a0 14) (timI a1 11)) (timI a2 13)) (timI a3 9), xorK .u8 (xorK .u8 (xorK .u8 (timI a0 9) (timI a1 14)) (timI a2 11)) (timI a3 13), xorK .u8 (xorK .u8 (xorK .u8 (timI a0 13) (timI a1 9)) (timI a2 14)) (timI a3 11), xorK .u8 (xorK .u8 (xorK .u8 (timI a0 11) (timI a1 13)) (timI a2 9)) (timI a3 14), xorK .u8 (xorK .u8 (xorK .u8 (timI a4 14) (timI a5 11)) (timI a6 13)) (timI a7 9), xorK .u8 (xorK .u8 (xorK .u8 (timI a4 9) (timI a5 14)) (timI a6 11)) (timI a7 13), xorK .u8 (xorK .u8 (xorK .u8 (timI a4 13) (timI a5 9)) (timI a6 14)) (timI a7 11), xorK .u8 (xorK .u8 (xorK .u8 (timI a4 11) (timI a5 13)) (timI a6 9)) (timI a7 14), a8, a9, a10, a11, a12, a13, a14, a15] := by
    rw [s]
    rw [h0]
    rfl
  have h2 : rimixN [a0, a1, a2, a3, a4, a5, a6, a7, a8, a9, a10, a11, a12, a13, a14, a15] 3 = [xorK .u8 (xorK .u8 (xorK .u8 (timI a0 14) (timI a1 11)) (timI a2 13)) (timI a3 9), xorK .u8 (xorK .u8 (xorK .u8 (timI a0 9) (timI a1 14)) (timI a2 11)) (timI a3 13), xorK .u8 (xorK .u8 (xorK .u8 (timI a0 13) (timI a1 9)) (timI a2 14)) (timI a3 11), xorK .u8 (xorK .u8 (xorK .u8 (timI a0 11) (timI a1 13)) (timI a2 9)) (timI a3 14), xorK .u8 (xorK .u8 (xorK .u8 (timI a4 14) (timI a5 11)) (timI a6 13)) (timI a7 9), xorK .u8 (xorK .u8 (xorK .u8 (timI a4 9) (timI a5 14)) (timI a6 11)) (timI a7 13), xorK .u8 (xorK .u8 (xorK .u8 (timI a4 13) (timI a5 9)) (timI a6 14)) (timI a7 11), xorK .u8 (xorK .u8 (xorK .u8 (timI a4 11) (timI a5 13)) (timI a6 9)) (timI a7 14), xorK .u8 (xorK .u8 (xorK .u8 (timI a8 14) (timI a9 11)) (timI a10 13)) (timI a11 9), xorK .u8 (xorK .u8 (xorK .u8 (timI a8 9) (timI a9 14)) (timI a10 11)) (timI a11 13), xorK .u8 (xorK .u8 (xorK .u8 (timI a8 13) (timI a9 9)) (timI a10 14)) (timI a11 11), xorK .u8 (xorK .u8 (xorK .u8 (timI a8 11) (timI a9 13)) (timI a10 9)) (timI a11 14), a12, a13, a14, a15] := by
    rw [s]
    rw [h1]
    rfl
  have h3 : rimixN [a0, a1, a2, a3, a4, a5, a6, a7, a8, a9, a10, a11, a12, a13, a14, a15] 4 = [xorK .u8 (xorK .u8 (xorK .u8 (timI a0 14) (timI a1 11)) (timI a2 13)) (timI a3 9), xorK .u8 (xorK .u8 (xorK .u8 (timI a0 9) (timI a1 14)) (timI a2 11)) (timI a3 13), xorK .u8 (xorK .u8 (xorK .u8 (timI a0 13) (timI a1 9)) (timI a2 14)) (timI a3 11), xorK .u8 (xorK .u8 (xorK .u8 (timI a0 11) (timI a1 13)) (timI a2 9)) (timI a3 14), xorK .u8 (xorK .u8 (xorK .u8 (timI a4 14) (timI a5 11)) (timI a6 13)) (timI a7 9), xorK .u8 (xorK .u8 (xorK .u8 (timI a4 9) (timI a5 14)) (timI a6 11)) (timI a7 13), xorK .u8 (xorK .u8 (xorK .u8 (timI a4 13) (timI a5 9)) (timI a6 14)) (timI a7 11), xorK .u8 (xorK .u8 (xorK .u8 (timI a4 11) (timI a5 13)) (timI a6 9)) (timI a7 14), xorK .u8 (xorK .u8 (xorK .u8 (timI a8 14) (timI a9 11)) (timI a10 13)) (timI a11 9), xorK .u8 (xorK .u8 (xorK .u8 (timI a8 9) (timI a9 14)) (timI a10 11)) (timI a11 13), xorK .u8 (xorK .u8 (xorK .u8 (timI a8 13) (timI a9 9)) (timI a10 14)) (timI a11 11), xorK .u8 (xorK .u8 (xorK .u8 (timI a8 11) (timI a9 13)) (timI a10 9)) (timI a11 14), xorK .u8 (xorK .u8 (xorK .u8 (timI a12 14) (timI a13 11)) (timI a14 13)) (timI a15 9), xorK .u8 (xorK .u8 (xorK .u8 (timI a12 9) (timI a13 14)) (timI a14 11)) (timI a15 13), xorK .u8 (xorK .u8 (xorK .u8 (timI a12 13) (timI a13 9)) (timI a14 14)) (timI a15 11), xorK .u8 (xorK .u8 (xorK .u8 (timI a12 11) (timI a13 13)) (timI a14 9)) (timI a15 14)] := by
    rw [s]
    rw [h2]
    rfl
  exact h3
theorem rc0 (a b c d : BitVec 8) : tw a ^^^ (tw b ^^^ b) ^^^ c ^^^ d = (a ^^^ ((a ^^^ b ^^^ c ^^^ d) ^^^ tw (a ^^^ b))) := by
  simp [tw_xor, BitVec.xor_assoc, BitVec.xor_comm, b_lc, b_sl]
theorem ric0 (a b c d : BitVec 8) : (tw (tw (tw a)) ^^^ (tw (tw a) ^^^ tw a)) ^^^ (tw (tw (tw b)) ^^^ (tw b ^^^ b)) ^^^ (tw (tw (tw c)) ^^^ (tw (tw c) ^^^ c)) ^^^ (tw (tw (tw d)) ^^^ d) = (a ^^^ (tw (tw a) ^^^ tw (tw c))) ^^^ (((a ^^^ (tw (tw a) ^^^ tw (tw c))) ^^^ (b ^^^ (tw (tw b) ^^^ tw (tw d))) ^^^ (c ^^^ (tw (tw c) ^^^ tw (tw a))) ^^^ (d ^^^ (tw (tw d) ^^^ tw (tw b)))) ^^^ tw ((a ^^^ (tw (tw a) ^^^ tw (tw c))) ^^^ (b ^^^ (tw (tw b) ^^^ tw (tw d))))) := by
  simp [tw_xor, BitVec.xor_assoc, BitVec.xor_comm, b_lc, b_sl]
theorem rc1 (a b c d : BitVec 8) : a ^^^ tw b ^^^ (tw c ^^^ c) ^^^ d = (b ^^^ ((a ^^^ b ^^^ c ^^^ d) ^^^ tw (b ^^^ c))) := by
  simp [tw_xor, BitVec.xor_assoc, BitVec.xor_comm, b_lc, b_sl]
theorem ric1 (a b c d : BitVec 8) : (tw (tw (tw a)) ^^^ a) ^^^ (tw (tw (tw b)) ^^^ (tw (tw b) ^^^ tw b)) ^^^ (tw (tw (tw c)) ^^^ (tw c ^^^ c)) ^^^ (tw (tw (tw d)) ^^^ (tw (tw d) ^^^ d)) = (b ^^^ (tw (tw b) ^^^ tw (tw d))) ^^^ (((a ^^^ (tw (tw a) ^^^ tw (tw c))) ^^^ (b ^^^ (tw (tw b) ^^^ tw (tw d))) ^^^ (c ^^^ (tw (tw c) ^^^ tw (tw a))) ^^^ (d ^^^ (tw (tw d) ^^^ tw (tw b)))) ^^^ tw ((b ^^^ (tw (tw b) ^^^ tw (tw d))) ^^^ (c ^^^ (tw (tw c) ^^^ tw (tw a))))) := by
  simp [tw_xor, BitVec.xor_assoc, BitVec.xor_comm, b_lc, b_sl]
theorem rc2 (a b c d : BitVec 8) : a ^^^ b ^^^ tw c ^^^ (tw d ^^^ d) = (c ^^^ ((a ^^^ b ^^^ c ^^^ d) ^^^ tw (c ^^^ d))) := by
  simp [tw_xor, BitVec.xor_assoc, BitVec.xor_comm, b_lc, b_sl]
theorem ric2 (a b c d : BitVec 8) : (tw (tw (tw a)) ^^^ (tw (tw a) ^^^ a)) ^^^ (tw (tw (tw b)) ^^^ b) ^^^ (tw (tw (tw c)) ^^^ (tw (tw c) ^^^ tw c)) ^^^ (tw (tw (tw d)) ^^^ (tw d ^^^ d)) = (c ^^^ (tw (tw c) ^^^ tw (tw a))) ^^^ (((a ^^^ (tw (tw a) ^^^ tw (tw c))) ^^^ (b ^^^ (tw (tw b) ^^^ tw (tw d))) ^^^ (c ^^^ (tw (tw c) ^^^ tw (tw a))) ^^^ (d ^^^ (tw (tw d) ^^^ tw (tw b)))) ^^^ tw ((c ^^^ (tw (tw c) ^^^ tw (tw a))) ^^^ (d ^^^ (tw (tw d) ^^^ tw (tw b))))) := by
  simp [tw_xor, BitVec.xor_assoc, BitVec.xor_comm, b_lc, b_sl]
theorem rc3 (a b c d : BitVec 8) : (tw a ^^^ a) ^^^ b ^^^ c ^^^ tw d = (d ^^^ ((a ^^^ b ^^^ c ^^^ d) ^^^ tw (d ^^^ a))) := by
  simp [tw_xor, BitVec.xor_assoc, BitVec.xor_comm, b_lc, b_sl]
theorem ric3 (a b c d : BitVec 8) : (tw (tw (tw a)) ^^^ (tw a ^^^ a)) ^^^ (tw (tw (tw b)) ^^^ (tw (tw b) ^^^ b)) ^^^ (tw (tw (tw c)) ^^^ c) ^^^ (tw (tw (tw d)) ^^^ (tw (tw d) ^^^ tw d)) = (d ^^^ (tw (tw d) ^^^ tw (tw b))) ^^^ (((a ^^^ (tw (tw a) ^^^ tw (tw c))) ^^^ (b ^^^ (tw (tw b) ^^^ tw (tw d))) ^^^ (c ^^^ (tw (tw c) ^^^ tw (tw a))) ^^^ (d ^^^ (tw (tw d) ^^^ tw (tw b)))) ^^^ tw ((d ^^^ (tw (tw d) ^^^ tw (tw b))) ^^^ (a ^^^ (tw (tw a) ^^^ tw (tw c))))) := by
  simp [tw_xor, BitVec.xor_assoc, BitVec.xor_comm, b_lc, b_sl]
theorem rmix_eq {l : List Int} (h : l.length = 16) (hu : U8 l) : rmixN l 4 = mixI l := by
  obtain ⟨x0, x1, x2, x3, x4, x5, x6, x7, x8, x9, x10, x11, x12, x13, x14, x15, rfl⟩ := V_of h hu
  rw [rmixN_16, mixI_16]
  simp only [tim2, tim3, mx_e, xor_e, rc0, rc1, rc2, rc3]
theorem rimix_eq {l : List Int} (h : l.length = 16) (hu : U8 l) : rimixN l 4 = mixI (mixI (mixI l)) := by
  obtain ⟨x0, x1, x2, x3, x4, x5, x6, x7, x8, x9, x10, x11, x12, x13, x14, x15, rfl⟩ := V_of h hu
  rw [rimixN_16, mix2, mixI_16]
  simp only [tim14, tim11, tim13, tim9, mx_e, xor_e, ric0, ric1, ric2, ric3]
end Go.Proofs.X
