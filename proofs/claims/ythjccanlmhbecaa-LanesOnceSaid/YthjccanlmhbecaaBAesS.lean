/- What the ciphers compute, on lists. No program. -/
import Derived.Test.YthjccanlmhbecaaBShaS
set_option linter.unusedVariables false
set_option linter.unusedSimpArgs false
open Go Go.Bx
namespace Go.Proofs.X
theorem wrap_u8_range (x : Int) : 0 ≤ IntKind.u8.wrap x ∧ IntKind.u8.wrap x < 256 := by
  show 0 ≤ x % 256 ∧ x % 256 < 256
  omega
theorem xorK_u8_range (m n : Int) : 0 ≤ xorK .u8 m n ∧ xorK .u8 m n < 256 := wrap_u8_range _
theorem orK_u8_range (m n : Int) : 0 ≤ orK .u8 m n ∧ orK .u8 m n < 256 := wrap_u8_range _
theorem shlK_u8_range (m n : Int) : 0 ≤ shlK .u8 m n ∧ shlK .u8 m n < 256 := wrap_u8_range _

def twiceI (x : Int) : Int := if shrK .u8 x 7 = 1 then xorK .u8 (shlK .u8 x 1) 27 else shlK .u8 x 1
def xorTo (a b : List Int) : Nat → List Int
  | 0 => a
  | k + 1 => (xorTo a b k).set k (xorK .u8 ((xorTo a b k).getD k 0) (b.getD k 0))
theorem xorTo_len (a b : List Int) (k : Nat) : (xorTo a b k).length = a.length := by
  induction k with
  | zero => rfl
  | succ k ih => simp [xorTo, ih]
/-- The powers of 3, and their logs. -/
def p1 : Nat → Int × List Int × List Int
  | 0 => (1, z 256, z 256)
  | k + 1 => (xorK .u8 (p1 k).1 (twiceI (p1 k).1), (p1 k).2.1.set k (p1 k).1, (p1 k).2.2.set (p1 k).1.toNat k)
theorem p1_range (k : Nat) : 0 ≤ (p1 k).1 ∧ (p1 k).1 < 256 := by
  cases k with
  | zero => simp [p1]
  | succ k => exact xorK_u8_range _ _
theorem p1_len (k : Nat) : (p1 k).2.1.length = 256 ∧ (p1 k).2.2.length = 256 := by
  induction k with
  | zero => exact ⟨z_len _, z_len _⟩
  | succ k ih => simp [p1, ih]
def boxY (P L : List Int) (k : Nat) : Int := if 0 < k then P.getD ((255 - L.getD k 0) % 255).toNat 0 else 0
def boxO (y : Int) : Nat → Int
  | 0 => 99
  | n + 1 => xorK .u8 (boxO y n) (orK .u8 (shlK .u8 y n) (shrK .u8 y (8 - n)))
theorem boxO_range (y : Int) (n : Nat) : 0 ≤ boxO y n ∧ boxO y n < 256 := by
  cases n with
  | zero => simp [boxO]
  | succ n => exact xorK_u8_range _ _
def p2 (P L : List Int) : Nat → List Int × List Int
  | 0 => (z 256, z 256)
  | k + 1 => ((p2 P L k).1.set k (boxO (boxY P L k) 5), (p2 P L k).2.set (boxO (boxY P L k) 5).toNat k)
theorem p2_len (P L : List Int) (k : Nat) : (p2 P L k).1.length = 256 ∧ (p2 P L k).2.length = 256 := by
  induction k with
  | zero => exact ⟨z_len _, z_len _⟩
  | succ k ih => simp [p2, ih]
def SB : List Int := [99, 124, 119, 123, 242, 107, 111, 197, 48, 1, 103, 43, 254, 215, 171, 118, 202, 130, 201, 125, 250, 89, 71, 240, 173, 212, 162, 175, 156, 164, 114, 192, 183, 253, 147, 38, 54, 63, 247, 204, 52, 165, 229, 241, 113, 216, 49, 21, 4, 199, 35, 195, 24, 150, 5, 154, 7, 18, 128, 226, 235, 39, 178, 117, 9, 131, 44, 26, 27, 110, 90, 160, 82, 59, 214, 179, 41, 227, 47, 132, 83, 209, 0, 237, 32, 252, 177, 91, 106, 203, 190, 57, 74, 76, 88, 207, 208, 239, 170, 251, 67, 77, 51, 133, 69, 249, 2, 127, 80, 60, 159, 168, 81, 163, 64, 143, 146, 157, 56, 245, 188, 182, 218, 33, 16, 255, 243, 210, 205, 12, 19, 236, 95, 151, 68, 23, 196, 167, 126, 61, 100, 93, 25, 115, 96, 129, 79, 220, 34, 42, 144, 136, 70, 238, 184, 20, 222, 94, 11, 219, 224, 50, 58, 10, 73, 6, 36, 92, 194, 211, 172, 98, 145, 149, 228, 121, 231, 200, 55, 109, 141, 213, 78, 169, 108, 86, 244, 234, 101, 122, 174, 8, 186, 120, 37, 46, 28, 166, 180, 198, 232, 221, 116, 31, 75, 189, 139, 138, 112, 62, 181, 102, 72, 3, 246, 14, 97, 53, 87, 185, 134, 193, 29, 158, 225, 248, 152, 17, 105, 217, 142, 148, 155, 30, 135, 233, 206, 85, 40, 223, 140, 161, 137, 13, 191, 230, 66, 104, 65, 153, 45, 15, 176, 84, 187, 22]
def BK : List Int := [82, 9, 106, 213, 48, 54, 165, 56, 191, 64, 163, 158, 129, 243, 215, 251, 124, 227, 57, 130, 155, 47, 255, 135, 52, 142, 67, 68, 196, 222, 233, 203, 84, 123, 148, 50, 166, 194, 35, 61, 238, 76, 149, 11, 66, 250, 195, 78, 8, 46, 161, 102, 40, 217, 36, 178, 118, 91, 162, 73, 109, 139, 209, 37, 114, 248, 246, 100, 134, 104, 152, 22, 212, 164, 92, 204, 93, 101, 182, 146, 108, 112, 72, 80, 253, 237, 185, 218, 94, 21, 70, 87, 167, 141, 157, 132, 144, 216, 171, 0, 140, 188, 211, 10, 247, 228, 88, 5, 184, 179, 69, 6, 208, 44, 30, 143, 202, 63, 15, 2, 193, 175, 189, 3, 1, 19, 138, 107, 58, 145, 17, 65, 79, 103, 220, 234, 151, 242, 207, 206, 240, 180, 230, 115, 150, 172, 116, 34, 231, 173, 53, 133, 226, 249, 55, 232, 28, 117, 223, 110, 71, 241, 26, 113, 29, 41, 197, 137, 111, 183, 98, 14, 170, 24, 190, 27, 252, 86, 62, 75, 198, 210, 121, 32, 154, 219, 192, 254, 120, 205, 90, 244, 31, 221, 168, 51, 136, 7, 199, 49, 177, 18, 16, 89, 39, 128, 236, 95, 96, 81, 127, 169, 25, 181, 74, 13, 45, 229, 122, 159, 147, 201, 156, 239, 160, 224, 59, 77, 174, 42, 245, 176, 200, 235, 187, 60, 131, 83, 153, 97, 23, 43, 4, 126, 186, 119, 214, 38, 225, 105, 20, 99, 85, 33, 12, 125]
theorem boxes_eq : p2 (p1 255).2.1 (p1 255).2.2 256 = (SB, BK) := by decide +kernel
def logsOk (L : List Int) : Bool := (List.range 256).all fun k => decide (0 ≤ L.getD k 0 ∧ L.getD k 0 ≤ 255)
theorem logs_ok : logsOk (p1 255).2.2 = true := by decide +kernel
theorem logsOk_at {L : List Int} (h : logsOk L = true) {k : Nat} (hk : k < 256) : 0 ≤ L.getD k 0 ∧ L.getD k 0 ≤ 255 := by
  simp only [logsOk, List.all_eq_true, List.mem_range, decide_eq_true_eq] at h
  exact h k hk
/-- The key's rounds: a word, and all of them. -/
def kw (was wd : List Int) (K : List Int) (n : Nat) : Nat → List Int × List Int
  | 0 => (wd, K)
  | i + 1 => ((kw was wd K n i).1.set (i % 4) (xorK .u8 ((kw was wd K n i).1.getD (i % 4) 0) (was.getD i 0)),
      (kw was wd K n i).2.set (n * 16 + i) (((kw was wd K n i).1.set (i % 4) (xorK .u8 ((kw was wd K n i).1.getD (i % 4) 0) (was.getD i 0))).getD (i % 4) 0))
theorem kw_len (was wd K : List Int) (n i : Nat) : (kw was wd K n i).1.length = wd.length ∧ (kw was wd K n i).2.length = K.length := by
  induction i with
  | zero => exact ⟨rfl, rfl⟩
  | succ i ih => simp [kw, ih]
def kwas (K : List Int) (n : Nat) : List Int := (K.drop (n * 16)).take 16
def word (S K : List Int) (n : Nat) (by_ : Int) : List Int :=
  [xorK .u8 (S.getD ((kwas K n).getD 13 0).toNat 0) by_, S.getD ((kwas K n).getD 14 0).toNat 0, S.getD ((kwas K n).getD 15 0).toNat 0, S.getD ((kwas K n).getD 12 0).toNat 0]
def ks (S key : List Int) : Nat → Int × List Int
  | 0 => (1, spl (z 176) key 0 16 176)
  | n + 1 => (twiceI (ks S key n).1, (kw (kwas (ks S key n).2 n) (word S (ks S key n).2 n (ks S key n).1) (ks S key n).2 (n + 1) 16).2)
theorem ks_len (S key : List Int) (n : Nat) : (ks S key n).2.length = 176 := by
  induction n with
  | zero => simp [ks, spl]
  | succ n ih => simp only [ks]; rw [(kw_len _ _ _ _ _).2, ih]
def U8 (l : List Int) : Prop := ∀ i, 0 ≤ l.getD i 0 ∧ l.getD i 0 < 256
def mixR (b : List Int) (k : Nat) (all first : Int) : Nat → List Int
  | 0 => b
  | i + 1 => (mixR b k all first i).set (k + i) (xorK .u8 ((mixR b k all first i).getD (k + i) 0) (xorK .u8 all (twiceI (xorK .u8 ((mixR b k all first i).getD (k + i) 0) (if i < 3 then (mixR b k all first i).getD (k + i + 1) 0 else first)))))
theorem mixR_len (b : List Int) (k : Nat) (all first : Int) (i : Nat) : (mixR b k all first i).length = b.length := by
  induction i with
  | zero => rfl
  | succ i ih => simp [mixR, ih]
def mixC (b : List Int) (k : Nat) : List Int :=
  mixR b k (xorK .u8 (xorK .u8 (xorK .u8 (b.getD k 0) (b.getD (k + 1) 0)) (b.getD (k + 2) 0)) (b.getD (k + 3) 0)) (b.getD k 0) 4
def mixN (b : List Int) : Nat → List Int
  | 0 => b
  | j + 1 => mixC (mixN b j) (4 * j)
theorem mixN_len (b : List Int) (j : Nat) : (mixN b j).length = b.length := by
  induction j with
  | zero => rfl
  | succ j ih => simp [mixN, mixC, mixR_len, ih]
def mixI (b : List Int) : List Int := mixN b 4
def subTo (S b : List Int) : Nat → List Int
  | 0 => z 16
  | i + 1 => (subTo S b i).set i (S.getD (b.getD ((i + 4 * (i % 4)) % 16) 0).toNat 0)
theorem subTo_len (S b : List Int) (i : Nat) : (subTo S b i).length = 16 := by
  induction i with
  | zero => exact z_len _
  | succ i ih => simp [subTo, ih]
def xor16 (a b : List Int) : List Int := xorTo a b 16
theorem xor16_len (a b : List Int) : (xor16 a b).length = a.length := xorTo_len _ _ _
def rk (K : List Int) (n : Nat) : List Int := kwas K n
/-- Behind n rounds. -/
def enc (S K b : List Int) : Nat → List Int
  | 0 => xor16 b (rk K 0)
  | n + 1 => xor16 (mixI (subTo S (enc S K b n) 16)) (rk K (n + 1))
theorem enc_len (S K b : List Int) (h : b.length = 16) (n : Nat) : (enc S K b n).length = 16 := by
  cases n with
  | zero => simp [enc, xor16_len, h]
  | succ n => simp [enc, xor16_len, mixI, mixN_len, subTo_len]
def blockL (S K b : List Int) : List Int := xor16 (subTo S (enc S K b 9) 16) (rk K 10)
theorem blockL_len (S K b : List Int) : (blockL S K b).length = 16 := by simp [blockL, xor16_len, subTo_len]
def subBack (S b : List Int) : Nat → List Int
  | 0 => z 16
  | i + 1 => (subBack S b i).set ((i + 4 * (i % 4)) % 16) (S.getD (b.getD i 0).toNat 0)
theorem subBack_len (S b : List Int) (i : Nat) : (subBack S b i).length = 16 := by
  induction i with
  | zero => exact z_len _
  | succ i ih => simp [subBack, ih]
def keysOf (key : List Int) : List Int := (ks SB key 10).2
def blockI (key b : List Int) : List Int := blockL SB (keysOf key) b
theorem blockI_len (key b : List Int) : (blockI key b).length = 16 := blockL_len _ _ _
theorem getD_set (l : List Int) (i : Nat) (v : Int) (j : Nat) : (l.set i v).getD j 0 = if i = j ∧ i < l.length then v else l.getD j 0 := by
  simp only [List.getD_eq_getElem?_getD, List.getElem?_set]
  by_cases h : i = j
  · subst h
    by_cases h2 : i < l.length
    · simp [h2]
    · simp [h2, List.getElem?_eq_none (show l.length ≤ i by omega)]
  · simp [h]
theorem U8.set {l : List Int} (h : U8 l) (i : Nat) {v : Int} (hv : 0 ≤ v ∧ v < 256) : U8 (l.set i v) := fun j => by
  rw [getD_set]; split
  · exact hv
  · exact h j
theorem U8_z (n : Nat) : U8 (z n) := fun j => by
  simp only [z, List.getD_eq_getElem?_getD, List.getElem?_replicate]
  split <;> simp
theorem U8_mem {l : List Int} (h : ∀ x ∈ l, 0 ≤ x ∧ x < 256) : U8 l := fun j => by
  simp only [List.getD_eq_getElem?_getD]
  cases hj : l[j]? with
  | none => simp
  | some x => exact h x (List.mem_of_getElem? hj)
theorem U8.mem {l : List Int} (h : U8 l) {x : Int} (hx : x ∈ l) : 0 ≤ x ∧ x < 256 := by
  obtain ⟨j, hj⟩ := List.getElem?_of_mem hx
  have := h j
  simp only [List.getD_eq_getElem?_getD, hj] at this
  exact this
theorem U8.cut {l : List Int} (h : U8 l) (a n : Nat) : U8 ((l.drop a).take n) := U8_mem fun x hx => h.mem (List.mem_of_mem_drop (List.mem_of_mem_take hx))
theorem U8_xorTo {a b : List Int} (h : U8 a) (k : Nat) : U8 (xorTo a b k) := by
  induction k with
  | zero => exact h
  | succ k ih => exact ih.set _ (xorK_u8_range _ _)
theorem U8_spl {xs ys : List Int} (hx : U8 xs) (hy : U8 ys) (i n m : Nat) : U8 (spl xs ys i n m) := U8_mem fun x h => by
  simp only [spl, List.mem_map, List.mem_range] at h
  obtain ⟨j, _, rfl⟩ := h
  split
  · exact hy _
  · exact hx _
theorem U8_kw {was wd K : List Int} (h1 : U8 wd) (h2 : U8 K) (n i : Nat) : U8 (kw was wd K n i).1 ∧ U8 (kw was wd K n i).2 := by
  induction i with
  | zero => exact ⟨h1, h2⟩
  | succ i ih =>
    have h3 : U8 ((kw was wd K n i).1.set (i % 4) (xorK .u8 ((kw was wd K n i).1.getD (i % 4) 0) (was.getD i 0))) := ih.1.set _ (xorK_u8_range _ _)
    exact ⟨h3, ih.2.set _ (h3 _)⟩
theorem U8_word {S K : List Int} (hS : U8 S) (n : Nat) (by_ : Int) : U8 (word S K n by_) := U8_mem fun x hx => by
  simp only [word, List.mem_cons, List.not_mem_nil, or_false] at hx
  rcases hx with rfl | rfl | rfl | rfl
  · exact xorK_u8_range _ _
  all_goals exact hS _
theorem U8_ks {S key : List Int} (hS : U8 S) (hk : U8 key) (n : Nat) : U8 (ks S key n).2 := by
  induction n with
  | zero => exact U8_spl (U8_z _) hk _ _ _
  | succ n ih => exact (U8_kw (U8_word hS _ _) ih _ _).2
theorem U8_mixR {b : List Int} (h : U8 b) (k : Nat) (all first : Int) (i : Nat) : U8 (mixR b k all first i) := by
  induction i with
  | zero => exact h
  | succ i ih => exact ih.set _ (xorK_u8_range _ _)
theorem U8_mixN {b : List Int} (h : U8 b) (j : Nat) : U8 (mixN b j) := by
  induction j with
  | zero => exact h
  | succ j ih => exact U8_mixR ih _ _ _ _
theorem U8_subTo {S b : List Int} (h : U8 S) (i : Nat) : U8 (subTo S b i) := by
  induction i with
  | zero => exact U8_z _
  | succ i ih => exact ih.set _ (h _)
theorem U8_subBack {S b : List Int} (h : U8 S) (i : Nat) : U8 (subBack S b i) := by
  induction i with
  | zero => exact U8_z _
  | succ i ih => exact ih.set _ (h _)
theorem U8_enc {S K b : List Int} (hS : U8 S) (hb : U8 b) (n : Nat) : U8 (enc S K b n) := by
  cases n with
  | zero => exact U8_xorTo hb _
  | succ n => exact U8_xorTo (U8_mixN (U8_subTo hS _) _) _
def u8B (l : List Int) : Bool := l.all fun x => decide (0 ≤ x) && decide (x < 256)
theorem u8B_U8 {l : List Int} (h : u8B l = true) : U8 l := U8_mem fun x hx => by
  have := List.all_eq_true.1 h x hx
  simpa using this
theorem U8_SB : U8 SB := u8B_U8 (by decide +kernel)
theorem U8_BK : U8 BK := u8B_U8 (by decide +kernel)
theorem U8_blockL {S K b : List Int} (hS : U8 S) : U8 (blockL S K b) := U8_xorTo (U8_subTo hS _) _
theorem U8_blockI {key b : List Int} : U8 (blockI key b) := U8_blockL U8_SB
theorem blockL_def (S K b : List Int) : blockL S K b = xor16 (subTo S (enc S K b 9) 16) (kwas K 10) := rfl
theorem mixI_len (b : List Int) : (mixI b).length = b.length := mixN_len _ _
/-- Back, r rounds of it. -/
def decX (y : List Int) (r : Nat) : List Int := if 0 < r then mixI (mixI (mixI y)) else y
def dec (S K b : List Int) : Nat → List Int
  | 0 => b
  | r + 1 => subBack S (decX (xor16 (dec S K b r) (kwas K (10 - r))) r) 16
theorem decX_len (y : List Int) (r : Nat) : (decX y r).length = y.length := by
  unfold decX; split
  · exact (mixI_len _).trans ((mixI_len _).trans (mixI_len _))
  · rfl
theorem dec_len (S K b : List Int) (h : b.length = 16) (r : Nat) : (dec S K b r).length = 16 := by
  cases r with
  | zero => exact h
  | succ r => exact subBack_len _ _ _
theorem U8_decX {y : List Int} (h : U8 y) (r : Nat) : U8 (decX y r) := by
  unfold decX; split
  · exact U8_mixN (U8_mixN (U8_mixN h _) _) _
  · exact h
theorem U8_dec {S K b : List Int} (hS : U8 S) (hb : U8 b) (r : Nat) : U8 (dec S K b r) := by
  cases r with
  | zero => exact hb
  | succ r => exact U8_subBack hS _
theorem U8_xor16 {a b : List Int} (h : U8 a) : U8 (xor16 a b) := U8_xorTo h _
def backL (S K b : List Int) : List Int := xor16 (dec S K b 10) (kwas K 0)
def backI (key b : List Int) : List Int := backL BK (keysOf key) b
theorem backI_len (key b : List Int) (h : b.length = 16) : (backI key b).length = 16 := (xor16_len _ _).trans (dec_len _ _ _ h _)
theorem U8_backI {key b : List Int} (h : U8 b) : U8 (backI key b) := U8_xorTo (U8_dec U8_BK h _) _
attribute [irreducible] xor16 mixI blockL keysOf decX
/-- A number of bytes, one more: from its end on. -/
def incF (l : List Int) : Nat → List Int
  | 0 => l
  | i + 1 => if (l.set i (IntKind.u8.wrap (l.getD i 0 + 1))).getD i 0 = 0 then incF (l.set i (IntKind.u8.wrap (l.getD i 0 + 1))) i else l.set i (IntKind.u8.wrap (l.getD i 0 + 1))
def inc16 (l : List Int) : List Int := incF l 16
theorem incF_len (l : List Int) (i : Nat) : (incF l i).length = l.length := by
  induction i generalizing l with
  | zero => rfl
  | succ i ih => simp only [incF]; split <;> simp [ih]
theorem U8_incF {l : List Int} (h : U8 l) (i : Nat) : U8 (incF l i) := by
  induction i generalizing l with
  | zero => exact h
  | succ i ih =>
    have h2 := h.set i (wrap_u8_range (l.getD i 0 + 1))
    simp only [incF]; split
    · exact ih h2
    · exact h2
def ctr (first : List Int) : Nat → List Int
  | 0 => first
  | q + 1 => inc16 (ctr first q)
theorem ctr_len (first : List Int) (q : Nat) : (ctr first q).length = first.length := by
  induction q with
  | zero => rfl
  | succ q ih => simp [ctr, inc16, incF_len, ih]
theorem U8_ctr {first : List Int} (h : U8 first) (q : Nat) : U8 (ctr first q) := by
  induction q with
  | zero => exact h
  | succ q ih => exact U8_incF ih _
/-- So many bytes of a block are told. -/
def str1 (B s out : List Int) (at_ : Nat) : Nat → List Int
  | 0 => out
  | r + 1 => (str1 B s out at_ r).set (at_ + r) (xorK .u8 (B.getD (at_ + r) 0) (s.getD r 0))
theorem str1_len (B s out : List Int) (at_ r : Nat) : (str1 B s out at_ r).length = out.length := by
  induction r with
  | zero => rfl
  | succ r ih => simp [str1, ih]
def strN (key first B : List Int) (n : Nat) : Nat → List Int
  | 0 => z n
  | q + 1 => str1 B (blockI key (ctr first q)) (strN key first B n q) (16 * q) (min 16 (n - 16 * q))
theorem strN_len (key first B : List Int) (n q : Nat) : (strN key first B n q).length = n := by
  induction q with
  | zero => exact z_len _
  | succ q ih => simp [strN, str1_len, ih]
def streamI (key first B : List Int) : List Int := strN key first B B.length ((B.length + 15) / 16)

end Go.Proofs.X
