/- What cut keys are, place by place; a copy of bytes. No program. -/
import Derived.Test.YtffflnpidipheaaKeyPure
open Go Go.Ab Go.Proofs
namespace Go.Proofs.X
def twL (B : List Int) (cap : Nat) : Nat → List Int
  | 0 => List.replicate cap 0
  | i + 1 => spl (twL B cap i) (([B.getD i 0].drop 0).take 1) i 1 cap
theorem twL_len (B : List Int) (cap i : Nat) : (twL B cap i).length = cap := by
  cases i with
  | zero => simp [twL]
  | succ i => exact spl_len _ _ _ _ _
theorem twL_getD (B : List Int) (cap i k : Nat) (hk : k < i) (hi : i ≤ cap) : (twL B cap i).getD k 0 = B.getD k 0 := by
  induction i with
  | zero => omega
  | succ i ih =>
    rw [twL, spl_getD _ _ _ _ _ _ (by omega)]
    by_cases h : i ≤ k
    · have : k = i := by omega
      subst this
      rw [if_pos ⟨h, by omega⟩, Nat.sub_self]
      simp
    · rw [if_neg (fun hh => h hh.1)]
      exact ih (by omega) (by omega)
def twE (B : List Int) (len : Nat) : List Int := spl (twL B (len + 1) len) (([77].drop 0).take 1) len 1 (len + 1)
theorem twE_len (B : List Int) (len : Nat) : (twE B len).length = len + 1 := spl_len _ _ _ _ _
theorem twE_getD (B : List Int) (len k : Nat) (hk : k < len) : (twE B len).getD k 0 = B.getD k 0 := by
  rw [twE, spl_getD _ _ _ _ _ _ (by omega), if_neg (by omega)]
  exact twL_getD _ _ _ _ hk (by omega)
theorem twE_take (B : List Int) (len : Nat) (hB : B.length = len) : ((twE B len).drop 0).take len = B := by
  refine eq_getD (n := len) (by simp [twE_len]) hB fun k hk => ?_
  rw [getD_dt _ _ _ _ hk, Nat.zero_add, twE_getD _ _ _ hk]
def cutM (B : List Int) (p : Nat) : List Int := spl (z 32) ((B.drop (48 * p)).take 32) (0 + 0) 32 32
def cutC (B : List Int) (p : Nat) : List Int := spl (z 16) ((B.drop (48 * p + 32)).take 16) (0 + 0) 16 16
theorem cutM_len (B : List Int) (p : Nat) : (cutM B p).length = 32 := spl_len _ _ _ _ _
theorem cutC_len (B : List Int) (p : Nat) : (cutC B p).length = 16 := spl_len _ _ _ _ _
theorem cutM_getD (B : List Int) (p i : Nat) (hi : i < 32) : (cutM B p).getD i 0 = B.getD (48 * p + i) 0 := by
  rw [cutM, spl_getD _ _ _ _ _ _ hi, if_pos ⟨by omega, by omega⟩, getD_dt _ _ _ _ (by omega)]; simp
theorem cutC_getD (B : List Int) (p i : Nat) (hi : i < 16) : (cutC B p).getD i 0 = B.getD (48 * p + 32 + i) 0 := by
  rw [cutC, spl_getD _ _ _ _ _ _ hi, if_pos ⟨by omega, by omega⟩, getD_dt _ _ _ _ (by omega)]; simp
theorem cutM_eq (B : List Int) (p len : Nat) (hB : B.length = len) (h : 48 * p + 32 ≤ len) : cutM B p = (B.drop (0 + 48 * p)).take 32 := by
  refine eq_getD (n := 32) (cutM_len _ _) (by simp; omega) fun k hk => ?_
  rw [cutM_getD _ _ _ hk, getD_dt _ _ _ _ hk, Nat.zero_add]
theorem cutC_eq (B : List Int) (p len : Nat) (hB : B.length = len) (h : 48 * p + 48 ≤ len) : cutC B p = (B.drop (0 + (48 * p + 32))).take 16 := by
  refine eq_getD (n := 16) (cutC_len _ _) (by simp; omega) fun k hk => ?_
  rw [cutC_getD _ _ _ hk, getD_dt _ _ _ _ hk, Nat.zero_add]
theorem xor8_self (a b : Int) (ha : 0 ≤ a ∧ a < 256) (hb : 0 ≤ b ∧ b < 256) : xorK .u8 a b = a ↔ b = 0 := by
  have e : xorK .u8 a b = IntKind.u8.wrap ((BitVec.ofInt 8 a ^^^ BitVec.ofInt 8 b).toNat : Int) := rfl
  have hw : ∀ x : BitVec 8, IntKind.u8.wrap (x.toNat : Int) = (x.toNat : Int) := fun x => wrap_u8 (by omega) (by have := x.isLt; omega)
  obtain ⟨n, rfl⟩ : ∃ n : Nat, a = n := ⟨a.toNat, by omega⟩
  obtain ⟨m, rfl⟩ : ∃ n : Nat, b = n := ⟨b.toNat, by omega⟩
  rw [e, hw]
  have hn : n < 256 := by omega
  have hm : m < 256 := by omega
  rw [show BitVec.ofInt 8 (n : Int) = BitVec.ofNat 8 n from rfl, show BitVec.ofInt 8 (m : Int) = BitVec.ofNat 8 m from rfl]
  constructor
  · intro h
    have h1 : BitVec.ofNat 8 n ^^^ BitVec.ofNat 8 m = BitVec.ofNat 8 n := by
      apply BitVec.eq_of_toNat_eq
      have : (BitVec.ofNat 8 n).toNat = n := by simp; omega
      rw [this]; omega
    have h2 : BitVec.ofNat 8 m = 0 := by
      have : BitVec.ofNat 8 n ^^^ (BitVec.ofNat 8 n ^^^ BitVec.ofNat 8 m) = BitVec.ofNat 8 m := by rw [← BitVec.xor_assoc, BitVec.xor_self, BitVec.zero_xor]
      rw [← this, h1, BitVec.xor_self]; rfl
    have h3 : (BitVec.ofNat 8 m).toNat = 0 := by rw [h2]; rfl
    simp at h3
    omega
  · intro h
    have : m = 0 := by omega
    subst this
    simp; omega
/-- The bytes, one of them against another one. -/
def flipped (B : List Int) (len k : Nat) (v : Int) : List Int := (((twE B len).set k (xorK .u8 ((twE B len).getD k 0) v)).drop 0).take len
theorem flipped_len (B : List Int) (len k : Nat) (v : Int) : (flipped B len k v).length = len := by simp [flipped, twE_len]
theorem flipped_getD (B : List Int) (len k : Nat) (v : Int) (hk : k < len) (i : Nat) (hi : i < len) : (flipped B len k v).getD i 0 = if k = i then xorK .u8 (B.getD k 0) v else B.getD i 0 := by
  rw [flipped, getD_dt _ _ _ _ hi, Nat.zero_add, getD_set, twE_len, twE_getD _ _ _ hk]
  by_cases h : k = i
  · rw [if_pos ⟨h, by omega⟩, if_pos h]
  · rw [if_neg (fun hh => h hh.1), if_neg h, twE_getD _ _ _ hi]
theorem cut_law (n0 n1 : Nat) (e0 : n0 = 32) (e16 : n1 = 16) (B : List Int) (len p k : Nat) (v : Int) (h8 : U8 B) (hv : 0 ≤ v ∧ v < 256) (hp : 48 * p + 48 ≤ len) (hk : k < len) :
    (!((decide (∀ i, i < n0 → (cutM B p).getD i 0 = (cutM (flipped B len k v) p).getD i 0) && decide (∀ i, i < n1 → (cutC B p).getD i 0 = (cutC (flipped B len k v) p).getD i 0)) == ((decide (((48 * p : Nat) : Int) ≤ ((k : Nat) : Int)) && decide (((k : Nat) : Int) < ((48 * p + 48 : Nat) : Int))) && decide (v ≠ 0)))) = true := by
  have hx := xor8_self (B.getD k 0) v (h8 k) hv
  have hM : (∀ i, i < n0 → (cutM B p).getD i 0 = (cutM (flipped B len k v) p).getD i 0) ↔ ¬ (48 * p ≤ k ∧ k < 48 * p + 32 ∧ v ≠ 0) := by
    constructor
    · rintro h ⟨h1, h2, h3⟩
      have := h (k - 48 * p) (by omega)
      rw [cutM_getD _ _ _ (by omega), cutM_getD _ _ _ (by omega), flipped_getD _ _ _ _ hk _ (by omega), if_pos (by omega), show 48 * p + (k - 48 * p) = k by omega] at this
      exact h3 (hx.1 this.symm)
    · intro h i hi
      rw [cutM_getD _ _ _ (by omega), cutM_getD _ _ _ (by omega), flipped_getD _ _ _ _ hk _ (by omega)]
      by_cases e : k = 48 * p + i
      · rw [if_pos e, ← e]
        have : v = 0 := by
          apply Classical.byContradiction
          intro hne
          exact h ⟨by omega, by omega, hne⟩
        exact (hx.2 this).symm
      · rw [if_neg e]
  have hC : (∀ i, i < n1 → (cutC B p).getD i 0 = (cutC (flipped B len k v) p).getD i 0) ↔ ¬ (48 * p + 32 ≤ k ∧ k < 48 * p + 48 ∧ v ≠ 0) := by
    constructor
    · rintro h ⟨h1, h2, h3⟩
      have := h (k - (48 * p + 32)) (by omega)
      rw [cutC_getD _ _ _ (by omega), cutC_getD _ _ _ (by omega), flipped_getD _ _ _ _ hk _ (by omega), if_pos (by omega), show 48 * p + 32 + (k - (48 * p + 32)) = k by omega] at this
      exact h3 (hx.1 this.symm)
    · intro h i hi
      rw [cutC_getD _ _ _ (by omega), cutC_getD _ _ _ (by omega), flipped_getD _ _ _ _ hk _ (by omega)]
      by_cases e : k = 48 * p + 32 + i
      · rw [if_pos e, ← e]
        have : v = 0 := by
          apply Classical.byContradiction
          intro hne
          exact h ⟨by omega, by omega, hne⟩
        exact (hx.2 this).symm
      · rw [if_neg e]
  have e1 : (decide (∀ i, i < n0 → (cutM B p).getD i 0 = (cutM (flipped B len k v) p).getD i 0) && decide (∀ i, i < n1 → (cutC B p).getD i 0 = (cutC (flipped B len k v) p).getD i 0)) = decide (¬ (48 * p ≤ k ∧ k < 48 * p + 48 ∧ v ≠ 0)) := by
    rw [Bool.eq_iff_iff, Bool.and_eq_true, decide_eq_true_iff, decide_eq_true_iff, decide_eq_true_iff, hM, hC]
    constructor
    · rintro ⟨h1, h2⟩ ⟨h3, h4, h5⟩
      by_cases h6 : k < 48 * p + 32
      · exact h1 ⟨h3, h6, h5⟩
      · exact h2 ⟨by omega, h4, h5⟩
    · intro h
      exact ⟨fun hh => h ⟨hh.1, by omega, hh.2.2⟩, fun hh => h ⟨by omega, hh.2.1, hh.2.2⟩⟩
  have e2 : ((decide (((48 * p : Nat) : Int) ≤ ((k : Nat) : Int)) && decide (((k : Nat) : Int) < ((48 * p + 48 : Nat) : Int))) && decide (v ≠ 0)) = decide (48 * p ≤ k ∧ k < 48 * p + 48 ∧ v ≠ 0) := by
    rw [Bool.eq_iff_iff, Bool.and_eq_true, Bool.and_eq_true, decide_eq_true_iff, decide_eq_true_iff, decide_eq_true_iff, decide_eq_true_iff]
    constructor
    · rintro ⟨⟨h1, h2⟩, h3⟩; exact ⟨by omega, by omega, h3⟩
    · rintro ⟨h1, h2, h3⟩; exact ⟨⟨by omega, by omega⟩, h3⟩
  rw [e1, e2]
  by_cases h : 48 * p ≤ k ∧ k < 48 * p + 48 ∧ v ≠ 0 <;> simp [h]
end Go.Proofs.X
