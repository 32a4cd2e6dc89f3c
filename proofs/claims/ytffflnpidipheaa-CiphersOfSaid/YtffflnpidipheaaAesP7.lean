/- Plain laws of the stream: each byte is against a byte that hangs on key, first number and place alone. -/
import Derived.Test.YtffflnpidipheaaAesW5
open Go Go.Ab Go.Proofs
namespace Go.Proofs.X
theorem ofInt_wrap8 (x : BitVec 8) : BitVec.ofInt 8 (IntKind.u8.wrap (x.toNat : Int)) = x := by
  have h : IntKind.u8.wrap (x.toNat : Int) = (x.toNat : Int) := by
    have := x.isLt
    exact wrap_u8 (by omega) (by omega)
  rw [h]
  simp
theorem xorK_cancel (a b p : Int) : xorK .u8 (xorK .u8 a p) (xorK .u8 b p) = xorK .u8 a b := by
  have e : ∀ m n : Int, xorK .u8 m n = IntKind.u8.wrap ((BitVec.ofInt 8 m ^^^ BitVec.ofInt 8 n).toNat : Int) := fun _ _ => rfl
  rw [e (xorK .u8 a p), e a p, e b p, ofInt_wrap8, ofInt_wrap8, e a b]
  congr 3
  generalize BitVec.ofInt 8 a = x
  generalize BitVec.ofInt 8 b = y
  generalize BitVec.ofInt 8 p = q
  rw [BitVec.xor_assoc, ← BitVec.xor_assoc q, BitVec.xor_comm q y, BitVec.xor_assoc y, BitVec.xor_self, BitVec.xor_zero]
theorem str1_get (B s out : List Int) (at_ r k : Nat) (hk : k < out.length) : (str1 B s out at_ r).getD k 0 = if at_ ≤ k ∧ k < at_ + r then xorK .u8 (B.getD k 0) (s.getD (k - at_) 0) else out.getD k 0 := by
  induction r with
  | zero => rw [if_neg (by omega)]; rfl
  | succ r ih =>
    simp only [str1, List.getD_eq_getElem?_getD, List.getElem?_set] at ih ⊢
    by_cases h : at_ + r = k
    · subst h
      rw [if_pos rfl, if_pos (by rw [str1_len]; exact hk), if_pos (by omega)]
      simp
    · rw [if_neg h, ih]
      by_cases h2 : at_ ≤ k ∧ k < at_ + r
      · rw [if_pos h2, if_pos (by omega)]
      · rw [if_neg h2, if_neg (by omega)]
def pad (key first : List Int) (k : Nat) : Int := (blockI key (ctr first (k / 16))).getD (k % 16) 0
theorem strN_get (key first B : List Int) (n q k : Nat) (hn : k < n) (hq : k < 16 * q) : (strN key first B n q).getD k 0 = xorK .u8 (B.getD k 0) (pad key first k) := by
  induction q with
  | zero => omega
  | succ q ih =>
    rw [strN, str1_get _ _ _ _ _ _ (by rw [strN_len]; exact hn)]
    by_cases h : 16 * q ≤ k
    · rw [if_pos (by omega), pad, show k / 16 = q by omega, show k % 16 = k - 16 * q by omega]
    · rw [if_neg (by omega)]; exact ih (by omega)
theorem streamN_get (key first B : List Int) (n k : Nat) (hn : k < n) : (streamN key first B n).getD k 0 = xorK .u8 (B.getD k 0) (pad key first k) := strN_get _ _ _ _ _ _ hn (by omega)
theorem stream_against (key first B0 B1 : List Int) (n0 n1 k : Nat) (h0 : k < n0) (h1 : k < n1) : xorK .u8 ((streamN key first B0 n0).getD k 0) ((streamN key first B1 n1).getD k 0) = xorK .u8 (B0.getD k 0) (B1.getD k 0) := by
  rw [streamN_get _ _ _ _ _ h0, streamN_get _ _ _ _ _ h1, xorK_cancel]
end Go.Proofs.X
