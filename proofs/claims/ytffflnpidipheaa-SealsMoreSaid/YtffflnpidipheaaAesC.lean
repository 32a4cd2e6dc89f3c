/- A part of the proofs of this claim: AesC (AesP7, AesP4). No conditions. -/
import Derived.Test.YtffflnpidipheaaAesB
set_option linter.unusedVariables false
set_option linter.unusedSimpArgs false
section
/- Plain laws of the stream: each byte is against a byte that hangs on key, first number and place alone. -/
open Go Go.Ab Go.Proofs
namespace Go.Proofs.X
theorem ofInt_wrap8 (x : BitVec 8) : BitVec.ofInt 8 (IntKind.u8.wrap (x.toNat : Int)) = x := by
  have h : IntKind.u8.wrap (x.toNat : Int) = (x.toNat : Int) := by
    have := x.isLt
    exact wrap_u8 (by omega) (by omega)
  rw [h]
  simp
theorem xorK_cancel (a b p : Int) : xorK .u8 (xorK .u8 a p) (xorK .u8 b p) = xorK .u8 a b := by
  have e : ∀ m n : Int, xorK .u8 m n = IntKind.u8.wrap ((BitVec.ofInt 8 m ^^^ BitVec.ofInt 8 n).toNat : Int) := fun _ _ => rfl
  rw [e (xorK .u8 a p), e a p, e b p, ofInt_wrap8, ofInt_wrap8, e a b]
  congr 3
  generalize BitVec.ofInt 8 a = x
  generalize BitVec.ofInt 8 b = y
  generalize BitVec.ofInt 8 p = q
  rw [BitVec.xor_assoc, ← BitVec.xor_assoc q, BitVec.xor_comm q y, BitVec.xor_assoc y, BitVec.xor_self, BitVec.xor_zero]
theorem str1_get (B s out : List Int) (at_ r k : Nat) (hk : k < out.length) : (str1 B s out at_ r).getD k 0 = if at_ ≤ k ∧ k < at_ + r then xorK .u8 (B.getD k 0) (s.getD (k - at_) 0) else out.getD k 0 := by
  induction r with
  | zero => rw [if_neg (by omega)]; rfl
  | succ r ih =>
    simp only [str1, List.getD_eq_getElem?_getD, List.getElem?_set] at ih ⊢
    by_cases h : at_ + r = k
    · subst h
      rw [if_pos rfl, if_pos (by rw [str1_len]; exact hk), if_pos (by omega)]
      simp
    · rw [if_neg h, ih]
      by_cases h2 : at_ ≤ k ∧ k < at_ + r
      · rw [if_pos h2, if_pos (by omega)]
      · rw [if_neg h2, if_neg (by omega)]
def pad (key first : List Int) (k : Nat) : Int := (blockI key (ctr first (k / 16))).getD (k % 16) 0
theorem strN_get (key first B : List Int) (n q k : Nat) (hn : k < n) (hq : k < 16 * q) : (strN key first B n q).getD k 0 = xorK .u8 (B.getD k 0) (pad key first k) := by
  induction q with
  | zero => omega
  | succ q ih =>
    rw [strN, str1_get _ _ _ _ _ _ (by rw [strN_len]; exact hn)]
    by_cases h : 16 * q ≤ k
    · rw [if_pos (by omega), pad, show k / 16 = q by omega, show k % 16 = k - 16 * q by omega]
    · rw [if_neg (by omega)]; exact ih (by omega)
theorem streamN_get (key first B : List Int) (n k : Nat) (hn : k < n) : (streamN key first B n).getD k 0 = xorK .u8 (B.getD k 0) (pad key first k) := strN_get _ _ _ _ _ _ hn (by omega)
theorem stream_against (key first B0 B1 : List Int) (n0 n1 k : Nat) (h0 : k < n0) (h1 : k < n1) : xorK .u8 ((streamN key first B0 n0).getD k 0) ((streamN key first B1 n1).getD k 0) = xorK .u8 (B0.getD k 0) (B1.getD k 0) := by
  rw [streamN_get _ _ _ _ _ h0, streamN_get _ _ _ _ _ h1, xorK_cancel]
end Go.Proofs.X
end

section
/- Plain laws: sixteen bytes by a key, and back. -/
open Go Go.Ab Go.Proofs
namespace Go.Proofs.X
def e8 (x : BitVec 8) : Int := (x.toNat : Int)
def tw (x : BitVec 8) : BitVec 8 := if x >>> 7 = 1 then (x <<< 1) ^^^ 27 else x <<< 1
theorem ofInt_e8 (x : BitVec 8) : BitVec.ofInt 8 (e8 x) = x := by simp [e8]
theorem wrap_e8 (x : BitVec 8) : IntKind.u8.wrap ((x.toNat : Nat) : Int) = e8 x := wrap_u8 (by omega) (by have := x.isLt; omega)
theorem xor_e (x y : BitVec 8) : xorK .u8 (e8 x) (e8 y) = e8 (x ^^^ y) := by
  show IntKind.u8.wrap ((BitVec.ofInt 8 (e8 x) ^^^ BitVec.ofInt 8 (e8 y)).toNat : Int) = _
  rw [ofInt_e8, ofInt_e8, wrap_e8]
theorem twice_e0 : ∀ n, n < 256 → twiceI (n : Nat) = e8 (tw (BitVec.ofNat 8 n)) := by decide +kernel
theorem twice_e (x : BitVec 8) : twiceI (e8 x) = e8 (tw x) := by
  have := twice_e0 x.toNat x.isLt
  rwa [BitVec.ofNat_toNat, BitVec.setWidth_eq] at this
theorem tw_form0 : ∀ n, n < 256 → tw (BitVec.ofNat 8 n) = (BitVec.ofNat 8 n <<< 1) ^^^ (if (BitVec.ofNat 8 n).getLsbD 7 then 27 else 0) := by decide +kernel
theorem tw_form (x : BitVec 8) : tw x = (x <<< 1) ^^^ (if x.getLsbD 7 then 27 else 0) := by
  have := tw_form0 x.toNat x.isLt
  rwa [BitVec.ofNat_toNat, BitVec.setWidth_eq] at this
theorem b_lc (x y z : BitVec 8) : x ^^^ (y ^^^ z) = y ^^^ (x ^^^ z) := by rw [← BitVec.xor_assoc, BitVec.xor_comm x, BitVec.xor_assoc]
theorem b_sl (x y : BitVec 8) : x ^^^ (x ^^^ y) = y := by rw [← BitVec.xor_assoc, BitVec.xor_self, BitVec.zero_xor]
theorem tw_xor (x y : BitVec 8) : tw (x ^^^ y) = tw x ^^^ tw y := by
  rw [tw_form, tw_form, tw_form, BitVec.shiftLeft_xor_distrib, BitVec.getLsbD_xor]
  cases x.getLsbD 7 <;> cases y.getLsbD 7 <;> simp [BitVec.xor_assoc, b_lc, b_sl]
  all_goals (rw [BitVec.xor_comm])
def mx (x all y : Int) : Int := xorK .u8 x (xorK .u8 all (twiceI (xorK .u8 x y)))
theorem mixC_0 (a0 a1 a2 a3 a4 a5 a6 a7 a8 a9 a10 a11 a12 a13 a14 a15 : Int) : mixC [a0, a1, a2, a3, a4, a5, a6, a7, a8, a9, a10, a11, a12, a13, a14, a15] 0 = [mx a0 (xorK .u8 (xorK .u8 (xorK .u8 a0 a1) a2) a3) a1, mx a1 (xorK .u8 (xorK .u8 (xorK .u8 a0 a1) a2) a3) a2, mx a2 (xorK .u8 (xorK .u8 (xorK .u8 a0 a1) a2) a3) a3, mx a3 (xorK .u8 (xorK .u8 (xorK .u8 a0 a1) a2) a3) a0, a4, a5, a6, a7, a8, a9, a10, a11, a12, a13, a14, a15] := by simp [mixC, mixR, mx]
theorem mixC_1 (a0 a1 a2 a3 a4 a5 a6 a7 a8 a9 a10 a11 a12 a13 a14 a15 : Int) : mixC [a0, a1, a2, a3, a4, a5, a6, a7, a8, a9, a10, a11, a12, a13, a14, a15] 4 = [a0, a1, a2, a3, mx a4 (xorK .u8 (xorK .u8 (xorK .u8 a4 a5) a6) a7) a5, mx a5 (xorK .u8 (xorK .u8 (xorK .u8 a4 a5) a6) a7) a6, mx a6 (xorK .u8 (xorK .u8 (xorK .u8 a4 a5) a6) a7) a7, mx a7 (xorK .u8 (xorK .u8 (xorK .u8 a4 a5) a6) a7) a4, a8, a9, a10, a11, a12, a13, a14, a15] := by simp [mixC, mixR, mx]
theorem mixC_2 (a0 a1 a2 a3 a4 a5 a6 a7 a8 a9 a10 a11 a12 a13 a14 a15 : Int) : mixC [a0, a1, a2, a3, a4, a5, a6, a7, a8, a9, a10, a11, a12, a13, a14, a15] 8 = [a0, a1, a2, a3, a4, a5, a6, a7, mx a8 (xorK .u8 (xorK .u8 (xorK .u8 a8 a9) a10) a11) a9, mx a9 (xorK .u8 (xorK .u8 (xorK .u8 a8 a9) a10) a11) a10, mx a10 (xorK .u8 (xorK .u8 (xorK .u8 a8 a9) a10) a11) a11, mx a11 (xorK .u8 (xorK .u8 (xorK .u8 a8 a9) a10) a11) a8, a12, a13, a14, a15] := by simp [mixC, mixR, mx]
theorem mixC_3 (a0 a1 a2 a3 a4 a5 a6 a7 a8 a9 a10 a11 a12 a13 a14 a15 : Int) : mixC [a0, a1, a2, a3, a4, a5, a6, a7, a8, a9, a10, a11, a12, a13, a14, a15] 12 = [a0, a1, a2, a3, a4, a5, a6, a7, a8, a9, a10, a11, mx a12 (xorK .u8 (xorK .u8 (xorK .u8 a12 a13) a14) a15) a13, mx a13 (xorK .u8 (xorK .u8 (xorK .u8 a12 a13) a14) a15) a14, mx a14 (xorK .u8 (xorK .u8 (xorK .u8 a12 a13) a14) a15) a15, mx a15 (xorK .u8 (xorK .u8 (xorK .u8 a12 a13) a14) a15) a12] := by simp [mixC, mixR, mx]
theorem mixI_16 (a0 a1 a2 a3 a4 a5 a6 a7 a8 a9 a10 a11 a12 a13 a14 a15 : Int) : mixI [a0, a1, a2, a3, a4, a5, a6, a7, a8, a9, a10, a11, a12, a13, a14, a15] = [mx a0 (xorK .u8 (xorK .u8 (xorK .u8 a0 a1) a2) a3) a1, mx a1 (xorK .u8 (xorK .u8 (xorK .u8 a0 a1) a2) a3) a2, mx a2 (xorK .u8 (xorK .u8 (xorK .u8 a0 a1) a2) a3) a3, mx a3 (xorK .u8 (xorK .u8 (xorK .u8 a0 a1) a2) a3) a0, mx a4 (xorK .u8 (xorK .u8 (xorK .u8 a4 a5) a6) a7) a5, mx a5 (xorK .u8 (xorK .u8 (xorK .u8 a4 a5) a6) a7) a6, mx a6 (xorK .u8 (xorK .u8 (xorK .u8 a4 a5) a6) a7) a7, mx a7 (xorK .u8 (xorK .u8 (xorK .u8 a4 a5) a6) a7) a4, mx a8 (xorK .u8 (xorK .u8 (xorK .u8 a8 a9) a10) a11) a9, mx a9 (xorK .u8 (xorK .u8 (xorK .u8 a8 a9) a10) a11) a10, mx a10 (xorK .u8 (xorK .u8 (xorK .u8 a8 a9) a10) a11) a11, mx a11 (xorK .u8 (xorK .u8 (xorK .u8 a8 a9) a10) a11) a8, mx a12 (xorK .u8 (xorK .u8 (xorK .u8 a12 a13) a14) a15) a13, mx a13 (xorK .u8 (xorK .u8 (xorK .u8 a12 a13) a14) a15) a14, mx a14 (xorK .u8 (xorK .u8 (xorK .u8 a12 a13) a14) a15) a15, mx a15 (xorK .u8 (xorK .u8 (xorK .u8 a12 a13) a14) a15) a12] := by
  unfold mixI
  show mixC (mixC (mixC (mixC [a0, a1, a2, a3, a4, a5, a6, a7, a8, a9, a10, a11, a12, a13, a14, a15] 0) 4) 8) 12 = _
  rw [mixC_0, mixC_1, mixC_2, mixC_3]
theorem mx_e (x al y : BitVec 8) : mx (e8 x) (e8 al) (e8 y) = e8 (x ^^^ (al ^^^ tw (x ^^^ y))) := by simp only [mx, xor_e, twice_e]
theorem tw_0 : tw 0 = 0 := by decide +kernel
theorem col0 (a b c d : BitVec 8) : (a ^^^ ((a ^^^ b ^^^ c ^^^ d) ^^^ tw (a ^^^ b))) ^^^ (((a ^^^ ((a ^^^ b ^^^ c ^^^ d) ^^^ tw (a ^^^ b))) ^^^ (b ^^^ ((a ^^^ b ^^^ c ^^^ d) ^^^ tw (b ^^^ c))) ^^^ (c ^^^ ((a ^^^ b ^^^ c ^^^ d) ^^^ tw (c ^^^ d))) ^^^ (d ^^^ ((a ^^^ b ^^^ c ^^^ d) ^^^ tw (d ^^^ a)))) ^^^ tw ((a ^^^ ((a ^^^ b ^^^ c ^^^ d) ^^^ tw (a ^^^ b))) ^^^ (b ^^^ ((a ^^^ b ^^^ c ^^^ d) ^^^ tw (b ^^^ c))))) = a ^^^ (tw (tw a) ^^^ tw (tw c)) := by
  simp [tw_xor, BitVec.xor_assoc, BitVec.xor_comm, b_lc, b_sl]
theorem col1 (a b c d : BitVec 8) : (b ^^^ ((a ^^^ b ^^^ c ^^^ d) ^^^ tw (b ^^^ c))) ^^^ (((a ^^^ ((a ^^^ b ^^^ c ^^^ d) ^^^ tw (a ^^^ b))) ^^^ (b ^^^ ((a ^^^ b ^^^ c ^^^ d) ^^^ tw (b ^^^ c))) ^^^ (c ^^^ ((a ^^^ b ^^^ c ^^^ d) ^^^ tw (c ^^^ d))) ^^^ (d ^^^ ((a ^^^ b ^^^ c ^^^ d) ^^^ tw (d ^^^ a)))) ^^^ tw ((b ^^^ ((a ^^^ b ^^^ c ^^^ d) ^^^ tw (b ^^^ c))) ^^^ (c ^^^ ((a ^^^ b ^^^ c ^^^ d) ^^^ tw (c ^^^ d))))) = b ^^^ (tw (tw b) ^^^ tw (tw d)) := by
  simp [tw_xor, BitVec.xor_assoc, BitVec.xor_comm, b_lc, b_sl]
theorem col2 (a b c d : BitVec 8) : (c ^^^ ((a ^^^ b ^^^ c ^^^ d) ^^^ tw (c ^^^ d))) ^^^ (((a ^^^ ((a ^^^ b ^^^ c ^^^ d) ^^^ tw (a ^^^ b))) ^^^ (b ^^^ ((a ^^^ b ^^^ c ^^^ d) ^^^ tw (b ^^^ c))) ^^^ (c ^^^ ((a ^^^ b ^^^ c ^^^ d) ^^^ tw (c ^^^ d))) ^^^ (d ^^^ ((a ^^^ b ^^^ c ^^^ d) ^^^ tw (d ^^^ a)))) ^^^ tw ((c ^^^ ((a ^^^ b ^^^ c ^^^ d) ^^^ tw (c ^^^ d))) ^^^ (d ^^^ ((a ^^^ b ^^^ c ^^^ d) ^^^ tw (d ^^^ a))))) = c ^^^ (tw (tw c) ^^^ tw (tw a)) := by
  simp [tw_xor, BitVec.xor_assoc, BitVec.xor_comm, b_lc, b_sl]
theorem col3 (a b c d : BitVec 8) : (d ^^^ ((a ^^^ b ^^^ c ^^^ d) ^^^ tw (d ^^^ a))) ^^^ (((a ^^^ ((a ^^^ b ^^^ c ^^^ d) ^^^ tw (a ^^^ b))) ^^^ (b ^^^ ((a ^^^ b ^^^ c ^^^ d) ^^^ tw (b ^^^ c))) ^^^ (c ^^^ ((a ^^^ b ^^^ c ^^^ d) ^^^ tw (c ^^^ d))) ^^^ (d ^^^ ((a ^^^ b ^^^ c ^^^ d) ^^^ tw (d ^^^ a)))) ^^^ tw ((d ^^^ ((a ^^^ b ^^^ c ^^^ d) ^^^ tw (d ^^^ a))) ^^^ (a ^^^ ((a ^^^ b ^^^ c ^^^ d) ^^^ tw (a ^^^ b))))) = d ^^^ (tw (tw d) ^^^ tw (tw b)) := by
  simp [tw_xor, BitVec.xor_assoc, BitVec.xor_comm, b_lc, b_sl]
theorem mix2 (x0 x1 x2 x3 x4 x5 x6 x7 x8 x9 x10 x11 x12 x13 x14 x15 : BitVec 8) : mixI (mixI [e8 x0, e8 x1, e8 x2, e8 x3, e8 x4, e8 x5, e8 x6, e8 x7, e8 x8, e8 x9, e8 x10, e8 x11, e8 x12, e8 x13, e8 x14, e8 x15]) = [e8 (x0 ^^^ (tw (tw x0) ^^^ tw (tw x2))), e8 (x1 ^^^ (tw (tw x1) ^^^ tw (tw x3))), e8 (x2 ^^^ (tw (tw x2) ^^^ tw (tw x0))), e8 (x3 ^^^ (tw (tw x3) ^^^ tw (tw x1))), e8 (x4 ^^^ (tw (tw x4) ^^^ tw (tw x6))), e8 (x5 ^^^ (tw (tw x5) ^^^ tw (tw x7))), e8 (x6 ^^^ (tw (tw x6) ^^^ tw (tw x4))), e8 (x7 ^^^ (tw (tw x7) ^^^ tw (tw x5))), e8 (x8 ^^^ (tw (tw x8) ^^^ tw (tw x10))), e8 (x9 ^^^ (tw (tw x9) ^^^ tw (tw x11))), e8 (x10 ^^^ (tw (tw x10) ^^^ tw (tw x8))), e8 (x11 ^^^ (tw (tw x11) ^^^ tw (tw x9))), e8 (x12 ^^^ (tw (tw x12) ^^^ tw (tw x14))), e8 (x13 ^^^ (tw (tw x13) ^^^ tw (tw x15))), e8 (x14 ^^^ (tw (tw x14) ^^^ tw (tw x12))), e8 (x15 ^^^ (tw (tw x15) ^^^ tw (tw x13)))] := by
  rw [mixI_16, mixI_16]
  simp only [mx_e, xor_e, col0, col1, col2, col3]
theorem col4 (a c : BitVec 8) : (a ^^^ (tw (tw a) ^^^ tw (tw c))) ^^^ (tw (tw (a ^^^ (tw (tw a) ^^^ tw (tw c)))) ^^^ tw (tw (c ^^^ (tw (tw c) ^^^ tw (tw a))))) = a := by
  simp [tw_xor, BitVec.xor_assoc, BitVec.xor_comm, b_lc, b_sl]
theorem mix4 (x0 x1 x2 x3 x4 x5 x6 x7 x8 x9 x10 x11 x12 x13 x14 x15 : BitVec 8) : mixI (mixI (mixI (mixI [e8 x0, e8 x1, e8 x2, e8 x3, e8 x4, e8 x5, e8 x6, e8 x7, e8 x8, e8 x9, e8 x10, e8 x11, e8 x12, e8 x13, e8 x14, e8 x15]))) = [e8 x0, e8 x1, e8 x2, e8 x3, e8 x4, e8 x5, e8 x6, e8 x7, e8 x8, e8 x9, e8 x10, e8 x11, e8 x12, e8 x13, e8 x14, e8 x15] := by
  rw [mix2, mix2]
  simp only [col4]
theorem V_of {l : List Int} (h : l.length = 16) (hu : U8 l) : ∃ x0 x1 x2 x3 x4 x5 x6 x7 x8 x9 x10 x11 x12 x13 x14 x15 : BitVec 8, l = [e8 x0, e8 x1, e8 x2, e8 x3, e8 x4, e8 x5, e8 x6, e8 x7, e8 x8, e8 x9, e8 x10, e8 x11, e8 x12, e8 x13, e8 x14, e8 x15] := by
  obtain ⟨a0, a1, a2, a3, a4, a5, a6, a7, a8, a9, a10, a11, a12, a13, a14, a15, rfl⟩ : ∃ a0 a1 a2 a3 a4 a5 a6 a7 a8 a9 a10 a11 a12 a13 a14 a15 : Int, l = [a0, a1, a2, a3, a4, a5, a6, a7, a8, a9, a10, a11, a12, a13, a14, a15] := by
    rcases l with _ | ⟨a0, l⟩; simp at h; rcases l with _ | ⟨a1, l⟩; simp at h; rcases l with _ | ⟨a2, l⟩; simp at h; rcases l with _ | ⟨a3, l⟩; simp at h; rcases l with _ | ⟨a4, l⟩; simp at h; rcases l with _ | ⟨a5, l⟩; simp at h; rcases l with _ | ⟨a6, l⟩; simp at h; rcases l with _ | ⟨a7, l⟩; simp at h; rcases l with _ | ⟨a8, l⟩; simp at h; rcases l with _ | ⟨a9, l⟩; simp at h; rcases l with _ | ⟨a10, l⟩; simp at h; rcases l with _ | ⟨a11, l⟩; simp at h; rcases l with _ | ⟨a12, l⟩; simp at h; rcases l with _ | ⟨a13, l⟩; simp at h; rcases l with _ | ⟨a14, l⟩; simp at h; rcases l with _ | ⟨a15, l⟩; simp at h; rcases l with _ | ⟨b, l⟩; exact ⟨_, _, _, _, _, _, _, _, _, _, _, _, _, _, _, _, rfl⟩; simp at h
  have key : ∀ a : Int, 0 ≤ a ∧ a < 256 → a = e8 (BitVec.ofInt 8 a) := fun a ha => by
    obtain ⟨m, rfl⟩ := Int.eq_ofNat_of_zero_le ha.1
    simp [e8]
    omega
  exact ⟨BitVec.ofInt 8 a0, BitVec.ofInt 8 a1, BitVec.ofInt 8 a2, BitVec.ofInt 8 a3, BitVec.ofInt 8 a4, BitVec.ofInt 8 a5, BitVec.ofInt 8 a6, BitVec.ofInt 8 a7, BitVec.ofInt 8 a8, BitVec.ofInt 8 a9, BitVec.ofInt 8 a10, BitVec.ofInt 8 a11, BitVec.ofInt 8 a12, BitVec.ofInt 8 a13, BitVec.ofInt 8 a14, BitVec.ofInt 8 a15, by rw [← key a0 (hu 0), ← key a1 (hu 1), ← key a2 (hu 2), ← key a3 (hu 3), ← key a4 (hu 4), ← key a5 (hu 5), ← key a6 (hu 6), ← key a7 (hu 7), ← key a8 (hu 8), ← key a9 (hu 9), ← key a10 (hu 10), ← key a11 (hu 11), ← key a12 (hu 12), ← key a13 (hu 13), ← key a14 (hu 14), ← key a15 (hu 15)]⟩
theorem mix_inv {l : List Int} (h : l.length = 16) (hu : U8 l) : mixI (mixI (mixI (mixI l))) = l := by
  obtain ⟨x0, x1, x2, x3, x4, x5, x6, x7, x8, x9, x10, x11, x12, x13, x14, x15, rfl⟩ := V_of h hu
  exact mix4 _ _ _ _ _ _ _ _ _ _ _ _ _ _ _ _
theorem subTo_16 (S : List Int) (a0 a1 a2 a3 a4 a5 a6 a7 a8 a9 a10 a11 a12 a13 a14 a15 : Int) : subTo S [a0, a1, a2, a3, a4, a5, a6, a7, a8, a9, a10, a11, a12, a13, a14, a15] 16 = [S.getD a0.toNat 0, S.getD a5.toNat 0, S.getD a10.toNat 0, S.getD a15.toNat 0, S.getD a4.toNat 0, S.getD a9.toNat 0, S.getD a14.toNat 0, S.getD a3.toNat 0, S.getD a8.toNat 0, S.getD a13.toNat 0, S.getD a2.toNat 0, S.getD a7.toNat 0, S.getD a12.toNat 0, S.getD a1.toNat 0, S.getD a6.toNat 0, S.getD a11.toNat 0] := rfl
theorem subBack_16 (S : List Int) (a0 a1 a2 a3 a4 a5 a6 a7 a8 a9 a10 a11 a12 a13 a14 a15 : Int) : subBack S [a0, a1, a2, a3, a4, a5, a6, a7, a8, a9, a10, a11, a12, a13, a14, a15] 16 = [S.getD a0.toNat 0, S.getD a13.toNat 0, S.getD a10.toNat 0, S.getD a7.toNat 0, S.getD a4.toNat 0, S.getD a1.toNat 0, S.getD a14.toNat 0, S.getD a11.toNat 0, S.getD a8.toNat 0, S.getD a5.toNat 0, S.getD a2.toNat 0, S.getD a15.toNat 0, S.getD a12.toNat 0, S.getD a9.toNat 0, S.getD a6.toNat 0, S.getD a3.toNat 0] := rfl
theorem bk_sb0 : ∀ n, n < 256 → BK.getD (SB.getD n 0).toNat 0 = (n : Nat) := by decide +kernel
theorem sb_bk0 : ∀ n, n < 256 → SB.getD (BK.getD n 0).toNat 0 = (n : Nat) := by decide +kernel
theorem bk_sb (x : BitVec 8) : BK.getD (SB.getD (e8 x).toNat 0).toNat 0 = e8 x := bk_sb0 x.toNat x.isLt
theorem sb_bk (x : BitVec 8) : SB.getD (BK.getD (e8 x).toNat 0).toNat 0 = e8 x := sb_bk0 x.toNat x.isLt
theorem sub_inv {l : List Int} (h : l.length = 16) (hu : U8 l) : subBack BK (subTo SB l 16) 16 = l := by
  obtain ⟨x0, x1, x2, x3, x4, x5, x6, x7, x8, x9, x10, x11, x12, x13, x14, x15, rfl⟩ := V_of h hu
  rw [subTo_16, subBack_16]
  simp only [bk_sb]
theorem sub_inv2 {l : List Int} (h : l.length = 16) (hu : U8 l) : subTo SB (subBack BK l 16) 16 = l := by
  obtain ⟨x0, x1, x2, x3, x4, x5, x6, x7, x8, x9, x10, x11, x12, x13, x14, x15, rfl⟩ := V_of h hu
  rw [subBack_16, subTo_16]
  simp only [sb_bk]
theorem xorTo_get (a b : List Int) (k i : Nat) : (xorTo a b k).getD i 0 = if i < k ∧ i < a.length then xorK .u8 (a.getD i 0) (b.getD i 0) else a.getD i 0 := by
  induction k with
  | zero => rw [if_neg (by omega)]; rfl
  | succ k ih =>
    rw [xorTo, getD_set, xorTo_len]
    by_cases h : k = i ∧ k < a.length
    · obtain ⟨rfl, h2⟩ := h
      rw [if_pos ⟨rfl, h2⟩, if_pos ⟨by omega, h2⟩, ih, if_neg (by omega)]
    · rw [if_neg h, ih]
      by_cases h2 : i < k ∧ i < a.length
      · rw [if_pos h2, if_pos ⟨by omega, h2.2⟩]
      · rw [if_neg h2, if_neg (by omega)]
theorem xor16_get (a b : List Int) (i : Nat) (h : a.length = 16) (hi : i < 16) : (xor16 a b).getD i 0 = xorK .u8 (a.getD i 0) (b.getD i 0) := by
  unfold xor16; rw [xorTo_get, if_pos ⟨hi, by omega⟩]
theorem list_get {a b : List Int} {n : Nat} (ha : a.length = n) (hb : b.length = n) (h : ∀ k, k < n → a.getD k 0 = b.getD k 0) : a = b := by
  apply List.ext_getElem (by omega)
  intro i h1 h2
  have := h i (by omega)
  simpa [List.getD_eq_getElem?_getD, h1, h2] using this
theorem U8_e {l : List Int} (hu : U8 l) (k : Nat) : ∃ x, l.getD k 0 = e8 x := by
  obtain ⟨m, hm⟩ := Int.eq_ofNat_of_zero_le (hu k).1
  refine ⟨BitVec.ofNat 8 m, ?_⟩
  have := (hu k).2
  rw [hm]
  simp [e8]
  omega
theorem xorK_back (x : BitVec 8) (p : Int) : xorK .u8 (xorK .u8 (e8 x) p) p = e8 x := by
  have e : ∀ m n : Int, xorK .u8 m n = IntKind.u8.wrap ((BitVec.ofInt 8 m ^^^ BitVec.ofInt 8 n).toNat : Int) := fun _ _ => rfl
  rw [e (xorK .u8 (e8 x) p), e (e8 x) p, ofInt_wrap8, ofInt_e8, BitVec.xor_assoc, BitVec.xor_self, BitVec.xor_zero, wrap_e8]
theorem xor16_inv {l : List Int} (k : List Int) (h : l.length = 16) (hu : U8 l) : xor16 (xor16 l k) k = l :=
  list_get (by rw [xor16_len, xor16_len, h]) h fun i hi => by
    rw [xor16_get _ _ _ (by rw [xor16_len, h]) hi, xor16_get _ _ _ h hi]
    obtain ⟨x, hx⟩ := U8_e hu i
    rw [hx, xorK_back]
theorem U8_mixI {b : List Int} (h : U8 b) : U8 (mixI b) := by unfold mixI; exact U8_mixN h 4
theorem decX_0 (y : List Int) : decX y 0 = y := by unfold decX; rfl
theorem decX_s (y : List Int) (r : Nat) : decX y (r + 1) = mixI (mixI (mixI y)) := by unfold decX; rw [if_pos (by omega)]
theorem enc_s (S K b : List Int) (n : Nat) : enc S K b (n + 1) = xor16 (mixI (subTo S (enc S K b n) 16)) (kwas K (n + 1)) := rfl
theorem dec_s (S K b : List Int) (r : Nat) : dec S K b (r + 1) = subBack S (decX (xor16 (dec S K b r) (kwas K (10 - r))) r) 16 := rfl
theorem dec_enc (K b : List Int) (h : b.length = 16) (hu : U8 b) (r : Nat) (hr : r ≤ 9) : dec BK K (blockL SB K b) (r + 1) = enc SB K b (9 - r) := by
  have le := enc_len SB K b h
  have ue := fun n => U8_enc (K := K) U8_SB hu n
  induction r with
  | zero => rw [dec_s, decX_0, show dec BK K (blockL SB K b) 0 = blockL SB K b from rfl, blockL_def, xor16_inv _ (subTo_len _ _ _) (U8_subTo U8_SB _), sub_inv (le _) (ue _)]
  | succ r ih =>
    rw [dec_s, ih (by omega), decX_s, show 9 - r = (9 - (r + 1)) + 1 by omega, enc_s, show 10 - (r + 1) = 9 - (r + 1) + 1 by omega]
    rw [xor16_inv _ (by rw [mixI_len, subTo_len]) (U8_mixI (U8_subTo U8_SB _)), mix_inv (subTo_len _ _ _) (U8_subTo U8_SB _), sub_inv (le _) (ue _)]
theorem enc_dec (K c : List Int) (h : c.length = 16) (hu : U8 c) (n : Nat) (hn : n ≤ 9) : enc SB K (backL BK K c) n = dec BK K c (10 - n) := by
  have ld := dec_len BK K c h
  have ud := fun n => U8_dec (K := K) U8_BK hu n
  induction n with
  | zero => exact xor16_inv _ (ld _) (ud _)
  | succ n ih =>
    rw [enc_s, ih (by omega), show 10 - n = (9 - n) + 1 by omega, dec_s, show 9 - n = (10 - (n + 2)) + 1 by omega, decX_s, show 10 - (n + 1) = 10 - (n + 2) + 1 by omega, show 10 - (10 - (n + 2) + 1) = n + 1 by omega]
    have l1 : (xor16 (dec BK K c (10 - (n + 2) + 1)) (kwas K (n + 1))).length = 16 := (xor16_len _ _).trans (ld _)
    have u1 : U8 (xor16 (dec BK K c (10 - (n + 2) + 1)) (kwas K (n + 1))) := U8_xor16 (ud _)
    rw [sub_inv2 (by rw [mixI_len, mixI_len, mixI_len, l1]) (U8_mixI (U8_mixI (U8_mixI u1))), mix_inv l1 u1, xor16_inv _ (ld _) (ud _)]
theorem back_block (key b : List Int) (h : b.length = 16) (hu : U8 b) : backI key (blockI key b) = b := by
  show xor16 (dec BK (keysOf key) (blockL SB (keysOf key) b) 10) (kwas (keysOf key) 0) = b
  rw [dec_enc _ _ h hu 9 (by omega)]
  exact xor16_inv _ h hu
theorem block_back (key c : List Int) (h : c.length = 16) (hu : U8 c) : blockI key (backI key c) = c := by
  show blockL SB (keysOf key) (backL BK (keysOf key) c) = c
  rw [blockL_def, enc_dec _ _ h hu 9 (by omega), show 10 - 9 = 0 + 1 from rfl, dec_s, decX_0]
  have l1 : (xor16 (dec BK (keysOf key) c 0) (kwas (keysOf key) (10 - 0))).length = 16 := (xor16_len _ _).trans h
  have u1 : U8 (xor16 (dec BK (keysOf key) c 0) (kwas (keysOf key) (10 - 0))) := U8_xor16 hu
  rw [sub_inv2 l1 u1]
  exact xor16_inv _ h hu
theorem block_inj (key a b : List Int) (ha : a.length = 16) (ua : U8 a) (hb : b.length = 16) (ub : U8 b) : blockI key a = blockI key b ↔ a = b :=
  ⟨fun e => by rw [← back_block key a ha ua, e, back_block key b hb ub], fun e => by rw [e]⟩
/-! Streams -/
theorem streamN_len (key first B : List Int) (n : Nat) : (streamN key first B n).length = n := strN_len _ _ _ _ _
theorem stream_twice (key first B : List Int) (n : Nat) (hn : B.length = n) (hu : U8 B) : streamN key first (streamN key first B n) n = B :=
  list_get (streamN_len _ _ _ _) hn fun k hk => by
    rw [streamN_get _ _ _ _ _ hk, streamN_get _ _ _ _ _ hk]
    obtain ⟨x, hx⟩ := U8_e hu k
    rw [hx, xorK_back]
theorem take_getD (l : List Int) (m k : Nat) (h : k < m) : (l.take m).getD k 0 = l.getD k 0 := by
  simp [List.getD_eq_getElem?_getD, List.getElem?_take, h]
theorem drop_getD (l : List Int) (m k : Nat) : (l.drop m).getD k 0 = l.getD (m + k) 0 := by
  simp [List.getD_eq_getElem?_getD, List.getElem?_drop]
theorem stream_take (key first B : List Int) (m n : Nat) (hm : m ≤ n) : streamN key first (B.take m) m = (streamN key first B n).take m :=
  list_get (streamN_len _ _ _ _) (by rw [List.length_take, streamN_len]; omega) fun k hk => by
    rw [streamN_get _ _ _ _ _ hk, take_getD _ _ _ hk, take_getD _ _ _ hk, streamN_get _ _ _ _ _ (by omega)]
theorem ctr_next (first : List Int) (q : Nat) : ctr (inc16 first) q = ctr first (q + 1) := by
  induction q with
  | zero => rfl
  | succ q ih => rw [ctr, ih]; rfl
theorem stream_on (key first B : List Int) (n : Nat) (hn : 16 ≤ n) : streamN key (inc16 first) (B.drop 16) (n - 16) = (streamN key first B n).drop 16 :=
  list_get (streamN_len _ _ _ _) (by rw [List.length_drop, streamN_len]) fun k hk => by
    rw [streamN_get _ _ _ _ _ hk, drop_getD, drop_getD, streamN_get _ _ _ _ _ (by omega), pad, pad, ctr_next, show (16 + k) / 16 = k / 16 + 1 by omega, show (16 + k) % 16 = k % 16 by omega]
theorem stream_first (key first B : List Int) (n i : Nat) (hi : i < 16) (hn : 16 ≤ n) : (streamN key first B n).getD i 0 = xorK .u8 (B.getD i 0) ((blockI key first).getD i 0) := by
  rw [streamN_get _ _ _ _ _ (by omega), pad, show i / 16 = 0 by omega, show i % 16 = i by omega]; rfl
end Go.Proofs.X
end
