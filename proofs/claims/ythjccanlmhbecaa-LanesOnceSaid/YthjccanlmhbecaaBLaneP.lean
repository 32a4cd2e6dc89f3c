/- What is sealed can be opened, and is what it was. No program. -/
import Derived.Test.YthjccanlmhbecaaBLaneS
set_option linter.unusedVariables false
set_option linter.unusedSimpArgs false
open Go Go.Bx
namespace Go.Proofs.X
theorem wrap_u8' {x : Int} (h0 : 0 ≤ x) (h1 : x < 256) : IntKind.u8.wrap x = x := by
  unfold IntKind.wrap; simp [IntKind.bits, IntKind.signed]; omega
theorem ofInt_wrap8 (x : BitVec 8) : BitVec.ofInt 8 (IntKind.u8.wrap (x.toNat : Int)) = x := by
  have h : IntKind.u8.wrap (x.toNat : Int) = (x.toNat : Int) := by
    have := x.isLt
    exact wrap_u8' (by omega) (by omega)
  rw [h]
  simp
theorem xorK_back' {a : Int} (h0 : 0 ≤ a) (h1 : a < 256) (p : Int) : xorK .u8 (xorK .u8 a p) p = a := by
  have e : ∀ m n : Int, xorK .u8 m n = IntKind.u8.wrap ((BitVec.ofInt 8 m ^^^ BitVec.ofInt 8 n).toNat : Int) := fun _ _ => rfl
  rw [e (xorK .u8 a p) p, e a p, ofInt_wrap8, BitVec.xor_assoc, BitVec.xor_self, BitVec.xor_zero]
  have : ((BitVec.ofInt 8 a).toNat : Int) = a := by
    rw [BitVec.toNat_ofInt]; omega
  rw [this]
  exact wrap_u8' h0 h1
theorem str1_get (B s out : List Int) (at_ r k : Nat) (hk : k < out.length) : (str1 B s out at_ r).getD k 0 = if at_ ≤ k ∧ k < at_ + r then xorK .u8 (B.getD k 0) (s.getD (k - at_) 0) else out.getD k 0 := by
  induction r with
  | zero => rw [if_neg (by omega)]; rfl
  | succ r ih =>
    simp only [str1, List.getD_eq_getElem?_getD, List.getElem?_set] at ih ⊢
    by_cases h : at_ + r = k
    · subst h
      rw [if_pos rfl, if_pos (by rw [str1_len]; exact hk), if_pos (by omega)]
      simp
    · rw [if_neg h, ih]
      by_cases h2 : at_ ≤ k ∧ k < at_ + r
      · rw [if_pos h2, if_pos (by omega)]
      · rw [if_neg h2, if_neg (by omega)]
def pad (key first : List Int) (k : Nat) : Int := (blockI key (ctr first (k / 16))).getD (k % 16) 0
theorem strN_get (key first B : List Int) (n q k : Nat) (hn : k < n) (hq : k < 16 * q) : (strN key first B n q).getD k 0 = xorK .u8 (B.getD k 0) (pad key first k) := by
  induction q with
  | zero => omega
  | succ q ih =>
    rw [strN, str1_get _ _ _ _ _ _ (by rw [strN_len]; exact hn)]
    by_cases h : 16 * q ≤ k
    · rw [if_pos (by omega), pad, show k / 16 = q by omega, show k % 16 = k - 16 * q by omega]
    · rw [if_neg (by omega)]; exact ih (by omega)
theorem streamI_get (key first B : List Int) (k : Nat) (hn : k < B.length) : (streamI key first B).getD k 0 = xorK .u8 (B.getD k 0) (pad key first k) := strN_get _ _ _ _ _ _ hn (by omega)
theorem stream_twice (key first B : List Int) (hu : U8' B) : streamI key first (streamI key first B) = B := by
  refine eqI_n B.length (by rw [streamI_len, streamI_len]) rfl fun k hk => ?_
  rw [streamI_get _ _ _ _ (by rw [streamI_len]; exact hk), streamI_get _ _ _ _ hk, xorK_back' (hu k).1 (hu k).2]
theorem U8'_get {l : List Int} (h : ∀ k, k < l.length → 0 ≤ l.getD k 0 ∧ l.getD k 0 < 256) : U8' l := fun k => by
  by_cases hk : k < l.length
  · exact h k hk
  · rw [List.getD_eq_getElem?_getD, List.getElem?_eq_none (by omega)]; simp
theorem U8'_stream (key first B : List Int) : U8' (streamI key first B) := U8'_get fun k hk => by
  rw [streamI_get _ _ _ _ (by rw [streamI_len] at hk; exact hk)]; exact xorK_u8_range _ _
theorem U8'_9 : U8' [9] := U8_9
theorem wrap64_nat (x : Int) : ∃ n : Nat, n < 18446744073709551616 ∧ IntKind.u64.wrap x = (n : Int) := by
  refine ⟨(IntKind.u64.wrap x).toNat, ?_, ?_⟩
  · unfold IntKind.wrap; simp [IntKind.bits, IntKind.signed]; omega
  · unfold IntKind.wrap; simp [IntKind.bits, IntKind.signed]; omega
theorem U8'_ob (s : List Int) (i : Nat) : U8' (ob s i) := by
  induction i with
  | zero => exact fun k => by simp [ob]
  | succ i ih =>
    obtain ⟨n, hn, he⟩ := wrap64_nat (s.getD i 0)
    have hl := ob_len s i
    have e : ob s (i + 1) = ob s i ++ be 4 n := by
      rw [← rowL_1 (ob s i) 4 n (by omega) hn, ← he]
      rw [hl]
      rfl
    rw [e]
    exact U8'_app ih (U8'_be _ _)
theorem U8'_sum (q : Run) (tot : Nat) : U8' (sumL q tot) := by
  have h : sumL q tot = (ob (sumQ q tot).s 8).take 32 := by
    have := spl_app [] ((ob (sumQ q tot).s 8).take 32) (z 32) 0 32 32 rfl (by rw [List.length_take, ob_len]; rfl) (by omega) (by rfl)
    rw [List.nil_append] at this
    refine Eq.trans ?_ (this.trans (by simp [z]))
    rfl
  rw [h]
  exact U8'_take (U8'_ob _ _) _
theorem U8'_hmB (K X : List Int) : U8' (hmB K X) := U8'_sum _ _
theorem U8'_seal (M C : List Int) (l n : Nat) (B : List Int) : U8' (sealB M C l n B) := U8'_app (U8'_app (U8_ahB _ _) (U8'_stream _ _ _)) (U8'_take (U8'_hmB _ _) _)
theorem seal_form (M C : List Int) (l n : Nat) (B : List Int) : sealB M C l n B = [9] ++ (be 4 l ++ (be 8 n ++ (streamI C (fiB (ahB l n)) B ++ (hmB M (seal1 C l n B)).take 16))) := by
  rw [sealB_def, seal1, ahB]; simp only [List.append_assoc]
theorem opens_seal (M C : List Int) (l n : Nat) (B : List Int) (hB : B.length ≤ 2019) : Opens M C (sealB M C l n B) := by
  refine ⟨U8'_seal _ _ _ _ _, by rw [sealB_len]; omega, by rw [sealB_len]; omega, ?_, ?_⟩
  · rw [seal_form]; rfl
  · have hl : (sealB M C l n B).length - 16 = (seal1 C l n B).length := by rw [sealB_len, seal1_len]; omega
    rw [hl, sealB_def, List.take_left, List.drop_left]
theorem lane_seal (M C : List Int) (l n : Nat) (B : List Int) (hl : l < 4294967296) : laneB (sealB M C l n B) = l := by
  unfold laneB
  rw [seal_form]
  exact gN_be 4 l _ hl
theorem drop_be (k v m : Nat) (R : List Int) (h : k = m) : (be k v ++ R).drop m = R := by
  subst h
  have := List.drop_left (l₁ := be k v) (l₂ := R)
  rwa [be_len] at this
theorem num_seal (M C : List Int) (l n : Nat) (B : List Int) (hn : n < 18446744073709551616) : numB (sealB M C l n B) = n := by
  unfold numB
  rw [seal_form, show (5 : Nat) = 1 + 4 from rfl, ← List.drop_drop]
  show gN ((be 4 l ++ _).drop 4) 8 = n
  rw [drop_be 4 l 4 _ rfl]
  exact gN_be 8 n _ hn
theorem body_seal (M C : List Int) (l n : Nat) (B : List Int) : bodyB (sealB M C l n B) = streamI C (fiB (ahB l n)) B := by
  unfold bodyB
  rw [sealB_len, show 29 + B.length - 16 - 13 = B.length by omega, seal_form, show (13 : Nat) = 1 + (4 + 8) from rfl, ← List.drop_drop, ← List.drop_drop]
  show (((be 4 l ++ _).drop 4).drop 8).take B.length = _
  rw [drop_be 4 l 4 _ rfl, drop_be 8 n 8 _ rfl]
  have := List.take_left (l₁ := streamI C (fiB (ahB l n)) B) (l₂ := (hmB M (seal1 C l n B)).take 16)
  rwa [streamI_len] at this
theorem fi_seal (M C : List Int) (l n : Nat) (B : List Int) : fiB (sealB M C l n B) = fiB (ahB l n) := by
  unfold fiB
  rw [sealB_def, seal1, List.append_assoc, List.drop_append_of_le_length (by rw [ahB_len]; omega), List.take_append_of_le_length (by rw [List.length_drop, ahB_len]; omega)]
theorem open_seal (M C : List Int) (l n : Nat) (B : List Int) (hU : U8' B) : streamI C (fiB (sealB M C l n B)) (bodyB (sealB M C l n B)) = B := by
  rw [fi_seal, body_seal, stream_twice _ _ _ hU]
end Go.Proofs.X
