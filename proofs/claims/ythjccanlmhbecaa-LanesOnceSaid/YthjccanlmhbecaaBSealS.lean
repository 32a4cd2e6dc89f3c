/- What seals compute, on lists. No program. -/
import Derived.Test.YthjccanlmhbecaaBMacS
import Derived.Test.YthjccanlmhbecaaBAesS
import Derived.Test.YthjccanlmhbecaaBByteS
set_option linter.unusedVariables false
set_option linter.unusedSimpArgs false
open Go Go.Bx
namespace Go.Proofs.X
def mo (A B : List Int) : Nat → Int
  | 0 => 0
  | i + 1 => orK .u8 (mo A B i) (xorK .u8 (A.getD i 0) (B.getD i 0))
/-- A stream's first block: what stands behind the first byte. -/
def fiB (B : List Int) : List Int := spl (z 16) (((B.drop 1).take 12).take 12) 0 12 16
/-- The sum by a key of bytes. -/
def hmB (K X : List Int) : List Int := hmO K (tk (hmI K) X) (64 + X.length)
theorem hmB_len (K X : List Int) : (hmB K X).length = 32 := hmO_len _ _ _
theorem xorK_self (x : Int) : xorK .u8 x x = 0 := by
  show IntKind.u8.wrap ((BitVec.ofInt 8 x ^^^ BitVec.ofInt 8 x).toNat : Int) = 0
  rw [BitVec.xor_self]; rfl
theorem mo_self (A : List Int) (n : Nat) : mo A A n = 0 := by
  induction n with
  | zero => rfl
  | succ n ih => rw [mo, ih, xorK_self]; rfl
theorem fiB_len (B : List Int) : (fiB B).length = 16 := Bx.spl_len _ _ _ _ _
/-- Kind, lane, number. -/
def ahB (l n : Nat) : List Int := [9] ++ be 4 l ++ be 8 n
theorem ahB_len (l n : Nat) : (ahB l n).length = 13 := by simp [ahB, be_len]
theorem U8_be (n v : Nat) : U8 (be n v) := U8'_be n v
theorem U8_app {A B : List Int} (ha : U8 A) (hb : U8 B) : U8 (A ++ B) := U8'_app ha hb
theorem U8_take {A : List Int} (ha : U8 A) (n : Nat) : U8 (A.take n) := U8'_take ha n
theorem U8_drop {A : List Int} (ha : U8 A) (n : Nat) : U8 (A.drop n) := U8'_drop ha n
theorem U8_9 : U8 [9] := fun i => by match i with | 0 => exact ⟨by decide, by decide⟩ | i + 1 => simp
theorem U8_ahB (l n : Nat) : U8 (ahB l n) := U8_app (U8_app U8_9 (U8_be _ _)) (U8_be _ _)
theorem U8_fiB {B : List Int} (h : U8 B) : U8 (fiB B) := U8_spl (U8_z 16) (U8_take (U8_take (U8_drop h 1) 12) 12) 0 12 16
def seal1 (C : List Int) (l n : Nat) (B : List Int) : List Int := ahB l n ++ streamI C (fiB (ahB l n)) B
theorem streamI_len (key first B : List Int) : (streamI key first B).length = B.length := strN_len _ _ _ _ _
theorem seal1_len (C : List Int) (l n : Nat) (B : List Int) : (seal1 C l n B).length = 13 + B.length := by rw [seal1, List.length_append, ahB_len, streamI_len]
/-- Bytes, sealed. -/
def sealB (M C : List Int) (l n : Nat) (B : List Int) : List Int := seal1 C l n B ++ (hmB M (seal1 C l n B)).take 16
theorem sealB_len (M C : List Int) (l n : Nat) (B : List Int) : (sealB M C l n B).length = 29 + B.length := by rw [sealB, List.length_append, seal1_len, List.length_take, hmB_len]; omega
theorem ahB_def (l n : Nat) : [9] ++ be 4 l ++ be 8 n = ahB l n := rfl
theorem sealB_def (M C : List Int) (l n : Nat) (B : List Int) : sealB M C l n B = seal1 C l n B ++ (hmB M (seal1 C l n B)).take 16 := rfl
theorem so1_eq (l n : Nat) (B : List Int) : spl (List.replicate (29 + B.length) 0) ((ahB l n).take 13) 0 13 (29 + B.length) = ahB l n ++ List.replicate (16 + B.length) 0 := by
  have h := spl_app [] ((ahB l n).take 13) (List.replicate (29 + B.length) 0) 0 13 (29 + B.length) rfl (by rw [List.length_take, ahB_len]; rfl) (by omega) (by simp)
  rw [List.nil_append] at h
  rw [h, List.nil_append, List.take_of_length_le (by rw [ahB_len]; omega), List.drop_replicate]
  congr 2; omega
theorem so2_eq (C : List Int) (l n : Nat) (B : List Int) : spl (ahB l n ++ List.replicate (16 + B.length) 0) ((streamI C (fiB (ahB l n)) B).take B.length) 13 B.length (29 + B.length) = seal1 C l n B ++ List.replicate 16 0 := by
  rw [spl_app _ _ _ 13 B.length (29 + B.length) (ahB_len _ _) (by rw [List.length_take, streamI_len]; omega) (by omega) (by simp [ahB_len]; omega), List.take_of_length_le (by rw [streamI_len]; omega), List.drop_replicate]
  rw [seal1]
  congr 2; omega
theorem so3_eq (C : List Int) (l n : Nat) (B X : List Int) (hX : X.length = 32) : spl (seal1 C l n B ++ List.replicate 16 0) (X.take 16) (13 + B.length) 16 (29 + B.length) = seal1 C l n B ++ X.take 16 := by
  rw [spl_app _ _ _ (13 + B.length) 16 (29 + B.length) (seal1_len _ _ _ _) (by simp [hX]) (by omega) (by simp [seal1_len]; omega)]
  simp
/-- Of which lane; with which number; what is sealed. -/
def laneB (B : List Int) : Nat := gN (B.drop 1) 4
def numB (B : List Int) : Nat := gN (B.drop 5) 8
def bodyB (B : List Int) : List Int := (B.drop 13).take (B.length - 16 - 13)
theorem mac_form (M B : List Int) (hmac : (hmB M (B.take (B.length - 16))).take 16 = B.drop (B.length - 16)) : (hmB M ((B.drop 0).take (B.length - 16))).take 16 = (B.drop (B.length - 16)).take (B.length - (B.length - 16)) := by
  rw [List.drop_zero, hmac, List.take_of_length_le (by simp)]
theorem laneB_lt {B : List Int} (h : U8' B) : laneB B < 4294967296 := gN_lt (U8'_drop h 1) 4
theorem numB_lt {B : List Int} (h : U8' B) : numB B < 18446744073709551616 := gN_lt (U8'_drop h 5) 8
theorem lane_form {B : List Int} (h : U8' B) (h29 : 29 ≤ B.length) : IntKind.u32.wrap (getI ((B.drop 1).take (B.length - 1)) 4) = ((laneB B : Nat) : Int) := by
  rw [List.take_of_length_le (by simp), getI_n (U8'_drop h 1) 4 (by omega) (by simp; omega)]
  have := laneB_lt h
  show IntKind.u32.wrap ((laneB B : Nat) : Int) = _
  unfold IntKind.wrap; simp [IntKind.bits, IntKind.signed]; omega
theorem so_take (C : List Int) (l n : Nat) (B : List Int) : ((seal1 C l n B ++ List.replicate 16 0).drop 0).take (13 + B.length) = seal1 C l n B := by
  rw [List.drop_zero, ← seal1_len C l n B, List.take_left]
end Go.Proofs.X
