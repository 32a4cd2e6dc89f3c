/- What the document's answer of layer 9 computes, on lists; and that it is what the program's computes. -/
import Derived.Test.YtffflnpidipheaaAesP4
open Go Go.Ab Go.Proofs
namespace Go.Proofs.X
def timS (a b : Int) : Nat → Int × Int
  | 0 => (0, a)
  | i + 1 => (if andK .u8 (shrK .u8 b i) 1 = 1 then xorK .u8 (timS a b i).1 (timS a b i).2 else (timS a b i).1,
      if andK .u8 (timS a b i).2 128 ≠ 0 then xorK .u8 (shlK .u8 (timS a b i).2 1) 27 else shlK .u8 (timS a b i).2 1)
def timI (a b : Int) : Int := (timS a b 8).1
theorem timS_range (a b : Int) (i : Nat) : 0 ≤ (timS a b i).1 ∧ (timS a b i).1 < 256 := by
  induction i with
  | zero => simp [timS]
  | succ i ih =>
    simp only [timS]
    split
    · exact xorK_u8_range _ _
    · exact ih
theorem timI_range (a b : Int) : 0 ≤ timI a b ∧ timI a b < 256 := timS_range _ _ _
def turnI (y : Int) (n : Nat) : Int := orK .u8 (shlK .u8 y n) (shrK .u8 y (8 - n))
def fK (i : Nat) : Nat → Nat → Int
  | 0, _ => 0
  | f + 1, k => if timI i k = 1 then k else fK i f (k + 1)
def yI (i : Nat) : Int := if 0 < i then fK i 255 1 else 0
def boxV (y : Int) : Int := xorK .u8 (xorK .u8 (xorK .u8 (xorK .u8 (xorK .u8 y (turnI y 1)) (turnI y 2)) (turnI y 3)) (turnI y 4)) 99
def rbox : Nat → List Int
  | 0 => z 256
  | i + 1 => (rbox i).set i (boxV (yI i))
theorem rbox_len (i : Nat) : (rbox i).length = 256 := by
  induction i with
  | zero => exact z_len _
  | succ i ih => simp [rbox, ih]
/-! Nats -/
theorem wrap_n {n : Nat} (h : n < 256) : IntKind.u8.wrap (n : Int) = (n : Int) := wrap_u8 (by omega) (by omega)
theorem xorK_n {m n : Nat} (hm : m < 256) (hn : n < 256) : xorK .u8 (m : Int) (n : Int) = ((m ^^^ n : Nat) : Int) := by
  have := xor_e (BitVec.ofNat 8 m) (BitVec.ofNat 8 n)
  simpa [e8, Nat.mod_eq_of_lt hm, Nat.mod_eq_of_lt hn] using this
theorem xor_lt {m n : Nat} (hm : m < 256) (hn : n < 256) : m ^^^ n < 256 := Nat.xor_lt_two_pow (n := 8) hm hn
def twN (a : Nat) : Nat := bif Nat.ble 128 a then (a * 2 % 256) ^^^ 27 else a * 2 % 256
theorem twN_ok : ∀ a, a < 256 → twN a < 256 ∧ (if andK .u8 (a : Nat) 128 ≠ 0 then xorK .u8 (shlK .u8 (a : Nat) 1) 27 else shlK .u8 (a : Nat) 1) = ((twN a : Nat) : Int) := by decide +kernel
theorem bit_ok : ∀ i, i < 8 → ∀ b, b < 256 → (andK .u8 (shrK .u8 (b : Nat) (i : Nat)) 1 = 1 ↔ (b >>> i) % 2 = 1) := by decide +kernel
def tG : Nat → Nat → Nat → Nat → Nat
  | 0, o, _, _ => o
  | f + 1, o, a, b => tG f (bif Nat.beq (b % 2) 1 then o ^^^ a else o) (twN a) (b >>> 1)
theorem timS_tG (a b : Nat) (ha : a < 256) (hb : b < 256) (i : Nat) (hi : i ≤ 8) : ∃ o c : Nat, o < 256 ∧ c < 256 ∧ timS a b i = ((o : Int), (c : Int)) ∧ tG (8 - i) o c (b >>> i) = tG 8 0 a b := by
  induction i with
  | zero => exact ⟨0, a, by omega, ha, rfl, rfl⟩
  | succ i ih =>
    obtain ⟨o, c, ho, hc, e1, e2⟩ := ih (by omega)
    obtain ⟨h1, h2⟩ := twN_ok c hc
    refine ⟨bif Nat.beq ((b >>> i) % 2) 1 then o ^^^ c else o, twN c, ?_, h1, ?_, ?_⟩
    · cases Nat.beq ((b >>> i) % 2) 1
      · exact ho
      · exact xor_lt ho hc
    · rw [timS, e1]
      congr 1
      by_cases h : (b >>> i) % 2 = 1
      · rw [if_pos ((bit_ok i (by omega) b hb).2 h), h]
        exact xorK_n ho hc
      · rw [if_neg fun x => h ((bit_ok i (by omega) b hb).1 x)]
        have : Nat.beq ((b >>> i) % 2) 1 = false := by
          cases hq : Nat.beq ((b >>> i) % 2) 1 with
          | false => rfl
          | true => exact absurd (Nat.eq_of_beq_eq_true hq) h
        rw [this]; rfl
    · rw [← e2, show 8 - i = (8 - (i + 1)) + 1 by omega, tG, Nat.shiftRight_succ, Nat.shiftRight_eq_div_pow _ 1]
theorem timI_tG {a b : Nat} (ha : a < 256) (hb : b < 256) : timI (a : Nat) (b : Nat) = (tG 8 0 a b : Nat) := by
  obtain ⟨o, c, _, _, e1, e2⟩ := timS_tG a b ha hb 8 (by omega)
  rw [timI, e1, ← e2]; rfl
def fN (i : Nat) : Nat → Nat → Nat
  | 0, _ => 0
  | f + 1, k => bif Nat.beq (tG 8 0 i k) 1 then k else fN i f (k + 1)
theorem fK_fN (i : Nat) (hi : i < 256) (f k : Nat) (h : k + f ≤ 256) : fK i f k = (fN i f k : Nat) := by
  induction f generalizing k with
  | zero => rfl
  | succ f ih =>
    rw [fK, fN, timI_tG hi (by omega), ih (k + 1) (by omega)]
    by_cases h1 : tG 8 0 i k = 1
    · rw [h1]; rfl
    · have : Nat.beq (tG 8 0 i k) 1 = false := by
        cases hq : Nat.beq (tG 8 0 i k) 1 with
        | false => rfl
        | true => exact absurd (Nat.eq_of_beq_eq_true hq) h1
      rw [if_neg (by omega), this]; rfl
def INV : List Nat := [0, 1, 141, 246, 203, 82, 123, 209, 232, 79, 41, 192, 176, 225, 229, 199, 116, 180, 170, 75, 153, 43, 96, 95, 88, 63, 253, 204, 255, 64, 238, 178, 58, 110, 90, 241, 85, 77, 168, 201, 193, 10, 152, 21, 48, 68, 162, 194, 44, 69, 146, 108, 243, 57, 102, 66, 242, 53, 32, 111, 119, 187, 89, 25, 29, 254, 55, 103, 45, 49, 245, 105, 167, 100, 171, 19, 84, 37, 233, 9, 237, 92, 5, 202, 76, 36, 135, 191, 24, 62, 34, 240, 81, 236, 97, 23, 22, 94, 175, 211, 73, 166, 54, 67, 244, 71, 145, 223, 51, 147, 33, 59, 121, 183, 151, 133, 16, 181, 186, 60, 182, 112, 208, 6, 161, 250, 129, 130, 131, 126, 127, 128, 150, 115, 190, 86, 155, 158, 149, 217, 247, 2, 185, 164, 222, 106, 50, 109, 216, 138, 132, 114, 42, 20, 159, 136, 249, 220, 137, 154, 251, 124, 46, 195, 143, 184, 101, 72, 38, 200, 18, 74, 206, 231, 210, 98, 12, 224, 31, 239, 17, 117, 120, 113, 165, 142, 118, 61, 189, 188, 134, 87, 11, 40, 47, 163, 218, 212, 228, 15, 169, 39, 83, 4, 27, 252, 172, 230, 122, 7, 174, 99, 197, 219, 226, 234, 148, 139, 196, 213, 157, 248, 144, 107, 177, 13, 214, 235, 198, 14, 207, 173, 8, 78, 215, 227, 93, 80, 30, 179, 91, 35, 56, 52, 104, 70, 3, 140, 221, 156, 125, 160, 205, 26, 65, 28]
theorem inv_ok : ∀ i, i < 256 → fN i 255 1 = INV.getD i 0 := by decide +kernel
theorem box_ok : ∀ i, i < 256 → boxV (if 0 < i then ((INV.getD i 0 : Nat) : Int) else 0) = SB.getD i 0 := by decide +kernel
theorem z_get (n i : Nat) : (z n).getD i 0 = 0 := by
  simp only [z, List.getD_eq_getElem?_getD, List.getElem?_replicate]
  split <;> rfl
theorem rbox_get (n i : Nat) (hi : i < 256) (hn : n ≤ 256) : (rbox n).getD i 0 = if i < n then boxV (yI i) else 0 := by
  induction n with
  | zero => rw [if_neg (by omega)]; exact z_get _ _
  | succ n ih =>
    rw [rbox, getD_set, rbox_len, ih (by omega)]
    by_cases h : n = i
    · subst h; rw [if_pos ⟨rfl, hi⟩, if_pos (by omega)]
    · rw [if_neg (fun x => h x.1)]
      by_cases h2 : i < n
      · rw [if_pos h2, if_pos (by omega)]
      · rw [if_neg h2, if_neg (by omega)]
set_option maxRecDepth 100000 in
theorem rbox_eq : rbox 256 = SB := list_get (rbox_len _) rfl fun i hi => by
  rw [rbox_get _ _ hi (by omega), if_pos hi, yI, fK_fN i hi 255 1 (by omega), inv_ok i hi]
  exact box_ok i hi
def rback : Nat → List Int
  | 0 => z 256
  | i + 1 => (rback i).set (SB.getD i 0).toNat i
theorem rback_len (i : Nat) : (rback i).length = 256 := by
  induction i with
  | zero => exact z_len _
  | succ i ih => simp [rback, ih]
set_option maxRecDepth 100000 in
theorem rback_eq : rback 256 = BK := by decide +kernel
theorem tim_e (m : Nat) (hm : m < 256) (f : BitVec 8 → BitVec 8) (h : ∀ n, n < 256 → timI (n : Nat) (m : Nat) = e8 (f (BitVec.ofNat 8 n))) (x : BitVec 8) : timI (e8 x) (m : Nat) = e8 (f x) := by
  have := h x.toNat x.isLt
  rwa [BitVec.ofNat_toNat, BitVec.setWidth_eq] at this
theorem tim2 (x : BitVec 8) : timI (e8 x) 2 = e8 (tw x) := tim_e 2 (by omega) tw (by decide +kernel) x
theorem tim3 (x : BitVec 8) : timI (e8 x) 3 = e8 (tw x ^^^ x) := tim_e 3 (by omega) (fun x => tw x ^^^ x) (by decide +kernel) x
theorem tim14 (x : BitVec 8) : timI (e8 x) 14 = e8 (tw (tw (tw x)) ^^^ (tw (tw x) ^^^ tw x)) := tim_e 14 (by omega) (fun x => tw (tw (tw x)) ^^^ (tw (tw x) ^^^ tw x)) (by decide +kernel) x
theorem tim11 (x : BitVec 8) : timI (e8 x) 11 = e8 (tw (tw (tw x)) ^^^ (tw x ^^^ x)) := tim_e 11 (by omega) (fun x => tw (tw (tw x)) ^^^ (tw x ^^^ x)) (by decide +kernel) x
theorem tim13 (x : BitVec 8) : timI (e8 x) 13 = e8 (tw (tw (tw x)) ^^^ (tw (tw x) ^^^ x)) := tim_e 13 (by omega) (fun x => tw (tw (tw x)) ^^^ (tw (tw x) ^^^ x)) (by decide +kernel) x
theorem tim9 (x : BitVec 8) : timI (e8 x) 9 = e8 (tw (tw (tw x)) ^^^ x) := tim_e 9 (by omega) (fun x => tw (tw (tw x)) ^^^ x) (by decide +kernel) x
end Go.Proofs.X
