/- A part of the proofs of this claim: BMacS, BMacT, BAesS, BAesT, BRefS, Bx23, Bx24, Bx25, Bx26, Bx27, Bx28, Bx29, Bx30, Bx31, Bx32, Bx33, Bx34, Bx35, Bx36, Bx37, Bx38, Bx39, Bx40, Bx41, Bx42, Bx43, Bx44, Bx45, Bx46, Bx47, BRefT. No conditions. -/
import Derived.Test.YtokgpammicpahaaGreatDoorK3
import Derived.OpenShut
import Derived.ChangeSlices
import Derived.Below
import Derived.ChangeSame
import Derived.SizedLaws
import Derived.Lib.AppendZerosOnto
import Derived.Lib.LazyBuf
import Derived.Lib.Overlaps
import Derived.ScopeJumps
import Derived.DefersIn
set_option linter.unusedVariables false
set_option linter.unusedSimpArgs false
section
/- What sums, and sums by a key, are, on lists. No program. -/
open Go Go.Bx
namespace Go.Proofs.X
def ob (s : List Int) : Nat → List Int
  | 0 => []
  | i + 1 => rowL (4 * i + 4) (ob s i) (4 * i) 4 1 [IntKind.u64.wrap (s.getD i 0)]
theorem ob_len (s : List Int) (i : Nat) : (ob s i).length = 4 * i := by
  cases i with
  | zero => rfl
  | succ i => exact rowL_len _ _ _ _ _ _
def sumQ (q : Run) (tot : Nat) : Run := tk (tk (tk q [128]) (List.replicate ((119 - q.m) % 64) 0)) (rr 8 8 1 [IntKind.u64.wrap (8 * ((tot : Nat) : Int))] 1)
def sumL (q : Run) (tot : Nat) : List Int := spl (z 32) ((ob (sumQ q tot).s 8).take 32) 0 32 32
theorem sumL_len (q : Run) (tot : Nat) : (sumL q tot).length = 32 := spl_len _ _ _ _ _
def xk (k : List Int) (v : Int) : Nat → List Int
  | 0 => k
  | i + 1 => (xk k v i).set i (xorK .u8 ((xk k v i).getD i 0) v)
theorem xk_len (k : List Int) (v : Int) (i : Nat) : (xk k v i).length = k.length := by
  induction i with
  | zero => rfl
  | succ i ih => simp [xk, ih]
def k64 (K : List Int) : List Int := spl (z 64) (K.take K.length) 0 K.length 64
theorem k64_len (K : List Int) : (k64 K).length = 64 := spl_len _ _ _ _ _
def hmI (K : List Int) : Run := tk run0 (xk (k64 K) 54 64)
def hmO (K : List Int) (q : Run) (tot : Nat) : List Int := sumL (tk (tk run0 (xk (k64 K) 92 64)) (sumL q tot)) 96
theorem hmI_ok (K : List Int) : RunOk (hmI K) := tk_ok run0_ok _
end Go.Proofs.X
end

section
/- Types and functions of sums by a key, as instances. -/
open Go Go.Bx Go.Proofs
namespace Go.Proofs.X
instance : Clb Tryz.prog 93 := ⟨_, Tryz.func93, by kernel_rfl, rfl⟩
instance : Clb Tryz.prog 151 := ⟨_, Tryz.func151, by kernel_rfl, rfl⟩
instance : Clb Tryz.prog 102 := ⟨_, Tryz.func102, by kernel_rfl, rfl⟩
end Go.Proofs.X
end

section
/- What the ciphers compute, on lists. No program. -/
open Go Go.Bx
namespace Go.Proofs.X
def twiceI (x : Int) : Int := if shrK .u8 x 7 = 1 then xorK .u8 (shlK .u8 x 1) 27 else shlK .u8 x 1
def xorTo (a b : List Int) : Nat → List Int
  | 0 => a
  | k + 1 => (xorTo a b k).set k (xorK .u8 ((xorTo a b k).getD k 0) (b.getD k 0))
def p1 : Nat → Int × List Int × List Int
  | 0 => (1, z 256, z 256)
  | k + 1 => (xorK .u8 (p1 k).1 (twiceI (p1 k).1), (p1 k).2.1.set k (p1 k).1, (p1 k).2.2.set (p1 k).1.toNat k)
def boxY (P L : List Int) (k : Nat) : Int := if 0 < k then P.getD ((255 - L.getD k 0) % 255).toNat 0 else 0
def boxO (y : Int) : Nat → Int
  | 0 => 99
  | n + 1 => xorK .u8 (boxO y n) (orK .u8 (shlK .u8 y n) (shrK .u8 y (8 - n)))
def p2 (P L : List Int) : Nat → List Int × List Int
  | 0 => (z 256, z 256)
  | k + 1 => ((p2 P L k).1.set k (boxO (boxY P L k) 5), (p2 P L k).2.set (boxO (boxY P L k) 5).toNat k)
def SB : List Int := [99, 124, 119, 123, 242, 107, 111, 197, 48, 1, 103, 43, 254, 215, 171, 118, 202, 130, 201, 125, 250, 89, 71, 240, 173, 212, 162, 175, 156, 164, 114, 192, 183, 253, 147, 38, 54, 63, 247, 204, 52, 165, 229, 241, 113, 216, 49, 21, 4, 199, 35, 195, 24, 150, 5, 154, 7, 18, 128, 226, 235, 39, 178, 117, 9, 131, 44, 26, 27, 110, 90, 160, 82, 59, 214, 179, 41, 227, 47, 132, 83, 209, 0, 237, 32, 252, 177, 91, 106, 203, 190, 57, 74, 76, 88, 207, 208, 239, 170, 251, 67, 77, 51, 133, 69, 249, 2, 127, 80, 60, 159, 168, 81, 163, 64, 143, 146, 157, 56, 245, 188, 182, 218, 33, 16, 255, 243, 210, 205, 12, 19, 236, 95, 151, 68, 23, 196, 167, 126, 61, 100, 93, 25, 115, 96, 129, 79, 220, 34, 42, 144, 136, 70, 238, 184, 20, 222, 94, 11, 219, 224, 50, 58, 10, 73, 6, 36, 92, 194, 211, 172, 98, 145, 149, 228, 121, 231, 200, 55, 109, 141, 213, 78, 169, 108, 86, 244, 234, 101, 122, 174, 8, 186, 120, 37, 46, 28, 166, 180, 198, 232, 221, 116, 31, 75, 189, 139, 138, 112, 62, 181, 102, 72, 3, 246, 14, 97, 53, 87, 185, 134, 193, 29, 158, 225, 248, 152, 17, 105, 217, 142, 148, 155, 30, 135, 233, 206, 85, 40, 223, 140, 161, 137, 13, 191, 230, 66, 104, 65, 153, 45, 15, 176, 84, 187, 22]
def BK : List Int := [82, 9, 106, 213, 48, 54, 165, 56, 191, 64, 163, 158, 129, 243, 215, 251, 124, 227, 57, 130, 155, 47, 255, 135, 52, 142, 67, 68, 196, 222, 233, 203, 84, 123, 148, 50, 166, 194, 35, 61, 238, 76, 149, 11, 66, 250, 195, 78, 8, 46, 161, 102, 40, 217, 36, 178, 118, 91, 162, 73, 109, 139, 209, 37, 114, 248, 246, 100, 134, 104, 152, 22, 212, 164, 92, 204, 93, 101, 182, 146, 108, 112, 72, 80, 253, 237, 185, 218, 94, 21, 70, 87, 167, 141, 157, 132, 144, 216, 171, 0, 140, 188, 211, 10, 247, 228, 88, 5, 184, 179, 69, 6, 208, 44, 30, 143, 202, 63, 15, 2, 193, 175, 189, 3, 1, 19, 138, 107, 58, 145, 17, 65, 79, 103, 220, 234, 151, 242, 207, 206, 240, 180, 230, 115, 150, 172, 116, 34, 231, 173, 53, 133, 226, 249, 55, 232, 28, 117, 223, 110, 71, 241, 26, 113, 29, 41, 197, 137, 111, 183, 98, 14, 170, 24, 190, 27, 252, 86, 62, 75, 198, 210, 121, 32, 154, 219, 192, 254, 120, 205, 90, 244, 31, 221, 168, 51, 136, 7, 199, 49, 177, 18, 16, 89, 39, 128, 236, 95, 96, 81, 127, 169, 25, 181, 74, 13, 45, 229, 122, 159, 147, 201, 156, 239, 160, 224, 59, 77, 174, 42, 245, 176, 200, 235, 187, 60, 131, 83, 153, 97, 23, 43, 4, 126, 186, 119, 214, 38, 225, 105, 20, 99, 85, 33, 12, 125]
def logsOk (L : List Int) : Bool := (List.range 256).all fun k => decide (0 ≤ L.getD k 0 ∧ L.getD k 0 ≤ 255)
def kw (was wd : List Int) (K : List Int) (n : Nat) : Nat → List Int × List Int
  | 0 => (wd, K)
  | i + 1 => ((kw was wd K n i).1.set (i % 4) (xorK .u8 ((kw was wd K n i).1.getD (i % 4) 0) (was.getD i 0)),
      (kw was wd K n i).2.set (n * 16 + i) (((kw was wd K n i).1.set (i % 4) (xorK .u8 ((kw was wd K n i).1.getD (i % 4) 0) (was.getD i 0))).getD (i % 4) 0))
def kwas (K : List Int) (n : Nat) : List Int := (K.drop (n * 16)).take 16
def word (S K : List Int) (n : Nat) (by_ : Int) : List Int :=
  [xorK .u8 (S.getD ((kwas K n).getD 13 0).toNat 0) by_, S.getD ((kwas K n).getD 14 0).toNat 0, S.getD ((kwas K n).getD 15 0).toNat 0, S.getD ((kwas K n).getD 12 0).toNat 0]
def ks (S key : List Int) : Nat → Int × List Int
  | 0 => (1, spl (z 176) key 0 16 176)
  | n + 1 => (twiceI (ks S key n).1, (kw (kwas (ks S key n).2 n) (word S (ks S key n).2 n (ks S key n).1) (ks S key n).2 (n + 1) 16).2)
def U8 (l : List Int) : Prop := ∀ i, 0 ≤ l.getD i 0 ∧ l.getD i 0 < 256
def mixR (b : List Int) (k : Nat) (all first : Int) : Nat → List Int
  | 0 => b
  | i + 1 => (mixR b k all first i).set (k + i) (xorK .u8 ((mixR b k all first i).getD (k + i) 0) (xorK .u8 all (twiceI (xorK .u8 ((mixR b k all first i).getD (k + i) 0) (if i < 3 then (mixR b k all first i).getD (k + i + 1) 0 else first)))))
def mixC (b : List Int) (k : Nat) : List Int :=
  mixR b k (xorK .u8 (xorK .u8 (xorK .u8 (b.getD k 0) (b.getD (k + 1) 0)) (b.getD (k + 2) 0)) (b.getD (k + 3) 0)) (b.getD k 0) 4
def mixN (b : List Int) : Nat → List Int
  | 0 => b
  | j + 1 => mixC (mixN b j) (4 * j)
def mixI (b : List Int) : List Int := mixN b 4
def subTo (S b : List Int) : Nat → List Int
  | 0 => z 16
  | i + 1 => (subTo S b i).set i (S.getD (b.getD ((i + 4 * (i % 4)) % 16) 0).toNat 0)
def xor16 (a b : List Int) : List Int := xorTo a b 16
def rk (K : List Int) (n : Nat) : List Int := kwas K n
def enc (S K b : List Int) : Nat → List Int
  | 0 => xor16 b (rk K 0)
  | n + 1 => xor16 (mixI (subTo S (enc S K b n) 16)) (rk K (n + 1))
def blockL (S K b : List Int) : List Int := xor16 (subTo S (enc S K b 9) 16) (rk K 10)
def subBack (S b : List Int) : Nat → List Int
  | 0 => z 16
  | i + 1 => (subBack S b i).set ((i + 4 * (i % 4)) % 16) (S.getD (b.getD i 0).toNat 0)
def keysOf (key : List Int) : List Int := (ks SB key 10).2
def blockI (key b : List Int) : List Int := blockL SB (keysOf key) b
theorem getD_set (l : List Int) (i : Nat) (v : Int) (j : Nat) : (l.set i v).getD j 0 = if i = j ∧ i < l.length then v else l.getD j 0 := by
  simp only [List.getD_eq_getElem?_getD, List.getElem?_set]
  by_cases h : i = j
  · subst h
    by_cases h2 : i < l.length
    · simp [h2]
    · simp [h2, List.getElem?_eq_none (show l.length ≤ i by omega)]
  · simp [h]
theorem U8.set {l : List Int} (h : U8 l) (i : Nat) {v : Int} (hv : 0 ≤ v ∧ v < 256) : U8 (l.set i v) := fun j => by
  rw [getD_set]; split
  · exact hv
  · exact h j
def u8B (l : List Int) : Bool := l.all fun x => decide (0 ≤ x) && decide (x < 256)
def decX (y : List Int) (r : Nat) : List Int := if 0 < r then mixI (mixI (mixI y)) else y
def dec (S K b : List Int) : Nat → List Int
  | 0 => b
  | r + 1 => subBack S (decX (xor16 (dec S K b r) (kwas K (10 - r))) r) 16
def backL (S K b : List Int) : List Int := xor16 (dec S K b 10) (kwas K 0)
def backI (key b : List Int) : List Int := backL BK (keysOf key) b
attribute [irreducible] xor16 mixI blockL keysOf decX
def incF (l : List Int) : Nat → List Int
  | 0 => l
  | i + 1 => if (l.set i (IntKind.u8.wrap (l.getD i 0 + 1))).getD i 0 = 0 then incF (l.set i (IntKind.u8.wrap (l.getD i 0 + 1))) i else l.set i (IntKind.u8.wrap (l.getD i 0 + 1))
def inc16 (l : List Int) : List Int := incF l 16
def ctr (first : List Int) : Nat → List Int
  | 0 => first
  | q + 1 => inc16 (ctr first q)
def str1 (B s out : List Int) (at_ : Nat) : Nat → List Int
  | 0 => out
  | r + 1 => (str1 B s out at_ r).set (at_ + r) (xorK .u8 (B.getD (at_ + r) 0) (s.getD r 0))
def strN (key first B : List Int) (n : Nat) : Nat → List Int
  | 0 => z n
  | q + 1 => str1 B (blockI key (ctr first q)) (strN key first B n q) (16 * q) (min 16 (n - 16 * q))
def streamI (key first B : List Int) : List Int := strN key first B B.length ((B.length + 15) / 16)

end Go.Proofs.X
end

section
/- Types and functions of ciphers, as instances. -/
open Go Go.Bx Go.Proofs
namespace Go.Proofs.X
instance : Clb Tryz.prog 113 := ⟨_, Tryz.func113, by kernel_rfl, rfl⟩
instance : Clb Tryz.prog 115 := ⟨_, Tryz.func115, by kernel_rfl, rfl⟩
instance : Clb Tryz.prog 114 := ⟨_, Tryz.func114, by kernel_rfl, rfl⟩
instance : Clb Tryz.prog 112 := ⟨_, Tryz.func112, by kernel_rfl, rfl⟩
instance : Clb Tryz.prog 116 := ⟨_, Tryz.func116, by kernel_rfl, rfl⟩
instance : Clb Tryz.prog 43 := ⟨_, Tryz.func43, by kernel_rfl, rfl⟩
instance : Clb Tryz.prog 44 := ⟨_, Tryz.func44, by kernel_rfl, rfl⟩
instance : Clb Tryz.prog 9 := ⟨_, Tryz.func9, by kernel_rfl, rfl⟩
instance : Und Tryz.prog 22 (.array 16 5) := ⟨Tryz.underlying22⟩
instance : Sz Tryz.prog 22 16 := ⟨Tryz.sizeOf22⟩
instance : Ag Tryz.prog 22 true := ⟨Tryz.isAgg22⟩
instance : Zv Tryz.prog 22 [.ints .u8 16 (zs (List.replicate 16 0))] := ⟨_, Tryz.zeroValue22, by kernel_rfl⟩
instance : Zb Tryz.prog 22 .u8 16 := ⟨_, Tryz.zeroValue22, by kernel_rfl⟩
instance : Inf Tryz.prog 22 Tryz.t22 := ⟨by kernel_rfl⟩
instance : Und Tryz.prog 96 (.pointer 129) := ⟨Tryz.underlying96⟩
instance : Sz Tryz.prog 96 1 := ⟨Tryz.sizeOf96⟩
instance : Ag Tryz.prog 96 false := ⟨Tryz.isAgg96⟩
instance : Zv Tryz.prog 96 [.one .nilp] := ⟨_, Tryz.zeroValue96, by kernel_rfl⟩
instance : Inf Tryz.prog 96 Tryz.t96 := ⟨by kernel_rfl⟩
instance : Und Tryz.prog 126 (.array 256 5) := ⟨Tryz.underlying126⟩
instance : Sz Tryz.prog 126 256 := ⟨Tryz.sizeOf126⟩
instance : Ag Tryz.prog 126 true := ⟨Tryz.isAgg126⟩
instance : Zv Tryz.prog 126 [.ints .u8 256 (zs (List.replicate 256 0))] := ⟨_, Tryz.zeroValue126, by kernel_rfl⟩
instance : Inf Tryz.prog 126 Tryz.t126 := ⟨by kernel_rfl⟩
instance : Und Tryz.prog 127 (.array 11 22) := ⟨Tryz.underlying127⟩
instance : Sz Tryz.prog 127 176 := ⟨Tryz.sizeOf127⟩
instance : Ag Tryz.prog 127 true := ⟨Tryz.isAgg127⟩
instance : Zv Tryz.prog 127 [.ints .u8 176 (zs (List.replicate 176 0))] := ⟨_, Tryz.zeroValue127, by kernel_rfl⟩
instance : Inf Tryz.prog 127 Tryz.t127 := ⟨by kernel_rfl⟩
instance : Und Tryz.prog 129 (.struct #[{ name := "s", type := 126, offset := 0, embedded := false, tag := "", pkgPath := "burrow/ciphers", byteOffset := 0 }, { name := "back", type := 126, offset := 256, embedded := false, tag := "", pkgPath := "burrow/ciphers", byteOffset := 256 }, { name := "keys", type := 127, offset := 512, embedded := false, tag := "", pkgPath := "burrow/ciphers", byteOffset := 512 }]) := ⟨Tryz.underlying129⟩
instance : Sz Tryz.prog 129 688 := ⟨Tryz.sizeOf129⟩
instance : Ag Tryz.prog 129 true := ⟨Tryz.isAgg129⟩
instance : Zv Tryz.prog 129 [.ints .u8 256 (zs (List.replicate 256 0)), .ints .u8 256 (zs (List.replicate 256 0)), .ints .u8 176 (zs (List.replicate 176 0))] := ⟨_, Tryz.zeroValue129, by kernel_rfl⟩
instance : FldC Tryz.prog 129 0 0 := ⟨_, _, _, Tryz.underlying129, rfl, Tryz.sizeOf126, by decide, rfl⟩
instance : FldC Tryz.prog 129 1 256 := ⟨_, _, _, Tryz.underlying129, rfl, Tryz.sizeOf126, by decide, rfl⟩
instance : FldC Tryz.prog 129 2 512 := ⟨_, _, _, Tryz.underlying129, rfl, Tryz.sizeOf127, by decide, rfl⟩
instance : Pl Tryz.prog 129 #[(0, 256), (256, 256), (512, 176)] := ⟨_, Tryz.underlying129, fun w => by kernel_rfl⟩
instance : Inf Tryz.prog 129 Tryz.t129 := ⟨by kernel_rfl⟩
instance : Und Tryz.prog 132 (.array 4 5) := ⟨Tryz.underlying132⟩
instance : Sz Tryz.prog 132 4 := ⟨Tryz.sizeOf132⟩
instance : Ag Tryz.prog 132 true := ⟨Tryz.isAgg132⟩
instance : Zv Tryz.prog 132 [.ints .u8 4 (zs (List.replicate 4 0))] := ⟨_, Tryz.zeroValue132, by kernel_rfl⟩
instance : Zb Tryz.prog 132 .u8 4 := ⟨_, Tryz.zeroValue132, by kernel_rfl⟩
instance : Inf Tryz.prog 132 Tryz.t132 := ⟨by kernel_rfl⟩
end Go.Proofs.X
end

section
/- What the document's answer of layer 9 computes, on lists; and that it is what the program's computes. No program. -/
open Go Go.Bx
namespace Go.Proofs.X
theorem wrap_u8 {x : Int} (h0 : 0 ≤ x) (h1 : x < 256) : IntKind.u8.wrap x = x := by
  show x % 256 = x
  omega
def pad (key first : List Int) (k : Nat) : Int := (blockI key (ctr first (k / 16))).getD (k % 16) 0
def e8 (x : BitVec 8) : Int := (x.toNat : Int)
def tw (x : BitVec 8) : BitVec 8 := if x >>> 7 = 1 then (x <<< 1) ^^^ 27 else x <<< 1
def mx (x all y : Int) : Int := xorK .u8 x (xorK .u8 all (twiceI (xorK .u8 x y)))
def timS (a b : Int) : Nat → Int × Int
  | 0 => (0, a)
  | i + 1 => (if andK .u8 (shrK .u8 b i) 1 = 1 then xorK .u8 (timS a b i).1 (timS a b i).2 else (timS a b i).1,
      if andK .u8 (timS a b i).2 128 ≠ 0 then xorK .u8 (shlK .u8 (timS a b i).2 1) 27 else shlK .u8 (timS a b i).2 1)
def timI (a b : Int) : Int := (timS a b 8).1
def turnI (y : Int) (n : Nat) : Int := orK .u8 (shlK .u8 y n) (shrK .u8 y ((8 - n : Nat) : Int))
def fK (i : Nat) : Nat → Nat → Int
  | 0, _ => 0
  | f + 1, k => if timI i k = 1 then k else fK i f (k + 1)
def yI (i : Nat) : Int := if 0 < i then fK i 255 1 else 0
def boxV (y : Int) : Int := xorK .u8 (xorK .u8 (xorK .u8 (xorK .u8 (xorK .u8 y (turnI y 1)) (turnI y 2)) (turnI y 3)) (turnI y 4)) 99
def rbox : Nat → List Int
  | 0 => z 256
  | i + 1 => (rbox i).set i (boxV (yI i))
theorem wrap_n {n : Nat} (h : n < 256) : IntKind.u8.wrap (n : Int) = (n : Int) := wrap_u8 (by omega) (by omega)
def twN (a : Nat) : Nat := bif Nat.ble 128 a then (a * 2 % 256) ^^^ 27 else a * 2 % 256
def tG : Nat → Nat → Nat → Nat → Nat
  | 0, o, _, _ => o
  | f + 1, o, a, b => tG f (bif Nat.beq (b % 2) 1 then o ^^^ a else o) (twN a) (b >>> 1)
def fN (i : Nat) : Nat → Nat → Nat
  | 0, _ => 0
  | f + 1, k => bif Nat.beq (tG 8 0 i k) 1 then k else fN i f (k + 1)
def INV : List Nat := [0, 1, 141, 246, 203, 82, 123, 209, 232, 79, 41, 192, 176, 225, 229, 199, 116, 180, 170, 75, 153, 43, 96, 95, 88, 63, 253, 204, 255, 64, 238, 178, 58, 110, 90, 241, 85, 77, 168, 201, 193, 10, 152, 21, 48, 68, 162, 194, 44, 69, 146, 108, 243, 57, 102, 66, 242, 53, 32, 111, 119, 187, 89, 25, 29, 254, 55, 103, 45, 49, 245, 105, 167, 100, 171, 19, 84, 37, 233, 9, 237, 92, 5, 202, 76, 36, 135, 191, 24, 62, 34, 240, 81, 236, 97, 23, 22, 94, 175, 211, 73, 166, 54, 67, 244, 71, 145, 223, 51, 147, 33, 59, 121, 183, 151, 133, 16, 181, 186, 60, 182, 112, 208, 6, 161, 250, 129, 130, 131, 126, 127, 128, 150, 115, 190, 86, 155, 158, 149, 217, 247, 2, 185, 164, 222, 106, 50, 109, 216, 138, 132, 114, 42, 20, 159, 136, 249, 220, 137, 154, 251, 124, 46, 195, 143, 184, 101, 72, 38, 200, 18, 74, 206, 231, 210, 98, 12, 224, 31, 239, 17, 117, 120, 113, 165, 142, 118, 61, 189, 188, 134, 87, 11, 40, 47, 163, 218, 212, 228, 15, 169, 39, 83, 4, 27, 252, 172, 230, 122, 7, 174, 99, 197, 219, 226, 234, 148, 139, 196, 213, 157, 248, 144, 107, 177, 13, 214, 235, 198, 14, 207, 173, 8, 78, 215, 227, 93, 80, 30, 179, 91, 35, 56, 52, 104, 70, 3, 140, 221, 156, 125, 160, 205, 26, 65, 28]
def rback : Nat → List Int
  | 0 => z 256
  | i + 1 => (rback i).set (SB.getD i 0).toNat i
def rrow (W : List Int) (j : Nat) : List Int := (W.drop ((j + 3) * 4)).take 4
def rkS (W x : List Int) (j : Nat) : Nat → List Int
  | 0 => W
  | k + 1 => (rkS W x j k).set ((j + 4) * 4 + k) (xorK .u8 ((rkS W x j k).getD (j * 4 + k) 0) (x.getD k 0))
def rsub (S x : List Int) (b : Int) : List Int := [xorK .u8 (S.getD (x.getD 1 0).toNat 0) b, S.getD (x.getD 2 0).toNat 0, S.getD (x.getD 3 0).toNat 0, S.getD (x.getD 0 0).toNat 0]
def rxx (S W : List Int) (j : Nat) (b : Int) : Int × List Int := if (j + 4) % 4 = 0 then (timI b 2, rsub S (rrow W j) b) else (b, rrow W j)
def rkey (key : List Int) (i : Nat) : List Int := [key.getD (4 * i) 0, key.getD (4 * i + 1) 0, key.getD (4 * i + 2) 0, key.getD (4 * i + 3) 0]
def rows (S key : List Int) : Nat → Int × List Int
  | 0 => (1, z 176)
  | i + 1 => if i < 4 then ((rows S key i).1, spl (rows S key i).2 (rkey key i) (i * 4) 4 176)
      else ((rxx S (rows S key i).2 (i - 4) (rows S key i).1).1, rkS (rows S key i).2 (rxx S (rows S key i).2 (i - 4) (rows S key i).1).2 (i - 4) 4)
def rx0 (b W : List Int) : Nat → List Int
  | 0 => b
  | i + 1 => (rx0 b W i).set i (xorK .u8 ((rx0 b W i).getD i 0) (W.getD (i / 4 * 4 + i % 4) 0))
def rxn (b W : List Int) (n : Nat) : Nat → List Int
  | 0 => b
  | i + 1 => (rxn b W n i).set i (xorK .u8 ((rxn b W n i).getD i 0) (W.getD ((4 * n + i / 4) * 4 + i % 4) 0))
def rset (b c W : List Int) (n : Nat) : Nat → List Int
  | 0 => b
  | i + 1 => (rset b c W n i).set i (xorK .u8 (c.getD i 0) (W.getD ((4 * n + i / 4) * 4 + i % 4) 0))
def rmix1 (b : List Int) (k : Nat) (p q r t : Int) : List Int := (((b.set (4 * k) (xorK .u8 (xorK .u8 (xorK .u8 (timI p 2) (timI q 3)) r) t)).set (4 * k + 1) (xorK .u8 (xorK .u8 (xorK .u8 p (timI q 2)) (timI r 3)) t)).set (4 * k + 2) (xorK .u8 (xorK .u8 (xorK .u8 p q) (timI r 2)) (timI t 3))).set (4 * k + 3) (xorK .u8 (xorK .u8 (xorK .u8 (timI p 3) q) r) (timI t 2))
def rmixN (b : List Int) : Nat → List Int
  | 0 => b
  | k + 1 => rmix1 (rmixN b k) k ((rmixN b k).getD (4 * k) 0) ((rmixN b k).getD (4 * k + 1) 0) ((rmixN b k).getD (4 * k + 2) 0) ((rmixN b k).getD (4 * k + 3) 0)
def rimix1 (b : List Int) (k : Nat) (p q r t : Int) : List Int := (((b.set (4 * k) (xorK .u8 (xorK .u8 (xorK .u8 (timI p 14) (timI q 11)) (timI r 13)) (timI t 9))).set (4 * k + 1) (xorK .u8 (xorK .u8 (xorK .u8 (timI p 9) (timI q 14)) (timI r 11)) (timI t 13))).set (4 * k + 2) (xorK .u8 (xorK .u8 (xorK .u8 (timI p 13) (timI q 9)) (timI r 14)) (timI t 11))).set (4 * k + 3) (xorK .u8 (xorK .u8 (xorK .u8 (timI p 11) (timI q 13)) (timI r 9)) (timI t 14))
def rimixN (b : List Int) : Nat → List Int
  | 0 => b
  | k + 1 => rimix1 (rimixN b k) k ((rimixN b k).getD (4 * k) 0) ((rimixN b k).getD (4 * k + 1) 0) ((rimixN b k).getD (4 * k + 2) 0) ((rimixN b k).getD (4 * k + 3) 0)
end Go.Proofs.X
end

section
/- What is literal is what it says: two operands, both literal, and what the model makes of them. No program. -/
namespace Go.Bx
def SV.litV : SV → Option Value
  | .int k n => some (.int k n)
  | .bool b => some (.bool b)
  | .nilp => some (.pointer none)
  | .nils => some (.slice none 0 0)
  | .val u => some u
  | _ => none
def litVS : List Seg → Option (List Value)
  | [] => some []
  | .one v :: r => match v.litV, litVS r with
    | some x, some l => some (x :: l)
    | _, _ => none
  | .ints k n l :: r => match litVS r with
    | some q => some ((List.range n).map (fun i => Value.int k (l.getD i 0)) ++ q)
    | none => none
  | .rows .. :: _ => none
def AV.litV : AV → Option Value
  | .s v => v.litV
  | .agg l => (litVS l).map fun c => .agg c.toArray
  | .tup _ => none
section rules
variable {P : Program} {T : Tm} {H : Heap} {d : Option Tmp} {ty : TypeId} {pos : String} {af : Array Edge} {g : Option (Nat × Bool)}
end rules
end Go.Bx
end

section
/- Slices of memory within slices; copies of whatever length; parts of frozen structs as slices. No program. -/
namespace Go.Bx
theorem LOk.wide {P : Program} {o : Oper} {T : Tm} {H H' : Heap} {v : AV} {F M F' M' : List Nat} (h : LOk P o T H H' v F M) (hF : ∀ id ∈ F, id ∈ F') (hM : ∀ id ∈ M, id ∈ M') (hs : ∀ id ∈ M', id ∈ F') (hl : ∀ id ∈ F', id < H.length) : LOk P o T H H' v F' M' := by
  refine ⟨h.len, fun id hi hn => h.keep id hi fun hm => hn (hM id hm), hs, hl, ?_⟩
  intro W ρ a w hH hfr hW ho
  rw [msk_len, msk_len] at hfr
  refine (h.frame (c := hget (msk F' H.length H)) hH (fun id hi _ => by rw [hget_msk, if_pos (.inl (hF id hi))]) hfr hW ho).mono fun v' w' ⟨ρ', W', hn, hv⟩ => ⟨ρ', W', ?_, hv⟩
  rw [msk_len, msk_len]
  refine (?_ : (fun id => if id ∈ M ∨ (H.length ≤ id ∧ id < H'.length) then hget H' id else hget (msk F' H.length H) id) = hget (msk F' H.length H')) ▸ hn
  funext id
  rw [hget_msk, hget_msk]
  by_cases h1 : id ∈ M
  · rw [if_pos (.inl h1), if_pos (.inl (hs id (hM id h1)))]
  · by_cases h2 : H.length ≤ id
    · by_cases h3 : id < H'.length
      · rw [if_pos (.inr ⟨h2, h3⟩), if_pos (.inr h2)]
      · rw [if_neg (fun e => e.elim h1 fun e => h3 e.2), if_pos (.inr h2), if_pos (.inr h2), hget_ge h2, hget_ge (by omega)]
    · rw [if_neg (fun e => e.elim h1 fun e => h2 e.1)]
      by_cases h4 : id ∈ F'
      · rw [if_pos (.inl h4), if_pos (.inl h4), h.keep id (by omega) h1]
      · rw [if_neg (fun e => e.elim h4 h2), if_neg (fun e => e.elim h4 h2)]
section
variable {P : Program} {T : Tm} {H : Heap} {d : Option Tmp} {ty : TypeId} {pos : String} {af : Array Edge} {g : Option (Nat × Bool)}
end
section
variable {P : Program} {T : Tm} {H : Heap} {d : Option Tmp} {ty : TypeId} {pos : String} {af : Array Edge} {g : Option (Nat × Bool)}
end
end Go.Bx
end

section
/- Constants' bytes, marked; bytes as strings; what an operation gives, told otherwise. No program. -/
namespace Go.Bx
theorem LOk.conv {P : Program} {o : Oper} {T : Tm} {H H' : Heap} {v v' : AV} {F M R : List Nat} (h : LOk P o T H H' v F M) (hc : AConv R H' v v') (hR : ∀ id ∈ R, id ∈ F ∨ H.length ≤ id) : LOk P o T H H' v' F M := by
  refine ⟨h.len, h.keep, h.sub, h.lt, ?_⟩
  intro W ρ a w hH hfr hW ho
  refine (h.run W ρ a w hH hfr hW ho).mono fun u w' ⟨ρ', W', hn, hv⟩ => ⟨ρ', W', hn, ?_⟩
  refine hc _ W' ρ' w' u (fun id hi => ?_) hn.rep hv
  rw [hget_msk, if_pos (hR id hi)]
theorem LOk.drop {P : Program} {o : Oper} {T : Tm} {H H' : Heap} {v : AV} {F M : List Nat} {id : Nat} (h : LOk P o T H H' v F M) (hi : id ∈ M) : LOk P o T H (H'.set id none) v F M := by
  have hl := h.lt id (h.sub id hi)
  have hl' : id < H'.length := Nat.lt_of_lt_of_le hl h.len
  refine ⟨by simpa using h.len, fun j hj hn => ?_, h.sub, h.lt, ?_⟩
  · rw [hget_set hl', if_neg (fun e => hn (by rw [e]; exact hi)), h.keep j hj hn]
  · intro W ρ a w hH hfr hW ho
    rw [msk_len, msk_len, List.length_set] at hfr
    refine (h.run W ρ a w hH (by rw [msk_len, msk_len]; exact hfr) hW ho).mono fun u w' ⟨ρ', W', hn, hv⟩ => ⟨ρ', W', ?_, hv⟩
    rw [msk_len, msk_len] at hn
    rw [msk_len, msk_len, List.length_set]
    refine ⟨hn.le, hn.old, hn.rep.sub fun j k e => ?_, hn.fr, hn.sub, hn.fresh, hn.fzn⟩
    rw [hget_msk] at e ⊢
    split at e
    · rename_i h1
      rw [hget_set hl'] at e
      split at e
      · cases e
      · rw [if_pos h1]; exact e
    · cases e
theorem freeze_at {w : World} {b n : Nat} {cells : Array Value} {t : TypeId} (h : w.heap[b]? = some (.cells cells t (0, 0))) : (w.freeze ⟨b, n, none⟩ 1).heap[b]? = some (.cells cells t (n, n + 1)) := by
  unfold World.freeze
  rw [if_neg (by decide)]
  obtain ⟨hl, hk⟩ := Array.getElem?_eq_some_iff.1 h
  show (w.heap.modify b _)[b]? = _
  rw [Array.getElem?_eq_getElem (by simpa using hl), Array.getElem_modify_self, hk]
  rfl
theorem freeze_other {w : World} {b n k : Nat} (h : k ≠ b) : (w.freeze ⟨b, n, none⟩ 1).heap[k]? = w.heap[k]? := by
  unfold World.freeze
  rw [if_neg (by decide)]
  show (w.heap.modify b _)[k]? = _
  rw [Array.getElem?_modify, if_neg (fun e => h e.symm)]
theorem freeze_size {w : World} {b n : Nat} : (w.freeze ⟨b, n, none⟩ 1).heap.size = w.heap.size := by
  unfold World.freeze
  rw [if_neg (by decide)]
  show (w.heap.modify b _).size = _
  simp
theorem freeze_rest {w : World} {b n : Nat} : (w.freeze ⟨b, n, none⟩ 1).os = w.os ∧ (w.freeze ⟨b, n, none⟩ 1).tape = w.tape ∧ (w.freeze ⟨b, n, none⟩ 1).output = w.output := by
  unfold World.freeze
  rw [if_neg (by decide)]
  exact ⟨rfl, rfl, rfl⟩
theorem HRep.mark {W : Nat → Prop} {ρ : Rho} {h : Nat → Option Blk} {w : World} {b n : Nat} {cells : Array Value} {t : TypeId} (hH : HRep W ρ h w) (hb : w.heap[b]? = some (.cells cells t (0, 0))) (hW : ¬ W b) : HRep W ρ h (w.freeze ⟨b, n, none⟩ 1) := by
  have hat : ∀ k cs t' fr, w.heap[k]? = some (Obj.cells cs t' fr) → ∃ t2 f2, (w.freeze ⟨b, n, none⟩ 1).heap[k]? = some (Obj.cells cs t2 f2) := fun k cs t' fr e => by
    by_cases hk : k = b
    · subst hk
      rw [hb] at e
      cases e
      exact ⟨_, _, freeze_at hb⟩
    · exact ⟨t', fr, by rw [freeze_other hk]; exact e⟩
  refine ⟨fun id b' o e => by rw [freeze_size]; exact hH.lt id b' o e, fun id b' o k e1 e2 => ?_, hH.apart, fun b' cs e => ?_, fun b' m e => ?_⟩
  · obtain ⟨⟨c2, t2, f2, k1, k2, k3, k4⟩, k5⟩ := hH.rep id b' o k e1 e2
    refine ⟨?_, k5⟩
    by_cases hbb : b' = b
    · subst hbb
      obtain ⟨t3, f3, k6⟩ := hat _ _ _ _ k1
      exact ⟨c2, t3, f3, k6, fun e => absurd (k5 e) hW, k3, k4⟩
    · exact ⟨c2, t2, f2, by rw [freeze_other hbb]; exact k1, k2, k3, k4⟩
  · obtain ⟨h1, t2, f2, h2⟩ := hH.fz b' cs e
    obtain ⟨t3, f3, h3⟩ := hat _ _ _ _ h2
    exact ⟨h1, t3, f3, h3⟩
  · obtain ⟨cs, t2, f2, h2, h3⟩ := hH.sz b' m e
    obtain ⟨t3, f3, h4⟩ := hat _ _ _ _ h2
    exact ⟨cs, t3, f3, h4, h3⟩
section
variable {P : Program} {T : Tm} {H : Heap} {d : Option Tmp} {ty : TypeId} {pos : String} {af : Array Edge} {g : Option (Nat × Bool)}
theorem l_mark {t e : TypeId} {x : Operand} {id base idx len cap : Nat} {segs : List Seg} (hx : ev T x = .s (.slice id base idx len cap)) (hb : hget H id = some ⟨true, segs⟩) (hu : P.underlying t = some (.slice e)) (he : P.underlying e = some (.int .u8)) :
    LOk P ⟨d, .convert t t x, ty, pos, af, g⟩ T H (H.set id (some ⟨false, segs⟩)) (.s (.slice id base idx len cap)) [id] [id] := by
  refine lok_set [id] (fun j hj => by simp at hj; subst hj; exact hget_lt hb) (by simp) fun H0 hl0 h0 => ?_
  have hb0 : hget H0 id = some ⟨true, segs⟩ := by rw [h0 id (by simp)]; exact hb
  intro W ρ a w hH hn hW ho next Q hq
  have h1 : (ev T x).rep ρ (a.eval x) := ho x (by simp [Op.operands])
  rw [hx] at h1
  obtain ⟨b, o, hρ, h1⟩ := h1
  obtain ⟨⟨cells, tt, fr, g1, g2, g3, g4⟩, hWb⟩ := hH.rep id b o _ hρ hb0
  have hfr := g2 rfl
  subst hfr
  have hsh : w.shape? b = some (tt, cells.size) := by unfold World.shape?; rw [g1]
  have hrun : (execOp a.eval ⟨d, .convert t t x, ty, pos, af, g⟩).run P w = .ok (.value (a.eval x)) (w.freeze ⟨b, cells.size, none⟩ 1) := by
    simp [execOp, h1, convert, Sem.run_bind, run_underlying hu, run_underlying he, markStringish, hsh]
  rw [hrun]
  obtain ⟨ρ1, W1, r1, r2, r3, r4, r5, r6⟩ := hrep_frz hH hb0 hW
  have hlt := hget_lt hb0
  have hW1 : ¬ W1 b := by
    have hr := r3.rep id b o ⟨false, segs⟩ (by rw [r2]; exact hρ) (by rw [hget_set hlt, if_pos rfl])
    obtain ⟨⟨c2, _, _, _, _, k3, _⟩, _⟩ := hr
    exact (r3.fz b c2 (k3 rfl)).1
  refine hq _ _ ⟨ρ1, W1, ⟨r1, fun i x e => by rw [r2] at e; exact .inl e, r3.mark g1 hW1, ⟨freeze_rest.1, freeze_rest.2.1, freeze_rest.2.2, Nat.le_of_eq freeze_size.symm, fun k _ hk => freeze_other (fun e => hk (e ▸ hWb rfl)), fun k ob hk hc => ?_, fun k cs t' fr hk => ?_⟩, r4, fun k hk => by rw [freeze_size] at hk; exact r5 k hk, fun k c e => r6 k c e⟩, ⟨b, o, by rw [r2]; exact hρ, h1⟩⟩
  · by_cases e : k = b
    · subst e; rw [g1] at hk; cases hk; simp [Obj.isCells] at hc
    · rw [freeze_other e]; exact hk
  · by_cases e : k = b
    · subst e; rw [g1] at hk; cases hk; exact ⟨_, _, _, freeze_at g1, rfl⟩
    · exact ⟨cs, t', fr, by rw [freeze_other e]; exact hk, rfl⟩
theorem a_mark {t e : TypeId} {x : Operand} {id base idx len cap n : Nat} {l l' : List Int} {segs : List Seg} {H' : Heap} (hx : ev T x = .s (.slice id base idx len cap)) (hb : hget H id = some ⟨true, segs⟩) [hu : Und P t (.slice e)] [he : Und P e (.int .u8)] (hs : segAt segs base = some (.ints .u8 n l)) (hn : idx + len ≤ n) (hc : len ≤ cap) (hl : l.length = n) (hl' : (l.drop idx).take len = l') (hH : H.set id none = H') :
    LOk P ⟨d, .convert t t x, ty, pos, af, g⟩ T H H' (.s (.fzi .u8 l')) [id] [id] := by
  have hlt := hget_lt hb
  have h := ((l_mark (d := d) (ty := ty) (pos := pos) (af := af) (g := g) hx hb hu.h he.h).conv (conv_sl (k := ⟨false, segs⟩) (by rw [hget_set hlt, if_pos rfl]) rfl hs hn hc hl hl') (fun j hj => .inl hj)).drop (id := id) (by simp)
  rw [List.set_set, hH] at h
  exact h
theorem k_mark {t e : TypeId} {x : Operand} {id base idx len cap n : Nat} {l l' : List Int} {segs : List Seg} {H' : Heap} [hu : Und P t (.slice e)] [he : Und P e (.int .u8)] (hx : ev T x = .s (.slice id base idx len cap) := by rfl) (hb : hget H id = some ⟨true, segs⟩ := by rfl) (hs : segAt segs base = some (.ints .u8 n l) := by rfl) (hn : idx + len ≤ n := by omega) (hc : len ≤ cap := by omega) (hl : l.length = n := by rfl) (hl' : (l.drop idx).take len = l' := by rfl) (hH : H.set id none = H' := by repeat (first | exact hset_0 | apply hset_s)) :
    LOk P ⟨d, .convert t t x, ty, pos, af, g⟩ T H H' (.s (.fzi .u8 l')) [id] [id] := a_mark hx hb hs hn hc hl hl' hH
end
end Go.Bx
end

section
/- Rows: literal slices of structs, rows put behind rows, integers behind integers. No program. -/
namespace Go.Bx
theorem Joins.rows {n m wd q : Nat} {g g2 g' : Nat → Nat → SV} (hw : 0 < wd) (hq : n ≤ q) (hg : ∀ i j, i < n → j < wd → g' i j = g i j) (hn : ∀ i j, i < m → j < wd → g' (n + i) j = g2 i j) : Joins [.rows q wd g] (n * wd) [.rows m wd g2] (m * wd) [.rows (n + m) wd g'] := by
  refine ⟨by simp [sizeS, Seg.size, Nat.add_mul], fun i y hy => ?_⟩
  have hs1 : (Seg.rows (n + m) wd g').size = (n + m) * wd := rfl
  have hs2 : (Seg.rows q wd g).size = q * wd := rfl
  have hs3 : (Seg.rows m wd g2).size = m * wd := rfl
  have hy' : i < (n + m) * wd ∧ y = .noid (g' (i / wd) (i % wd)) := by
    simp only [atS] at hy
    rw [hs1] at hy
    by_cases hi : i < (n + m) * wd
    · rw [if_pos hi] at hy; exact ⟨hi, (Option.some.inj hy).symm⟩
    · rw [if_neg hi] at hy; cases hy
  obtain ⟨hi, rfl⟩ := hy'
  have hm := Nat.mod_lt i hw
  have hdm := Nat.div_add_mod i wd
  refine ⟨fun h1 => ?_, fun h1 => ?_⟩
  · have hd : i / wd < n := Nat.div_lt_of_lt_mul (by rwa [Nat.mul_comm])
    refine ⟨_, ?_, .inl rfl⟩
    have : i < q * wd := Nat.lt_of_lt_of_le h1 (Nat.mul_le_mul_right wd hq)
    simp only [atS]
    rw [if_pos (by rw [hs2]; exact this)]
    simp only [Seg.at, hg _ _ hd hm]
  · have h3 : n ≤ i / wd := (Nat.le_div_iff_mul_le hw).2 h1
    have h2 : i / wd < n + m := Nat.div_lt_of_lt_mul (by rwa [Nat.mul_comm])
    obtain ⟨k, hk⟩ : ∃ k, i / wd = n + k := ⟨i / wd - n, by omega⟩
    have hkm : k < m := by omega
    have he : i - n * wd = k * wd + i % wd := by
      rw [hk, Nat.mul_comm, Nat.add_mul] at hdm; omega
    refine ⟨_, ?_, .inl rfl⟩
    rw [he]
    simp only [atS]
    rw [if_pos (by rw [hs3]; exact row_lt hkm hm)]
    simp only [Seg.at, (row_div hm).1, (row_div hm).2, hk, hn k _ hkm hm]
theorem flatS_app : ∀ (A B : List Seg), flatS (A ++ B) = flatS A ++ flatS B
  | [], B => rfl
  | .one v :: r, B => by simp [flatS, flatS_app r B]
  | .ints k n l :: r, B => by simp [flatS, flatS_app r B]
  | .rows n w g :: r, B => by simp [flatS, flatS_app r B]
theorem lensOk_app : ∀ (A B : List Seg), lensOk (A ++ B) = (lensOk A && lensOk B)
  | [], B => by simp [lensOk]
  | .one v :: r, B => by simp [lensOk, lensOk_app r B]
  | .ints k n l :: r, B => by simp [lensOk, lensOk_app r B, Bool.and_assoc]
  | .rows n w g :: r, B => by simp [lensOk, lensOk_app r B]
theorem all2_app : ∀ {a c : List SV} {b d : List Value}, all2 a b = true → all2 c d = true → all2 (a ++ c) (b ++ d) = true
  | [], _, [], _, _, h => h
  | [], _, _ :: _, _, h, _ => by simp [all2] at h
  | _ :: _, _, [], _, h, _ => by simp [all2] at h
  | x :: r, c, v :: s, d, h, k => by
    simp only [all2, Bool.and_eq_true] at h
    simp only [List.cons_append, all2, Bool.and_eq_true]
    exact ⟨h.1, all2_app h.2 k⟩
theorem rowOk_rep_n {Z : List Seg} {cs : Array Value} (h : rowOk Z cs = true) (n : Nat) : rowOk (List.replicate n Z).flatten ((List.replicate n cs.toList).flatten.toArray) = true := by
  simp only [rowOk, Bool.and_eq_true] at h ⊢
  induction n with
  | zero => exact ⟨rfl, rfl⟩
  | succ n ih =>
    rw [List.replicate_succ, List.replicate_succ, List.flatten_cons, List.flatten_cons]
    refine ⟨by rw [lensOk_app, h.1, ih.1]; rfl, ?_⟩
    rw [flatS_app]
    exact all2_app h.2 ih.2
theorem range_rep (cs : Array Value) (n : Nat) : ((Array.range (n * cs.size)).map fun i => cs[i % cs.size]!) = (List.replicate n cs.toList).flatten.toArray := by
  apply Array.ext'
  rw [Array.toList_map, Array.toList_range]
  show _ = (List.replicate n cs.toList).flatten
  induction n with
  | zero => simp
  | succ n ih =>
    rw [List.replicate_succ', List.flatten_append, ← ih, Nat.succ_mul, List.range_add, List.map_append]
    congr 1
    simp only [List.flatten_cons, List.flatten_nil, List.append_nil, List.map_map]
    apply List.ext_getElem
    · simp
    · intro i h1 h2
      have hi : i < cs.size := by simpa using h1
      simp [Nat.mul_add_mod, Nat.mod_eq_of_lt hi, Nat.mul_comm n cs.size, hi]
section
variable {P : Program} {T : Tm} {H : Heap} {d : Option Tmp} {ty : TypeId} {pos : String} {af : Array Edge} {g : Option (Nat × Bool)}
theorem big_ok {n m b : Nat} (h : n + m ≤ 1000000) (hb : Nat.ble (1000000 * b) 140737488355328 = true) : (n + m) * b ≤ 140737488355328 := Nat.le_trans (Nat.mul_le_mul_right b h) (Nat.le_of_ble_eq_true hb)
theorem k_bsK {t e : TypeId} {n n0 : Nat} {k : IntKind} {parts : Array (Nat × Operand)} {H' : Heap} (xs : List Int) [hu : Und P t (.slice e)] [he : Sz P e 1] [hz : Zi P e k] [hN : LenN H n0] (hl : (partsOf T parts.toList).all (fun p => p.2.solid) = true := by kernel_rfl) (hs : (fillS (fun i => some (i * 1, 1)) ((List.range (n * 1)).map fun _ => .one (.int k 0)) (partsOf T parts.toList)).bind (intsOf k) = some xs := by kernel_rfl) (hxn : xs.length = n := by rfl) (hbig : n * 1 ≤ 16777216 := by exact Nat.le_of_ble_eq_true rfl) (h0 : 0 < n * 1 := by exact Nat.le_of_ble_eq_true rfl) (hH : H ++ [some (Blk.mk true [.ints k n xs])] = H' := by repeat (first | exact happ_0 | apply happ_s)) : LOk P ⟨d, .buildSlice t n parts, ty, pos, af, g⟩ T H H' (.s (.slice n0 0 0 n n)) [] [] := by
  have hZ1 : rowOk ((List.range (n * 1)).map fun _ => .one (.int k 0)) ((Array.range (n * 1)).map fun i => (Value.int k 0).cells[i % (Value.int k 0).cells.size]!) = true := by
    have h1 : rowOk [.one (.int k 0)] (Value.int k 0).cells = true := by cases k <;> rfl
    have h2 := rowOk_rep_n h1 n
    have h3 := range_rep (Value.int k 0).cells n
    have h4 : (Value.int k 0).cells.size = 1 := rfl
    rw [h4] at h3
    rw [h4, h3]
    have h5 : ((List.range (n * 1)).map fun _ => Seg.one (.int k 0)) = (List.replicate n [Seg.one (.int k 0)]).flatten := by
      rw [Nat.mul_one]
      induction n with
      | zero => rfl
      | succ n ih =>
        rw [List.range_succ, List.map_append, List.replicate_succ', List.flatten_append]
        clear hl hs hxn hbig h0 hH h2 h3
        congr 1
        clear ih
        induction n with
        | zero => rfl
        | succ n ih => rw [List.range_succ, List.map_append, ih, List.replicate_succ', List.flatten_append]; rfl
    rw [h5]
    exact h2
  cases hq : fillS (fun i => some (i * 1, 1)) ((List.range (n * 1)).map fun _ => .one (.int k 0)) (partsOf T parts.toList) with
  | none => rw [hq] at hs; cases hs
  | some segs => rw [hq] at hs; exact a_bslI rfl (partsOf_ok hl) hbig hq hZ1 hs hxn h0 hN.h hH
end
section
variable {E : Env} {P : Program} {T : Tm} {H : Heap}
end
end Go.Bx
end

section
/- What comes in, told as values: nothing of it is written. No program. -/
namespace Go.Bx
open Go.ChangeShapes Go.WideShapes
def rhoW (w : World) : Rho := ⟨fun _ => none, fun b => match w.heap[b]? with | some (.cells cs _ _) => some cs | _ => none, fun _ => none⟩
theorem rhoW_fz {w : World} {b : Nat} {cs : Array Value} {t : TypeId} {fr : Nat × Nat} (h : w.heap[b]? = some (.cells cs t fr)) : (rhoW w).fz b = some cs := by simp [rhoW, h]
theorem hrep_w (w : World) : HRep (fun b => w.heap.size ≤ b) (rhoW w) (hget []) w := by
  refine ⟨fun id b o e => (by cases e), fun id b o k e => (by cases e), fun id id' b o o' k k' _ e => (by cases e), fun b cs e => ?_, fun b n e => (by cases e)⟩
  simp only [rhoW] at e
  split at e
  · rename_i c t fr hb
    cases e
    exact ⟨fun h => absurd (Array.getElem?_eq_some_iff.1 hb).1 (by omega), t, fr, hb⟩
  · cases e
theorem calls_con {P : Program} {f : FuncId} {args : List AV} {r : Bool} {vals : Array Value} {w : World} (h : Con P f args [] (.s (.bool r)) []) (ha : ArgsRep (rhoW w) args vals) :
    Calls P f vals w fun e w' => e = .returned (.bool r) ∧ Go.RowKit.Below w.heap.size w w' := by
  refine (h.run (fun b => w.heap.size ≤ b) (rhoW w) vals w (hrep_w w) (fun _ _ => rfl) (fun _ h => h) ha).mono ?_
  rintro e w' ⟨v', ρ', W', rfl, hn, hv⟩
  have hv : v' = .bool r := hv
  subst hv
  exact ⟨rfl, hn.fr.os, hn.fr.tape, hn.fr.output, hn.fr.size, fun k hk => hn.fr.block k hk (by omega)⟩
section
variable {Hh : Type} {enc : TypeId × Value → Hh} {P : Program} {w : World} {base : Nat} {spare : Nat → Bool} {held : Bool}
def Op (enc : TypeId × Value → Hh) (P : Program) (w : World) (base : Nat) (spare : Nat → Bool) (held : Bool) (t : TypeId) (n : Nat) (S : List Seg → Prop) : Prop :=
  P.cellsOf t = n ∧ ∀ (fuel : Nat) (cs : List Value) (x : DataW Hh × List MemPlace), DataW.trod enc P w base spare held fuel t cs = some x → ∃ segs, S segs ∧ sizeS segs = n ∧ RowRep (rhoW w) segs (fun i => cs[i]?)
def shInt (k : IntKind) : List Seg → Prop := fun s => ∃ n, (Lit.int k n).wf = true ∧ s = [.one (.int k n)]
def shBool : List Seg → Prop := fun s => ∃ b, s = [.one (.bool b)]
def shArr (k : IntKind) (m : Nat) : List Seg → Prop := fun s => ∃ l : List Int, l.length = m ∧ (∀ y ∈ l, (Lit.int k y).wf = true) ∧ s = [.ints k m l]
def shInts (k : IntKind) : List Seg → Prop := fun s => ∃ l : List Int, l.length ≤ maxLen ∧ (∀ y ∈ l, (Lit.int k y).wf = true) ∧ s = [.one (.fzi k l)]
def shRows (wd : Nat) (S : List Seg → Prop) : List Seg → Prop := fun s => ∃ (n : Nat) (rows : Nat → List Seg), n ≤ maxLen ∧ (∀ i, i < n → S (rows i) ∧ sizeS (rows i) = wd) ∧ s = [.one (.fz n wd (rowsF rows))]
def shCat : List (Nat × (List Seg → Prop)) → List Seg → Prop
  | [], s => s = []
  | (n, S) :: r, s => ∃ a b, S a ∧ sizeS a = n ∧ shCat r b ∧ s = a ++ b
def total (Ss : List (Nat × (List Seg → Prop))) : Nat := (Ss.map (·.1)).sum
theorem op_int {t : TypeId} {k : IntKind} (ht : P.underlying t = some (.int k)) (hc : P.cellsOf t = 1) : Op enc P w base spare held t 1 (shInt k) :=
  ⟨hc, fun fuel cs x h => by
    obtain ⟨n, rfl, _, hw⟩ := DataW.trod_int ht h
    refine ⟨_, ⟨n, hw, rfl⟩, rfl, fun i y hy => ?_⟩
    obtain ⟨rfl, rfl⟩ := atS_one1 hy
    exact ⟨_, rfl, rfl, rfl⟩⟩
theorem cell_blk {w : World} {a : Addr} {v : Value} (h : w.cell? a = some v) : ∃ cells t fr, w.heap[a.block]? = some (.cells cells t fr) ∧ a.spot = none ∧ cells[a.off]? = some v := by
  unfold World.cell? at h
  split at h
  · rename_i c t fr hb
    split at h
    · cases h
    · rename_i hs
      exact ⟨c, t, fr, hb, by simpa using hs, h⟩
  · cases h
theorem op_arr {t e : TypeId} {n : Nat} {k : IntKind} (ht : P.underlying t = some (.array n e)) (he : P.underlying e = some (.int k)) (hc : P.cellsOf e = 1) (hct : P.cellsOf t = n) : Op enc P w base spare held t n (shArr k n) :=
  ⟨hct, fun fuel cs x h => by
    obtain ⟨xs, m, _, _, hl, hlen, hall⟩ := DataW.trod_array ht h
    rw [hct] at hl
    have each : ∀ i, i < n → ∃ z, cs[i]? = some (.int k z) ∧ (Lit.int k z).wf = true := by
      intro i hi
      have h1 := hall i hi
      rw [hc, Nat.mul_one] at h1
      obtain ⟨y, hy⟩ : ∃ y, xs[i]? = some y := ⟨_, List.getElem?_eq_getElem (by rw [hlen]; exact hi)⟩
      rw [hy] at h1
      obtain ⟨z, hz, _, hw⟩ := DataW.trod_int he h1
      have := congrArg (·[0]?) hz
      simp [List.getElem?_drop] at this
      exact ⟨z, this, hw⟩
    have hg : ∀ (n : Nat) (cs : List Value), cs.length = n → (∀ i, i < n → ∃ z, cs[i]? = some (.int k z) ∧ (Lit.int k z).wf = true) → ∃ l : List Int, l.length = n ∧ (∀ y ∈ l, (Lit.int k y).wf = true) ∧ cs = l.map (Value.int k) := by
      intro n
      induction n with
      | zero => intro cs h _; exact ⟨[], rfl, by simp, by simpa using h⟩
      | succ n ih =>
        intro cs h hz
        cases cs with
        | nil => simp at h
        | cons c r =>
          obtain ⟨z, h1, h2⟩ := hz 0 (by omega)
          simp at h1
          subst h1
          obtain ⟨l, h3, h4, h5⟩ := ih r (by simpa using h) (fun i hi => by simpa using hz (i + 1) (by omega))
          exact ⟨z :: l, by simp [h3], by simpa [h2] using h4, by simp [h5]⟩
    obtain ⟨l, h1, h2, rfl⟩ := hg n cs hl each
    refine ⟨_, ⟨l, h1, h2, rfl⟩, by simp [sizeS, Seg.size], fun i y hy => ?_⟩
    obtain ⟨h3, rfl⟩ := atS_ints1 hy
    exact ⟨.int k (l.getD i 0), by simp [h1, h3], rfl, rfl⟩⟩
theorem rowRep_app {ρ : Rho} {a b : List Seg} {get : Nat → Option Value} (h1 : RowRep ρ a get) (h2 : RowRep ρ b (fun j => get (sizeS a + j))) : RowRep ρ (a ++ b) get := by
  intro i x hx
  rw [atS_append] at hx
  split at hx
  · exact h1 i x hx
  · rename_i hi
    obtain ⟨v, hv, hc⟩ := h2 _ x hx
    have hv : get (sizeS a + (i - sizeS a)) = some v := hv
    rw [show sizeS a + (i - sizeS a) = i by omega] at hv
    exact ⟨v, hv, hc⟩
theorem cat_rep {ρ : Rho} : ∀ {Ss : List (Nat × (List Seg → Prop))} {get : Nat → Option Value}, (∀ i n S, Ss[i]? = some (n, S) → ∃ segs, S segs ∧ sizeS segs = n ∧ RowRep ρ segs (fun j => get (total (Ss.take i) + j))) → ∃ segs, shCat Ss segs ∧ sizeS segs = total Ss ∧ RowRep ρ segs get
  | [], get, _ => ⟨[], rfl, rfl, fun i x hx => by simp [atS] at hx⟩
  | (n, S) :: r, get, h => by
    obtain ⟨a, a1, a2, a3⟩ := h 0 n S rfl
    have a3 : RowRep ρ a get := fun i x hx => by
      obtain ⟨v, hv, hc⟩ := a3 i x hx
      exact ⟨v, by simpa [total] using hv, hc⟩
    obtain ⟨b, b1, b2, b3⟩ := cat_rep (Ss := r) (get := fun j => get (n + j)) (fun i m S' hi => by
      obtain ⟨s, s1, s2, s3⟩ := h (i + 1) m S' (by simpa using hi)
      refine ⟨s, s1, s2, fun j x hx => ?_⟩
      obtain ⟨v, hv, hc⟩ := s3 j x hx
      refine ⟨v, ?_, hc⟩
      have hv : get (total (((n, S) :: r).take (i + 1)) + j) = some v := hv
      have : total (((n, S) :: r).take (i + 1)) + j = n + (total (r.take i) + j) := by simp [total]; omega
      rw [this] at hv
      exact hv)
    refine ⟨a ++ b, ⟨a, b, a1, a2, b1, rfl⟩, by rw [sizeS_append, a2, b2]; simp [total], rowRep_app a3 (by rw [a2]; exact b3)⟩
theorem op_struct {t : TypeId} {fs : Array Field} (Ss : List (Nat × (List Seg → Prop))) (ht : P.underlying t = some (.struct fs)) (hct : P.cellsOf t = total Ss) (hlen : fs.size = Ss.length) (h : ∀ i f n S, fs[i]? = some f → Ss[i]? = some (n, S) → f.offset = total (Ss.take i) ∧ Op enc P w base spare held f.type n S) : Op enc P w base spare held t (total Ss) (shCat Ss) :=
  ⟨hct, fun fuel cs x hx => by
    obtain ⟨xs, n, _, _, hl, hxl, hall⟩ := DataW.trod_struct ht hx
    refine cat_rep fun i m S hi => ?_
    have hil : i < fs.size := by rw [hlen]; exact (List.getElem?_eq_some_iff.1 hi).1
    obtain ⟨f, hf⟩ : ∃ f, fs[i]? = some f := ⟨_, Array.getElem?_eq_getElem hil⟩
    obtain ⟨h1, h2, h3⟩ := h i f m S hf hi
    have h4 := hall i f hf
    obtain ⟨y, hy⟩ : ∃ y, xs[i]? = some y := ⟨_, List.getElem?_eq_getElem (by rw [hxl]; exact hil)⟩
    rw [hy, h1, h2] at h4
    obtain ⟨segs, s1, s2, s3⟩ := h3 _ _ _ h4
    refine ⟨segs, s1, s2, fun j z hz => ?_⟩
    obtain ⟨v, hv, hc⟩ := s3 j z hz
    have hj := atS_lt hz
    have hv : ((cs.drop _).take _)[j]? = some v := hv
    rw [List.getElem?_take_of_lt (by omega), List.getElem?_drop] at hv
    exact ⟨v, hv, hc⟩⟩
theorem add_block (a : Addr) (n : Nat) : (a.add n).block = a.block := by unfold Addr.add; split <;> rfl
theorem add_off (a : Addr) (n : Nat) : (a.add n).off = a.off + n := by unfold Addr.add; split <;> simp [*]
theorem cells_of {a : Addr} {m : Nat} {cs : List Value} (h : w.cells? base a m = some cs) (h0 : 0 < m) : ∃ cells t fr, w.heap[a.block]? = some (.cells cells t fr) ∧ a.spot = none ∧ cs.length = m ∧ ∀ j, j < m → cells[a.off + j]? = cs[j]? := by
  obtain ⟨_, h1, h2⟩ := World.cells?_some h
  have hs : ∀ j, j < m → ∃ v, cs[j]? = some v := fun j hj => ⟨_, List.getElem?_eq_getElem (by rw [h1]; exact hj)⟩
  obtain ⟨v, hv⟩ := hs 0 h0
  obtain ⟨cells, t, fr, hb, hsp, _⟩ := cell_blk ((h2 0 h0).trans hv)
  refine ⟨cells, t, fr, hb, by simpa [Addr.add] using hsp, h1, fun j hj => ?_⟩
  obtain ⟨u, hu⟩ := hs j hj
  obtain ⟨c2, t2, f2, hb2, _, h3⟩ := cell_blk ((h2 j hj).trans hu)
  rw [add_block] at hb hb2
  rw [hb] at hb2
  cases hb2
  rw [hu]
  rw [add_off] at h3
  exact h3
theorem op_rows {t e : TypeId} {m : Nat} {S : List Seg → Prop} (ht : P.underlying t = some (.slice e)) (hct : P.cellsOf t = 1) (h0 : 0 < m) (he : Op enc P w base spare held e m S) : Op enc P w base spare held t 1 (shRows m S) :=
  ⟨hct, fun fuel cs x hx => by
    rcases DataW.trod_slice ht hx with ⟨rfl, _⟩ | ⟨a, len, cap, elems, rest, n, _, rfl, _, _, hl, hm, hel, hall, _, _⟩
    · refine ⟨_, ⟨0, fun _ => [], Nat.zero_le _, fun i hi => absurd hi (Nat.not_lt_zero i), rfl⟩, rfl, fun i y hy => ?_⟩
      obtain ⟨rfl, rfl⟩ := atS_one1 hy
      exact ⟨_, rfl, .inl ⟨rfl, _, _, rfl⟩, rfl⟩
    · have each : ∀ i, i < len → ∃ segs cs, S segs ∧ sizeS segs = m ∧ RowRep (rhoW w) segs (fun j => cs[j]?) ∧ w.cells? base (a.add (i * m)) m = some cs := fun i hi => by
        have h1 := hall i hi
        rw [he.1] at h1
        obtain ⟨y, hy⟩ : ∃ y, elems[i]? = some y := ⟨_, List.getElem?_eq_getElem (by rw [hel]; exact hi)⟩
        rw [hy] at h1
        obtain ⟨cs, c1, c2⟩ := Option.bind_eq_some_iff.1 h1
        obtain ⟨segs, s1, s2, s3⟩ := he.2 _ _ _ c2
        exact ⟨segs, cs, s1, s2, s3, c1⟩
      obtain ⟨rows, hrows⟩ : ∃ rows : Nat → List Seg, ∀ i, i < len → ∃ cs, S (rows i) ∧ sizeS (rows i) = m ∧ RowRep (rhoW w) (rows i) (fun j => cs[j]?) ∧ w.cells? base (a.add (i * m)) m = some cs := by
        refine ⟨fun i => if hi : i < len then Classical.choose (each i hi) else [], fun i hi => ?_⟩
        simp only [hi, dif_pos]
        exact Classical.choose_spec (each i hi)
      refine ⟨_, ⟨len, rows, by omega, fun i hi => by obtain ⟨_, h1, h2, _⟩ := hrows i hi; exact ⟨h1, h2⟩, rfl⟩, rfl, fun i y hy => ?_⟩
      obtain ⟨rfl, rfl⟩ := atS_one1 hy
      refine ⟨_, rfl, ?_, rfl⟩
      by_cases hz : len = 0
      · exact .inl ⟨hz, some a, cap, by rw [hz]⟩
      · obtain ⟨cs0, _, _, _, c0⟩ := hrows 0 (by omega)
        obtain ⟨cells, tt, fr, hb, hsp, _, _⟩ := cells_of c0 h0
        have ha : a = ⟨a.block, a.off, none⟩ := by
          have : a.spot = none := by simpa [Addr.add] using hsp
          cases a; simp_all
        rw [add_block] at hb
        refine .inr ⟨a.block, a.off, cap, cells, by rw [← ha], hl, rhoW_fz hb, fun i j hi hj => ?_⟩
        obtain ⟨cs1, _, s2, s3, c1⟩ := hrows i hi
        obtain ⟨c2, t2, f2, hb2, _, hcl, hce⟩ := cells_of c1 h0
        rw [add_block] at hb2
        rw [hb] at hb2
        cases hb2
        obtain ⟨z, hz'⟩ := atS_some (l := rows i) (i := j) (by rw [s2]; exact hj)
        obtain ⟨u, hu, hc⟩ := s3 j z hz'
        refine ⟨u, ?_, ?_, hc.2⟩
        · have := hce j hj
          have hu : cs1[j]? = some u := hu
          rw [hu] at this
          have e : (a.add (i * m)).off = a.off + i * m := add_off _ _
          rw [e] at this
          rw [← this, Nat.add_assoc]
        · unfold rowsF cellsF
          rw [hz']
          exact hc.1⟩
theorem op_ints {t e : TypeId} {k : IntKind} (ht : P.underlying t = some (.slice e)) (he : P.underlying e = some (.int k)) (hc : P.cellsOf e = 1) (hct : P.cellsOf t = 1) : Op enc P w base spare held t 1 (shInts k) :=
  ⟨hct, fun fuel cs x hx => by
    obtain ⟨segs, ⟨n, rows, hn, hrows, rfl⟩, _, hr⟩ := (op_rows ht hct (by omega) (op_int he hc)).2 fuel cs x hx
    have hz : ∀ i, i < n → ∃ z, (Lit.int k z).wf = true ∧ rows i = [.one (.int k z)] := fun i hi => (hrows i hi).1
    obtain ⟨f, hf⟩ : ∃ f : Nat → Int, ∀ i, i < n → (Lit.int k (f i)).wf = true ∧ rows i = [.one (.int k (f i))] := by
      refine ⟨fun i => if hi : i < n then Classical.choose (hz i hi) else 0, fun i hi => ?_⟩
      simp only [hi, dif_pos]
      exact Classical.choose_spec (hz i hi)
    have hlen : ((List.range n).map f).length = n := by simp
    refine ⟨_, ⟨(List.range n).map f, by rw [hlen]; exact hn, fun y hy => ?_, rfl⟩, rfl, fun i y hy => ?_⟩
    · obtain ⟨i, hi, rfl⟩ := List.mem_map.1 hy
      exact (hf i (by simpa using hi)).1
    · obtain ⟨rfl, rfl⟩ := atS_one1 hy
      obtain ⟨v, hv, hc⟩ := hr 0 _ rfl
      refine ⟨v, hv, ?_, hc.2⟩
      rcases hc.1 with ⟨rfl, a, c, rfl⟩ | ⟨b, o, c, cs, rfl, h1, h2, h3⟩
      · exact .inl ⟨rfl, a, c, rfl⟩
      · refine .inr ⟨b, o, c, cs, by rw [hlen], by rw [hlen]; exact h1, h2, fun i hi => ?_⟩
        rw [hlen] at hi
        obtain ⟨u, e1, e2, _⟩ := h3 i 0 hi (by omega)
        rw [Nat.mul_one, Nat.add_zero] at e1
        rw [e1]
        unfold rowsF cellsF at e2
        rw [(hf i hi).2] at e2
        have e2 : u = .int k (f i) := e2
        rw [e2]
        simp [List.getD_eq_getElem?_getD, hi]⟩
theorem arg_agg {r : Reach} {b0 : Nat} {t : TypeId} {n : Nat} {S : List Seg → Prop} {v : Value} {d : DataW Hh} {ps : List MemPlace} (ho : Op enc P w base spare held t n S) (ht : (∃ fs, P.underlying t = some (.struct fs)) ∨ ∃ m e, P.underlying t = some (.array m e)) (hval : Value.okWide P w r b0 t v) (hd : DataW.Trod enc P w base spare held t v d ps) : ∃ segs, S segs ∧ (AV.agg segs).rep (rhoW w) v := by
  have hv : ∃ cs, v = .agg cs ∧ cs.size = P.cellsOf t := by
    rcases ht with ⟨fs, ht⟩ | ⟨m, e, ht⟩
    · simp only [Value.okWide, ht] at hval
      obtain ⟨cs, rfl, hs, _⟩ := hval
      exact ⟨cs, rfl, hs⟩
    · simp only [Value.okWide, ht] at hval
      obtain ⟨cs, rfl, hs, _⟩ := hval
      exact ⟨cs, rfl, hs⟩
  obtain ⟨cs, rfl, hs⟩ := hv
  obtain ⟨fuel, hf⟩ := hd
  obtain ⟨segs, s1, s2, s3⟩ := ho.2 _ _ _ hf
  refine ⟨segs, s1, cs, rfl, by rw [hs, ho.1, s2], fun i x hx => ?_⟩
  obtain ⟨u, hu, hc⟩ := s3 i x hx
  exact ⟨u, by simpa [Value.cells] using hu, hc⟩
end
theorem args_nil {ρ : Rho} : ArgsRep ρ [] #[] := ⟨rfl, fun i x h => by simp at h⟩
theorem args_cons {ρ : Rho} {a : AV} {av : List AV} {u : Value} {us : List Value} (h : a.rep ρ u) (k : ArgsRep ρ av us.toArray) : ArgsRep ρ (a :: av) (u :: us).toArray := by
  obtain ⟨k1, k2⟩ := k
  refine ⟨by simpa using k1, fun i x hx => ?_⟩
  cases i with
  | zero => simp at hx; subst hx; simpa using h
  | succ i =>
    have := k2 i x (by simpa using hx)
    simpa [Array.getD_eq_getD_getElem?] using this
theorem wf_getD {k : IntKind} {l : List Int} (h : ∀ y ∈ l, (Lit.int k y).wf = true) (i : Nat) : (Lit.int k (l.getD i 0)).wf = true := by
  by_cases hi : i < l.length
  · rw [List.getD_eq_getElem?_getD, List.getElem?_eq_getElem hi]; exact h _ (List.getElem_mem _)
  · rw [List.getD_eq_getElem?_getD, List.getElem?_eq_none (by omega)]; cases k <;> rfl
theorem nats_of {l : List Int} (h : ∀ i, 0 ≤ l.getD i 0) : ∃ m : List Nat, l = zs m ∧ ∀ i, ((m.getD i 0 : Nat) : Int) = l.getD i 0 := by
  have e : l = zs (l.map Int.toNat) := by
    apply List.ext_getElem (by simp [zs])
    intro i h1 h2
    have := h i
    rw [List.getD_eq_getElem?_getD, List.getElem?_eq_getElem h1] at this
    simp [zs] at this ⊢
    omega
  exact ⟨_, e, fun i => by conv => rhs; rw [e]
                           rw [zs_getD]⟩
end Go.Bx
end

section
/- How long what comes in is. No program. -/
namespace Go.Bx
section
open Go.ChangeShapes
variable {Hh : Type} {enc : TypeId × Value → Hh} {P : Program} {w : World} {base : Nat} {spare : Nat → Bool} {held : Bool}
end
end Go.Bx
end

section
/- A string's bytes, one by one. No program. -/
namespace Go.Bx
section
variable {P : Program} {T : Tm} {H : Heap} {d : Option Tmp} {ty : TypeId} {pos : String} {af : Array Edge} {g : Option (Nat × Bool)}
end
end Go.Bx
end

section
/- Function values that catch no numbers; methods bound to what is literal. No program. -/
namespace Go.Bx
section
variable {P : Program} {T : Tm} {H : Heap} {d : Option Tmp} {ty : TypeId} {pos : String} {af : Array Edge} {g : Option (Nat × Bool)}
def numS : List Seg → Bool
  | [] => true
  | .ints .. :: r => numS r
  | _ => false
def valOf (l : List Seg) : Value := match litVS l with | some c => .agg c.toArray | none => .nilIface
end
end Go.Bx
end

section
/- What grows by noughts; what has grown, cut. No program. -/
namespace Go.Bx
section
variable {P : Program} {T : Tm} {H : Heap} {d : Option Tmp} {ty : TypeId} {pos : String} {af : Array Edge} {g : Option (Nat × Bool)}
theorem l_slg {t e : TypeId} {x : Operand} {hi mx : Option Operand} {id wd len h sz : Nat} (hx : ev T x = .s (.gro id wd len)) (hhi : Bnd T hi len h) (hmx : mx = none ∨ ∃ m, (∃ y, mx = some y ∧ ∃ k q, ev T y = .s (.int k q) ∧ q = ((m : Nat) : Int)) ∧ h ≤ m ∧ m ≤ len) (hho : (mx.isSome && hi.isNone) = false)
    (hu : P.underlying t = some (.slice e)) (hs : ∀ w, (sizeOf e).run P w = .ok sz w) (h2 : h ≤ len) :
    LOk P ⟨d, .slice t x none hi mx, ty, pos, af, g⟩ T H H (.s (.gro id wd h)) [] [] :=
  lok_pure fun ρ a w ho => by
    obtain ⟨k1, k2⟩ := slice_ops ho
    rw [hx] at k1
    obtain ⟨ad, cap, hev, hcap, hz⟩ : ∃ ad cap, a.eval x = .slice ad len cap ∧ len ≤ cap ∧ ((len = 0 ∧ ad = none ∧ cap = 0) ∨ ∃ b o n, ρ.m id = some (b, o) ∧ ad = some ⟨b, o, none⟩ ∧ ρ.sz b = some n ∧ o + cap * wd ≤ n) := by
      rcases k1 with ⟨e1, e2⟩ | ⟨b, o, c, n, e1, e2, e3, e4, e5⟩
      · exact ⟨none, 0, by rw [e2, e1], by omega, .inl ⟨e1, rfl, rfl⟩⟩
      · exact ⟨_, c, e2, e3, .inr ⟨b, o, n, e1, rfl, e4, e5⟩⟩
    obtain ⟨m, hm1, hm2, hm3⟩ : ∃ m, Bnd T mx cap m ∧ h ≤ m ∧ m ≤ cap := by
      rcases hmx with rfl | ⟨m, ⟨y, rfl, k', q, e1, e2⟩, e3, e4⟩
      · exact ⟨cap, rfl, by omega, Nat.le_refl _⟩
      · exact ⟨m, ⟨k', q, e1, e2⟩, e3, by omega⟩
    have hb := run_bounds (P := P) (b := true) (w := w) (lo := none) (l := 0) rfl hhi hm1 (fun e => by cases hi <;> simp_all) k2 (Nat.zero_le _) hm2 hm3
    have hr2 := run_slice (ad := ad) hu hs hb
    refine ⟨_, by rw [exec_slice, hev, sliceAt_sl hu, hr2]; rfl, ?_⟩
    rcases hz with ⟨rfl, rfl, rfl⟩ | ⟨b, o, n, e1, rfl, e4, e5⟩
    · refine .inl ⟨by omega, ?_⟩
      have h3 : h = 0 := by omega
      have h4 : m = 0 := by omega
      subst h3; subst h4
      simp
    · refine .inr ⟨b, o, m, n, e1, ?_, hm2, e4, ?_⟩
      · split <;> simp [addr_add]
      · have := Nat.mul_le_mul_right wd hm3
        omega
theorem k_slg (h : Nat) {t e : TypeId} {x y : Operand} {id wd len sz : Nat} {k : IntKind} {z : Int} [hu : Und P t (.slice e)] [hs : Sz P e sz] (hx : ev T x = .s (.gro id wd len) := by rfl) (hy : ev T y = .s (.int k z) := by rfl) (hz : z = (h : Int) := by rfl) (h2 : h ≤ len := by omega) :
    LOk P ⟨d, .slice t x none (some y) none, ty, pos, af, g⟩ T H H (.s (.gro id wd h)) [] [] := l_slg hx ⟨k, z, hy, hz⟩ (.inl rfl) rfl hu.h hs.h h2
theorem Joins.intsT {k : IntKind} {n m q : Nat} {l l2 : List Int} (h : l.length = q) (hn : n ≤ q) : Joins [.ints k q l] n [.ints k m l2] m [.ints k (n + m) (l.take n ++ l2)] := by
  obtain ⟨h1, h2⟩ := Joins.ints (k := k) (m := m) (q := n) (l2 := l2) (show (l.take n).length = n by rw [List.length_take]; omega) (Nat.le_refl n)
  refine ⟨h1, fun i y hy => ⟨fun hi => ?_, (h2 i y hy).2⟩⟩
  obtain ⟨z, hz, he⟩ := (h2 i y hy).1 hi
  obtain ⟨hi1, rfl⟩ := atS_ints1 hz
  refine ⟨_, ?_, he⟩
  have hs : (Seg.ints k q l).size = q := rfl
  simp only [atS]
  rw [if_pos (by rw [hs]; omega)]
  show some (SV.int k (l.getD i 0)) = some (SV.int k ((l.take n).getD i 0))
  rw [List.getD_eq_getElem?_getD, List.getD_eq_getElem?_getD, List.getElem?_take_of_lt hi]
theorem k_apg {x y : Operand} {t tx e rt : TypeId} {id n c n0 q : Nat} {k : IntKind} {l l2 l' : List Int} {inf : TypeInfo} {z : Value} {H' : Heap} [hu : Und P t (.slice e)] [hux : Und P tx (.slice e)] [hi : Inf P e inf] [hN : LenN H n0] (hx : ev T x = .s (.gro id 1 n) := by rfl) (hy : ev T y = .s (.fzi k l2) := by rfl) (hb : hget H id = some ⟨true, [.ints k q l]⟩ := by rfl) (hl : l.length = q := by first | assumption | omega | simp [*]) (hsz : inf.size = 1 := by exact rfl) (hz : inf.zero = some z := by exact rfl) (hzs : z.cells.size = 1 := by exact rfl) (hq : n ≤ q := by omega) (hc : n + l2.length = c := by rfl) (hl' : l.take n ++ l2 = l' := by rfl) (hbig : n + l2.length ≤ 1000000 := by omega) (hbb : Nat.ble (1000000 * inf.bytes) 140737488355328 = true := by exact rfl) (hb1 : 0 < inf.bytes := by exact Nat.le_of_ble_eq_true rfl) (hH : H.set id none ++ [some (Blk.mk true [.ints k c l'])] = H' := by exact rfl) :
    LOk P ⟨d, .call ⟨.builtin .append, #[x, y], #[t, tx]⟩, rt, pos, af, g⟩ T H H' (.s (.gro n0 1 c)) [id] [id] := by
  subst hc; subst hl'
  refine a_app (sub := [.ints k l2.length l2]) hx hy hb hsz hz hzs (asrc_fzi hux.h) (by simp [sizeS, Seg.size]; omega) ?_ (big_ok hbig hbb) hb1 (fun _ h => by cases h) hN.h hH
  rw [Nat.mul_one, Nat.mul_one]
  exact .intsT hl hq
end
end Go.Bx
end

section
/- Rows made, copied into rows, put behind rows where there is room. No program. -/
namespace Go.Bx
theorem atS_rows1 {c : Nat} {g : Nat → Nat → SV} {j : Nat} {y : SV} (h : atS [.rows c 1 g] j = some y) : j < c ∧ y = .noid (g j 0) := by
  have hs : (Seg.rows c 1 g).size = c * 1 := rfl
  simp only [atS] at h
  rw [hs, Nat.mul_one] at h
  by_cases hj : j < c
  · rw [if_pos hj] at h
    have h := Option.some.inj h
    simp only [Seg.at, Nat.div_one, Nat.mod_one] at h
    exact ⟨hj, h.symm⟩
  · rw [if_neg hj] at h; cases h
theorem rows1_at {c : Nat} (g : Nat → Nat → SV) {j : Nat} (h : j < c) : atS [.rows c 1 g] j = some (.noid (g j 0)) := by
  have hs : (Seg.rows c 1 g).size = c * 1 := rfl
  simp only [atS]
  rw [hs, Nat.mul_one, if_pos h]
  simp only [Seg.at, Nat.div_one, Nat.mod_one]
theorem PutS.rows {m p c : Nat} {g g2 g' : Nat → Nat → SV} (h0 : 0 < m) (hc : p + m ≤ c) (hg : ∀ i, i < m → g' (p + i) 0 = g2 i 0) (hg2 : ∀ i, ¬(p ≤ i ∧ i < p + m) → i < c → g' i 0 = g i 0) : PutS [.rows c 1 g] p m [.rows m 1 g2] [.rows c 1 g'] := by
  refine ⟨⟨h0, by simpa [sizeS, Seg.size] using hc⟩, fun j y hy => ?_⟩
  obtain ⟨hj, rfl⟩ := atS_rows1 hy
  split
  · rename_i h
    rw [rows1_at g2 (show j - p < m by omega), ← hg (j - p) (by omega), show p + (j - p) = j by omega]
  · rename_i h
    rw [rows1_at g hj, hg2 j h hj]
section
variable {P : Program} {T : Tm} {H : Heap} {d : Option Tmp} {ty : TypeId} {pos : String} {af : Array Edge} {g : Option (Nat × Bool)}
end
end Go.Bx
end

section
/- Slices compared with nil; what is empty, nil or not. No program. -/
namespace Go.Bx
section
variable {P : Program} {T : Tm} {H : Heap} {d : Option Tmp} {ty : TypeId} {pos : String} {af : Array Edge} {g : Option (Nat × Bool)}
end
end Go.Bx
end

section
/- Empty slices, made and put behind. No program. -/
namespace Go.Bx
section
variable {P : Program} {T : Tm} {H : Heap} {d : Option Tmp} {ty : TypeId} {pos : String} {af : Array Edge} {g : Option (Nat × Bool)}
end
end Go.Bx
end

section
/- A full slice of integers, and integers behind it: a new row. No program. -/
namespace Go.Bx
section
variable {P : Program} {T : Tm} {H : Heap} {d : Option Tmp} {ty : TypeId} {pos : String} {af : Array Edge} {g : Option (Nat × Bool)}
theorem l_apf {x y : Operand} {t tx e rt : TypeId} {id base idx len n0 : Nat} {k : IntKind} {segs : List Seg} {l l2 : List Int} {inf : TypeInfo} {H' : Heap} (hx : ev T x = .s (.slice id base idx len len)) (hy : ev T y = .s (.fzi k l2)) (hb : hget H id = some ⟨true, segs⟩) (hsub : SubS segs (base + idx) (len * 1) [.ints k len l]) (hl : l.length = len)
    (hu : P.underlying t = some (.slice e)) (htn : P.underlying tx = some (.slice e)) (hi : P.info? e = some inf) (hsz : inf.size = 1) (hz : inf.zero = some (.int k 0)) (h0 : 0 < l2.length) (hbig : (len + l2.length) * inf.bytes ≤ 140737488355328) (hb1 : 0 < inf.bytes) (hn : H.length = n0) (hH : H ++ [some (Blk.mk true [.ints k (len + l2.length) (l ++ l2)])] = H') :
    LOk P ⟨d, .call ⟨.builtin .append, #[x, y], #[t, tx]⟩, rt, pos, af, g⟩ T H H' (.s (.gro n0 1 (len + l2.length))) [id] [] := by
  subst hH
  have hlt := hget_lt hb
  refine lok_new [id] (fun j h => by simp at h; subst h; exact hlt) fun H0 hl0 hg0 => ?_
  subst hn
  intro W ρ a w hH hf hW ho next Q hq
  have k1 : (ev T x).rep ρ (a.eval x) := ho x (by simp [Op.operands, Call.operands])
  have k2 : (ev T y).rep ρ (a.eval y) := ho y (by simp [Op.operands, Call.operands])
  rw [hx] at k1
  rw [hy] at k2
  obtain ⟨_, hsrc⟩ := asrc_sl (P := P) (cap := len) hu (id := id) (H := H) (base := base) (idx := idx) (n := len) (size := 1) hb hsub
  obtain ⟨olds, hS0, hnr0, _⟩ := hsrc _ W ρ w _ (fun j hj => hg0 j hj) hH k1
  obtain ⟨news, hS, hnr, _⟩ := (asrc_fzi (P := P) (H := H) (k := k) (l := l2) htn).2 _ W ρ w _ (fun _ h => by cases h) hH k2
  obtain ⟨b, o, hρ, hev⟩ := k1
  have hol : olds.length = len := by have := hS0.newsLen; omega
  have hnl : news.length = l2.length := by have := hS.newsLen; omega
  have hold := hS0.cellsD
  rw [hev] at hold
  have h63 : ((len + l2.length : Nat) : Int) ≤ 9223372036854775807 := by
    have : len + l2.length ≤ (len + l2.length) * inf.bytes := Nat.le_mul_of_pos_right _ hb1
    omega
  have hS' : Src P inf.size tx (a.eval y) l2.length news w := by rw [hsz]; exact hS
  have hr := run_append_grow_src (P := P) w t tx rt e inf (.int k 0) hu hi hz (some ⟨b, o + base + idx, none⟩) len len olds (by rw [hsz]; exact hold) _ l2.length news hS' (by omega) h63 (growslice_fits (by omega) hbig)
  generalize hcap : grownCap w (len + l2.length) len e = cap at hr
  have hcap' : len + l2.length ≤ cap := hcap ▸ grownCap_ge w _ _ _
  have hrun : (execOp a.eval ⟨d, .call ⟨.builtin .append, #[x, y], #[t, tx]⟩, rt, pos, af, g⟩).run P w = .ok (.value (.slice (some ⟨w.heap.size, 0, none⟩) (len + l2.length) cap)) (w.drew.alloc (.cells ((olds ++ news).toArray ++ Builtin.zeroCells (Value.int k 0).cells (cap - (len + l2.length))) e)) := by
    simp only [execOp, resolve, invoke, builtin, List.map_toArray, List.map_cons, List.map_nil, hev]
    simp [Sem.run_bind, hr]
  rw [hrun]
  generalize hcells : (olds ++ news).toArray ++ Builtin.zeroCells (Value.int k 0).cells (cap - (len + l2.length)) = cells
  have hHd : HRep W ρ (hget H0) w.drew := hH.ext (.drew w)
  have hsize : cells.size = cap := by
    rw [← hcells]; simp [Builtin.zeroCells, hnl, hol, Value.cells]; omega
  obtain ⟨ρ', k3, k4, k5⟩ := nx_alloc (t := e) (w := w.drew) (H0 := H0) (cells := cells) (segs := [.ints k (len + l2.length) (l ++ l2)]) hHd (hf _ (Nat.le_refl _) (by simp)) (fun b hb => hW b hb) (fun ρ' hle i z hz => by
    obtain ⟨hi2, rfl⟩ := atS_ints1 hz
    have hcell : ∀ v, (olds ++ news)[i]? = some v → cells[i]? = some v := fun v hv => by
      have hi' := (List.getElem?_eq_some_iff.1 hv).1
      rw [← hcells, Array.getElem?_append_left (by simpa using hi')]
      simpa using hv
    rcases Nat.lt_or_ge i len with h | h
    · obtain ⟨v, hv, hc⟩ := hnr0 i (.int k (l.getD i 0)) (by simp [atS, Seg.size, Seg.at, h])
      have hv' : v = .int k (l.getD i 0) := hc.1
      subst hv'
      refine ⟨.int k (l.getD i 0), hcell _ (by rw [List.getElem?_append_left (by omega)]; exact hv), ?_, rfl⟩
      show _ = _
      rw [List.getD_eq_getElem?_getD, List.getD_eq_getElem?_getD, List.getElem?_append_left (by omega)]
    · obtain ⟨v, hv, hc⟩ := hnr (i - len) (.int k (l2.getD (i - len) 0)) (by simp only [atS]; rw [if_pos (by show i - len < l2.length; omega)]; rfl)
      have hv' : v = .int k (l2.getD (i - len) 0) := hc.1
      subst hv'
      refine ⟨.int k (l2.getD (i - len) 0), hcell _ (by rw [List.getElem?_append_right (by omega), hol]; exact hv), ?_, rfl⟩
      show _ = _
      rw [List.getD_eq_getElem?_getD, List.getD_eq_getElem?_getD, List.getElem?_append_right (by omega), hl])
  refine hq _ _ ⟨ρ', W, ?_, .inr ⟨w.heap.size, 0, cap, cells.size, ?_, rfl, hcap', k5, by rw [hsize]; omega⟩⟩
  · exact ⟨k3.le, k3.old, k3.rep, ((Ext.drew w).fr W).trans k3.fr, k3.sub, k3.fresh, k3.fzn⟩
  · rw [← hl0]; exact k4
theorem k_apf {x y : Operand} {t tx e rt : TypeId} {id len c n0 : Nat} {k : IntKind} {l l2 l' : List Int} {inf : TypeInfo} {H' : Heap} [hu : Und P t (.slice e)] [htn : Und P tx (.slice e)] [hi : Inf P e inf] [hN : LenN H n0] (hx : ev T x = .s (.slice id 0 0 len len) := by rfl) (hy : ev T y = .s (.fzi k l2) := by rfl) (hb : hget H id = some ⟨true, [.ints k len l]⟩ := by rfl) (hl : l.length = len := by first | assumption | omega | simp [*]) (hsz : inf.size = 1 := by exact rfl) (hz : inf.zero = some (.int k 0) := by exact rfl) (h0 : 0 < l2.length := by omega) (hc : len + l2.length = c := by rfl) (hl' : l ++ l2 = l' := by rfl) (hbig : len + l2.length ≤ 1000000 := by omega) (hbb : Nat.ble (1000000 * inf.bytes) 140737488355328 = true := by exact rfl) (hb1 : 0 < inf.bytes := by exact Nat.le_of_ble_eq_true rfl) (hH : H ++ [some (Blk.mk true [.ints k c l'])] = H' := by repeat (first | exact happ_0 | apply happ_s)) :
    LOk P ⟨d, .call ⟨.builtin .append, #[x, y], #[t, tx]⟩, rt, pos, af, g⟩ T H H' (.s (.gro n0 1 c)) [id] [] := by
  subst hc; subst hl'
  exact l_apf hx hy hb (by rw [Nat.mul_one]; exact .whole (by simp [sizeS, Seg.size])) hl hu.h htn.h hi.h hsz hz h0 (big_ok hbig hbb) hb1 hN.h hH
end
end Go.Bx
end

section
/- Plain function values, told as closures that catch nothing. No program. -/
namespace Go.Bx
end Go.Bx
end

section
/- Rows of several cells that may be written: made, put behind, copied, cleared, set; their overlaps. No program. -/
namespace Go.Bx
section
variable {P : Program} {T : Tm} {H : Heap} {d : Option Tmp} {ty : TypeId} {pos : String} {af : Array Edge} {g : Option (Nat × Bool)}
end
end Go.Bx
end

section
/- Rows built to be written; one of their cells set; frozen; two rows' overlaps. No program. -/
namespace Go.Bx
section
variable {E : Env} {P : Program} {T : Tm} {H : Heap} {d : Option Tmp} {ty : TypeId} {pos : String} {af : Array Edge} {g : Option (Nat × Bool)}
end
end Go.Bx
end

section
/- Rows put behind rows out of other memory; a struct's field. No program. -/
namespace Go.Bx
section
variable {P : Program} {T : Tm} {H : Heap} {d : Option Tmp} {ty : TypeId} {pos : String} {af : Array Edge} {g : Option (Nat × Bool)}
end
end Go.Bx
end

section
/- Noughts behind what has grown. No program. -/
namespace Go.Bx
section
variable {P : Program} {T : Tm} {H : Heap} {d : Option Tmp} {ty : TypeId} {pos : String} {af : Array Edge} {g : Option (Nat × Bool)}
end
end Go.Bx
end

section
/- Noughts made, as values; noughts behind nothing. No program. -/
namespace Go.Bx
section
variable {P : Program} {T : Tm} {H : Heap} {d : Option Tmp} {ty : TypeId} {pos : String} {af : Array Edge} {g : Option (Nat × Bool)}
theorem k_mkF {t e : TypeId} {x y : Operand} {c : Nat} {k k1 k2 : IntKind} {m1 m2 : Int} {inf : TypeInfo} {H' : Heap} [hu : Und P t (.slice e)] [hi : Inf P e inf] [hm1 : IsN m1 c] [hm2 : IsN m2 c] (hx : ev T x = .s (.int k1 m1) := by rfl) (hy : ev T y = .s (.int k2 m2) := by rfl) (hs : inf.size = 1 := by exact rfl) (hz : inf.zero = some (.int k 0) := by exact rfl) (hc2 : c ≤ 1000000 := by omega) (hbb : Nat.ble (inf.bytes * 1000000) 281474976710656 = true := by exact rfl) (hH : H ++ [none] = H' := by repeat (first | exact happ_0 | apply happ_s)) :
    LOk P ⟨d, .makeSlice t x y, ty, pos, af, g⟩ T H H' (.s (.fzi k (List.replicate c 0))) [] [] :=
  lok_val' (a_make hx hy hs hz (Nat.le_refl _) (Nat.le_trans (Nat.mul_le_mul_left _ hc2) (Nat.le_of_ble_eq_true hbb)) (by omega) rfl rfl) (conv_sl (k := ⟨false, [.ints k c (List.replicate c 0)]⟩) (n := c) (hget_last _ _) rfl rfl (by omega) (Nat.le_refl _) (by simp) (by simp)) hH
end
theorem weak_row {E : Env} {T : Tm} {H H' : Heap} (id : Nat) {b : Bool} {segs segs' : List Seg} (hb : hget H id = some ⟨b, segs⟩) (h : ∀ (ρ : Rho) (get : Nat → Option Value), RowRep ρ segs get → RowRep ρ segs' get) (hH : H.set id (some ⟨b, segs'⟩) = H') : Weak E T H T H' := by
  subst hH
  have hlt := hget_lt hb
  rintro a w ⟨ρ, W, p, hno, hT, hE⟩
  have hg : ∀ j k, hget (H.set id (some ⟨b, segs'⟩)) j = some k → ∃ k0, hget H j = some k0 ∧ k.rw = k0.rw ∧ (∀ o b', BRep ρ k0 w b' o → BRep ρ k w b' o) := by
    intro j k hk
    rw [hget_set hlt] at hk
    by_cases hj : j = id
    · subst hj
      rw [if_pos rfl] at hk
      cases hk
      refine ⟨_, hb, rfl, ?_⟩
      rintro o b' ⟨cells, t, fr, h1, h2, h3, h4⟩
      exact ⟨cells, t, fr, h1, h2, h3, h ρ _ h4⟩
    · rw [if_neg hj] at hk
      exact ⟨k, hk, rfl, fun _ _ h => h⟩
  refine ⟨ρ, W, ⟨p.le, ⟨p.rep.lt, fun j b' o k e1 e2 => ?_, fun j j' b' o o' k k' hne e1 e2 e3 e4 => ?_, p.rep.fz, p.rep.sz⟩, p.size, p.defs, p.fr, p.sub, p.fresh, p.fzn, p.old⟩, fun j hj => hno j (by simpa using hj), hT, by simpa using hE⟩
  · obtain ⟨k0, h1, h2, h3⟩ := hg j k e2
    have := p.rep.rep j b' o k0 e1 h1
    exact ⟨h3 _ _ this.1, fun e => this.2 (h2 ▸ e)⟩
  · obtain ⟨k0, h1, h2, _⟩ := hg j k e3
    obtain ⟨k1, h1', h2', _⟩ := hg j' k' e4
    have := p.rep.apart j j' b' o o' k0 k1 hne e1 e2 h1 h1'
    exact ⟨h2.trans this.1, h2'.trans this.2⟩
theorem row_take {k : IntKind} {q n : Nat} {l l' : List Int} (h : l.take n = l') (hn : n ≤ q) {ρ : Rho} {get : Nat → Option Value} (hr : RowRep ρ [.ints k q l] get) : RowRep ρ [.ints k n l'] get := fun i x hx => by
  obtain ⟨hi, rfl⟩ := atS_ints1 hx
  obtain ⟨v, hv, hc⟩ := hr i (.int k (l.getD i 0)) (by simp [atS, Seg.size, Seg.at]; omega)
  refine ⟨v, hv, ?_⟩
  have : l'.getD i 0 = l.getD i 0 := by
    rw [← h, List.getD_eq_getElem?_getD, List.getD_eq_getElem?_getD, List.getElem?_take_of_lt hi]
  rw [this]; exact hc
end Go.Bx
end

section
/- What comes in, told as values: with the bounds that its size gives. No program. -/
namespace Go.Bx
open Go.ChangeShapes Go.WideShapes
section
variable {Hh : Type} {enc : TypeId × Value → Hh} {P : Program} {w : World} {base : Nat} {spare : Nat → Bool} {held : Bool}
def OpZ (enc : TypeId × Value → Hh) (P : Program) (w : World) (base : Nat) (spare : Nat → Bool) (held : Bool) (t : TypeId) (n : Nat) (S : List Seg → Prop) : Prop :=
  P.cellsOf t = n ∧ ∀ (fuel : Nat) (cs : List Value) (x : DataW Hh × List MemPlace), DataW.trod enc P w base spare held fuel t cs = some x → (∀ q ∈ x.1.weights P t, q ≤ reachBytes) → ∃ segs, S segs ∧ sizeS segs = n ∧ RowRep (rhoW w) segs (fun i => cs[i]?)
theorem Op.z {t : TypeId} {n : Nat} {S : List Seg → Prop} (h : Op enc P w base spare held t n S) : OpZ enc P w base spare held t n S := ⟨h.1, fun fuel cs x hx _ => h.2 fuel cs x hx⟩
def mxB : Nat := 140737488351232
def shIntsZ (k : IntKind) : List Seg → Prop := fun s => ∃ l : List Int, l.length ≤ mxB ∧ (∀ y ∈ l, (Lit.int k y).wf = true) ∧ s = [.one (.fzi k l)]
def shRowsZ (wd : Nat) (S : List Seg → Prop) : List Seg → Prop := fun s => ∃ (n : Nat) (rows : Nat → List Seg), n ≤ mxB ∧ (∀ i, i < n → S (rows i) ∧ sizeS (rows i) = wd) ∧ s = [.one (.fz n wd (rowsF rows))]
end
end Go.Bx
end

section
/- A scope in which the run jumps back to one label. No program. -/
namespace Go.Bx
def Jmp (l : Nat) (J : Tm → Heap → Prop) (Q : Exit → Tm → Heap → Prop) : Exit → Tm → Heap → Prop
  | .goto l', T, H => l' = l ∧ J T H
  | e, T, H => Q e T H
section
variable {E : Env} {T : Tm} {H : Heap} {Q : Exit → Tm → Heap → Prop} {J K : Tm → Heap → Prop} {l : Nat}
open Classical in
end
section
variable {P : Program} {T : Tm} {H : Heap} {d : Option Tmp} {ty : TypeId} {pos : String} {af : Array Edge} {g : Option (Nat × Bool)}
end
end Go.Bx
end

section
/- What a function puts off, and does on its way out. No program. -/
namespace Go.Bx
def Off (P : Program) (f : FuncId) (args : List AV) (H H' : Heap) : Prop :=
  ∀ (W : Nat → Prop) (ρ : Rho) (vals : Array Value) (w : World), HRep W ρ (hget H) w → (∀ id, H.length ≤ id → ρ.m id = none) → (∀ b, w.heap.size ≤ b → W b) → ArgsRep ρ args vals →
    CallsDIn Fence.wide 0 P f vals .returning w fun e u w' => u = .returning ∧ (∃ v, e = .returned v) ∧ ∃ ρ' W', Nx H.length H'.length ρ ρ' W W' (hget H') w w' ∧ ∀ id, H'.length ≤ id → ρ'.m id = none
def DoneO (E : Env) (fn : Func) (m : Nat) (fc nc : Nat) (q : Nat → SV) (v : AV) (H' : Heap) : Exit → Tm → Heap → Prop := fun e T H =>
  (e = .ret ∨ e = .normal) ∧ ∃ H3 t v0, H.length ≤ H3.length ∧ Off E.P fc ((List.range nc).map fun i => .s (q i)) H H3 ∧ t < E.n ∧ Ret E.P fn T H3 v0 ∧ ∀ E0 : Env, E0.P = E.P → E0.n = E.n → E0.nE = m → Weak E0 ((t, v0) :: T) H3 [(t, v)] H'
section
variable {P : Program} {T : Tm} {H : Heap} {d : Option Tmp} {ty : TypeId} {pos : String} {af : Array Edge} {g : Option (Nat × Bool)}
end
theorem weak_new {E : Env} {T : Tm} {H H' : Heap} {segs : List Seg} (hH : H ++ [some (Blk.mk true segs)] = H') : Weak E T H T H' := by
  subst hH
  rintro a w ⟨ρ, W, p, hn, hT, hE⟩
  exact ⟨ρ, W, ⟨p.le, p.rep.sub' hn, p.size, p.defs, p.fr, p.sub, p.fresh, p.fzn, p.old⟩, fun id hid => hn id (by simp at hid; omega), hT, by simp; omega⟩
end Go.Bx
end

section
/- Arrays built of structs. -/
open Go
namespace Go.Bx
section
variable {P : Program} {T : Tm} {H : Heap} {d : Option Tmp} {ty : TypeId} {pos : String} {af : Array Edge} {g : Option (Nat × Bool)}
theorem k_bdS {t : TypeId} {places : Array (Nat × Nat)} {parts : Array (Nat × Operand)} {Z : List Seg} (segs : List Seg) [hp : Pl P t places] [hz : Zv P t Z] (hl : (partsOf T parts.toList).all (fun p => p.2.solid) = true := by kernel_rfl) (hs : fillS (places[·]?) Z (partsOf T parts.toList) = some segs := by kernel_rfl) : LOk P ⟨d, .build t parts, ty, pos, af, g⟩ T H H (.agg segs) [] [] :=
  let ⟨_, h1, h2⟩ := hz.h
  let ⟨_, p1, p2⟩ := hp.h
  l_build rfl (partsOf_ok hl) p1 h1 p2 h2 hs
end
end Go.Bx
end

section
/- Structs compared. -/
open Go
namespace Go.Bx
inductive EqF (P : Program) : Nat → List Field → Nat → List Seg → List Seg → Bool → Prop
  | nil {d o : Nat} : EqF P d [] o [] [] true
  | ints {d o n : Nat} {f : Field} {fs : List Field} {k : IntKind} {e : TypeId} {l m : List Int} {X Y : List Seg} {r : Bool} (hnm : (f.name == "_") = false) (ho : f.offset = o) (hu : P.underlying f.type = some (.array n e)) (he : P.underlying e = some (.int k)) (hs : ∀ w, (sizeOf e).run P w = .ok 1 w) (ha : ∀ w, (isAgg e).run P w = .ok false w) (hg : ∀ w, (isAgg f.type).run P w = .ok true w) (hz : ∀ w, (sizeOf f.type).run P w = .ok n w) (hl : l.length = n) (hm : m.length = n) (h : EqF P d fs (o + n) X Y r) :
      EqF P d (f :: fs) o (.ints k n l :: X) (.ints k n m :: Y) (decide (l = m) && r)
  | int {d o : Nat} {f : Field} {fs : List Field} {k k' : IntKind} {a b : Int} {X Y : List Seg} {r : Bool} (hnm : (f.name == "_") = false) (ho : f.offset = o) (hu : P.underlying f.type = some (.int k')) (hg : ∀ w, (isAgg f.type).run P w = .ok false w) (h : EqF P d fs (o + 1) X Y r) :
      EqF P d (f :: fs) o (.one (.int k a) :: X) (.one (.int k b) :: Y) (decide (a = b) && r)
  | str {d o n : Nat} {f : Field} {fs : List Field} {gs : Array Field} {X1 Y1 X Y X' Y' : List Seg} {r1 r : Bool} (hnm : (f.name == "_") = false) (ho : f.offset = o) (hu : P.underlying f.type = some (.struct gs)) (hp : P.stoodInHeld f.type = false) (hg : ∀ w, (isAgg f.type).run P w = .ok true w) (hz : ∀ w, (sizeOf f.type).run P w = .ok n w) (h1 : EqF P d gs.toList 0 X1 Y1 r1) (hX : sizeS X1 = n) (hY : sizeS Y1 = n) (eX : X1 ++ X = X') (eY : Y1 ++ Y = Y') (h : EqF P (d + 1) fs (o + n) X Y r) :
      EqF P (d + 1) (f :: fs) o X' Y' (r1 && r)
def AtC (ρ : Rho) (xs : Array Value) (o : Nat) (X : List Seg) : Prop := ∀ i y, atS X i = some y → ∃ u, xs[o + i]? = some u ∧ y.rep ρ u
theorem AtC.tail {ρ : Rho} {xs : Array Value} {o n : Nat} {s X : List Seg} (hs : sizeS s = n) (h : AtC ρ xs o (s ++ X)) : AtC ρ xs (o + n) X := fun i y hy => by
  obtain ⟨u, h1, h2⟩ := h (n + i) y (by rw [atS_append, hs, if_neg (by omega), Nat.add_sub_cancel_left]; exact hy)
  exact ⟨u, by rw [← h1, Nat.add_assoc], h2⟩
theorem AtC.head {ρ : Rho} {xs : Array Value} {o n : Nat} {s X : List Seg} (hs : sizeS s = n) (h : AtC ρ xs o (s ++ X)) : AtC ρ (xs.extract o (o + n)) 0 s := fun i y hy => by
  have hi : i < n := by rw [← hs]; exact atS_lt hy
  obtain ⟨u, h1, h2⟩ := h i y (by rw [atS_append, if_pos (by omega)]; exact hy)
  have hlt := (Array.getElem?_eq_some_iff.1 h1).1
  exact ⟨u, by rw [Nat.zero_add, Array.getElem?_extract, if_pos (by omega)]; exact h1, h2⟩
section
variable {P : Program} {w : World}
theorem run_part_agg {t : TypeId} {n o : Nat} {xs : Array Value} (hg : ∀ w, (isAgg t).run P w = .ok true w) (hz : ∀ w, (sizeOf t).run P w = .ok n w) : (part t xs o).run P w = .ok (.agg (xs.extract o (o + n))) w := by
  simp [part, Sem.run_bind, hg, hz]
theorem run_part_one {t : TypeId} {o : Nat} {xs : Array Value} {v : Value} (hg : ∀ w, (isAgg t).run P w = .ok false w) (h : xs[o]? = some v) : (part t xs o).run P w = .ok v w := by
  simp [part, Sem.run_bind, hg, h]
theorem run_eqFields {d : Nat} {fs : List Field} {o : Nat} {X Y : List Seg} {r : Bool} (h : EqF P d fs o X Y r) : ∀ {ρ : Rho} {xs ys : Array Value}, AtC ρ xs o X → AtC ρ ys o Y → ∀ w, (Op.eqFields (d + 2) xs ys fs).run P w = .ok r w := by
  induction h with
  | nil => intro ρ xs ys _ _ w; rfl
  | @ints d o n f fs k e l m X Y r hnm ho hu he hs ha hg hz hl hm _ ih =>
    intro ρ xs ys hx hy w
    have hne : f.name ≠ "_" := by simpa using hnm
    have hsz : sizeS [Seg.ints k n l] = n := rfl
    have hsz2 : sizeS [Seg.ints k n m] = n := rfl
    have h1 := AtC.head (s := [.ints k n l]) hsz hx
    have h2 := AtC.head (s := [.ints k n m]) hsz2 hy
    have c : ∀ {zs : Array Value} {l : List Int}, AtC ρ zs 0 [.ints k n l] → ∀ i, i < n → zs[i]? = some (.int k (l.getD i 0)) := fun {zs l} hz i hi => by
      obtain ⟨u, q1, q2⟩ := hz i (.int k (l.getD i 0)) (by
        have hs : (Seg.ints k n l).size = n := rfl
        simp only [atS]; rw [if_pos (by rw [hs]; exact hi)]; rfl)
      rw [Nat.zero_add] at q1
      exact q1.trans (congrArg some q2)
    have q := run_equalIn_ints (P := P) (w := w) d hu he hs ha (c h1) (c h2)
    simp only [Op.eqFields, hne, ne_eq, not_false_eq_true, if_true, Sem.run_bind, ho, run_part_agg hg hz, Result.andThen_ok, q, Sem.run_ite, eq_getD hl hm]
    by_cases hlm : l = m
    · simp only [hlm, decide_true, Bool.not_true, Bool.false_eq_true, if_false, Bool.true_and]
      exact ih (AtC.tail (s := [.ints k n l]) hsz hx) (AtC.tail (s := [.ints k n m]) hsz2 hy) w
    · simp [hlm]
  | @int d o f fs k k' a b X Y r hnm ho hu hg _ ih =>
    intro ρ xs ys hx hy w
    have hne : f.name ≠ "_" := by simpa using hnm
    obtain ⟨u, u1, u2⟩ := hx 0 (.int k a) rfl
    obtain ⟨v, v1, v2⟩ := hy 0 (.int k b) rfl
    rw [Nat.add_zero] at u1 v1
    have u2 : u = .int k a := u2
    have v2 : v = .int k b := v2
    subst u2; subst v2
    simp only [Op.eqFields, hne, ne_eq, not_false_eq_true, if_true, Sem.run_bind, ho, run_part_one hg u1, run_part_one hg v1, Result.andThen_ok, run_equalIn_int w _ _ k k' _ _ hu, Sem.run_ite]
    by_cases hab : a = b
    · simp only [hab, beq_self_eq_true, decide_true, Bool.not_true, Bool.false_eq_true, if_false, Bool.true_and]
      exact ih (AtC.tail (s := [.one (.int k a)]) rfl hx) (AtC.tail (s := [.one (.int k b)]) rfl hy) w
    · have : (a == b) = false := by simpa using hab
      simp [this, hab]
  | @str d o n f fs gs X1 Y1 X Y X' Y' r1 r hnm ho hu hp hg hz _ hX hY eX eY _ ih1 ih =>
    intro ρ xs ys hx hy w
    subst eX; subst eY
    have hne : f.name ≠ "_" := by simpa using hnm
    have hf : P.fieldsOf f.type = gs := by simp [Program.fieldsOf, hu]
    have q := run_equalIn_struct (P := P) w (d + 2) f.type (xs.extract o (o + n)) (ys.extract o (o + n)) (by rw [hf]; exact hu) hp
    rw [hf, ih1 (AtC.head hX hx) (AtC.head hY hy) w] at q
    simp only [Op.eqFields, hne, ne_eq, not_false_eq_true, if_true, Sem.run_bind, ho, run_part_agg hg hz, Result.andThen_ok, q, Sem.run_ite]
    cases r1 with
    | true =>
      simp only [Bool.not_true, Bool.false_eq_true, if_false, Bool.true_and]
      exact ih (AtC.tail hX hx) (AtC.tail hY hy) w
    | false => simp
end
section rules
variable {P : Program} {T : Tm} {H : Heap} {d : Option Tmp} {ty : TypeId} {pos : String} {af : Array Edge} {g : Option (Nat × Bool)}
theorem agg_at {ρ : Rho} {X : List Seg} {v : Value} (h : (AV.agg X).rep ρ v) : ∃ cs : Array Value, v = .agg cs ∧ AtC ρ cs 0 X := by
  obtain ⟨cs, h1, h2, h3⟩ := h
  refine ⟨cs, h1, fun i y hy => ?_⟩
  obtain ⟨u, hu, hr, _⟩ := h3 i y hy
  exact ⟨u, by rw [Nat.zero_add]; exact hu, hr⟩
theorem eqS_run {t : TypeId} {fields : Array Field} {X Y : List Seg} {r : Bool} {ρ : Rho} {u v : Value} {w : World} (hu : P.underlying t = some (.struct fields)) (hp : P.stoodInHeld t = false) (h : EqF P 9997 fields.toList 0 X Y r) (h1 : (AV.agg X).rep ρ u) (h2 : (AV.agg Y).rep ρ v) : ∃ xs ys, u = .agg xs ∧ v = .agg ys ∧ (Op.equalIn 10000 t (.agg xs) (.agg ys)).run P w = .ok r w := by
  obtain ⟨xs, rfl, c1⟩ := agg_at h1
  obtain ⟨ys, rfl, c2⟩ := agg_at h2
  have hf : P.fieldsOf t = fields := by simp [Program.fieldsOf, hu]
  refine ⟨xs, ys, rfl, rfl, ?_⟩
  have q := run_equalIn_struct (P := P) w 9999 t xs ys (by rw [hf]; exact hu) hp
  rw [hf, run_eqFields h c1 c2 w] at q
  exact q
theorem k_eqS {t : TypeId} {fields : Array Field} {x y : Operand} {tyy : TypeId} {X Y : List Seg} {r : Bool} [hu : Und P t (.struct fields)] [hg : NoEq P t] (hx : ev T x = .agg X) (hy : ev T y = .agg Y) (h : EqF P 9997 fields.toList 0 X Y r) (hp : P.stoodInHeld t = false := by kernel_rfl) : LOk P ⟨d, .binOp .eql t x y tyy, ty, pos, af, g⟩ T H H (.s (.bool r)) [] [] :=
  lok_pure fun ρ a w ho => by
    obtain ⟨h1, h2⟩ := two (op := .binOp .eql t x y tyy) rfl ho hx hy
    obtain ⟨xs, ys, e1, e2, q⟩ := eqS_run (w := w) hu.h hp h h1 h2
    refine ⟨.bool r, ?_, rfl⟩
    simp only [execOp, e1, e2, Sem.run_bind, run_eqGuard_agg w .eql t x y xs ys hg.h, Result.andThen_ok, run_eql_struct w t xs ys]
    rw [q]
    simp only [Result.andThen_ok, Sem.run_pure]
end rules
end Go.Bx
end

section
/- Integers put behind a slice where there is room. -/
open Go
namespace Go.Bx
section
variable {P : Program} {T : Tm} {H : Heap} {d : Option Tmp} {ty : TypeId} {pos : String} {af : Array Edge} {g : Option (Nat × Bool)}
theorem l_apj {x y : Operand} {t tx e rt : TypeId} {id n m dc q : Nat} {k : IntKind} {l ys : List Int} {inf : TypeInfo} (hx : ev T x = .s (.slice id 0 0 n dc)) (hy : ev T y = .s (.fzi k ys)) (hb : hget H id = some ⟨true, [.ints k q l]⟩) (hu : P.underlying t = some (.slice e)) (hux : P.underlying tx = some (.slice e)) (hi : P.info? e = some inf) (hsz : inf.size = 1) (hm : ys.length = m) (h0 : 0 < m) (hdc : n + m ≤ dc) (hq : n + m ≤ q) :
    LOk P ⟨d, .call ⟨.builtin .append, #[x, y], #[t, tx]⟩, rt, pos, af, g⟩ T H (H.set id (some ⟨true, [.ints k q (spl l ys n m q)]⟩)) (.s (.slice id 0 0 (n + m) dc)) [id] [id] := by
  subst hm
  have hlt := hget_lt hb
  refine lok_set [id] (fun j hj => by simp at hj; subst hj; exact hlt) (by simp) fun H0 hl hag => ?_
  intro W ρ a w hH hnn hW ho next Q hQ
  have k1 : (ev T x).rep ρ (a.eval x) := ho x (by simp [Op.operands, Call.operands])
  have k2 : (ev T y).rep ρ (a.eval y) := ho y (by simp [Op.operands, Call.operands])
  rw [hx] at k1
  rw [hy] at k2
  obtain ⟨b, o, hρ, k1⟩ := k1
  obtain ⟨news, hS, hnr, _⟩ := (asrc_fzi (P := P) (H := H) (k := k) (l := ys) hux).2 _ W ρ w _ (fun _ h => by cases h) hH k2
  have hb0 : hget H0 id = some ⟨true, [.ints k q l]⟩ := (hag id (by simp)).trans hb
  obtain ⟨⟨cells, tt, fr, g1, g2', _, g4⟩, hWb⟩ := hH.rep id b o _ hρ hb0
  have hfr := g2' rfl
  subst hfr
  have hp0 := PutS.ints (l := [.ints k q l]) (o := 0) (i := n) (n := ys.length) (m := q) (k := k) (xs := l) (ys := ys) h0 rfl hq
  have hp : PutS [.ints k q l] n ys.length [.ints k ys.length ys] [.ints k q (spl l ys n ys.length q)] := by
    rw [Nat.zero_add] at hp0
    exact hp0
  have hfit := fits g4 hp
  have hnl : news.length = ys.length := by have := hS.newsLen; omega
  have hst := run_storeCells_at P b (o + n) tt news 0 cells w g1 (by rw [hnl]; omega) hS.one
  rw [Nat.add_zero] at hst
  have hrun : (execOp a.eval ⟨d, .call ⟨.builtin .append, #[x, y], #[t, tx]⟩, rt, pos, af, g⟩).run P w = .ok (.value (.slice (some ⟨b, o, none⟩) (n + ys.length) dc)) (w.setRow b (cells.toList.take (o + n) ++ news ++ cells.toList.drop (o + n + news.length)).toArray) := by
    simp only [execOp, resolve, invoke, builtin, List.map_toArray, List.map_cons, List.map_nil, k1]
    have hc2 := hS.cells
    rcases hS.kind with ⟨e', hk⟩ | hk <;> (simp [Builtin.append_, Sem.run_bind, run_underlying hu, run_underlying hk, sizeOf, typeInfo, hi, hsz, hS.len, hc2, hdc, addr_add]; rw [hst]; simp)
  rw [hrun]
  refine hQ _ _ ⟨ρ, W, nx_write hH hW hρ hb0 g1 g4 hp hnl (fun i z hz => ?_) hfit, b, o, hρ, rfl⟩
  exact hnr i z hz
theorem k_apj (l' : List Int) {x y : Operand} {t tx e rt : TypeId} {id n m dc q r : Nat} {k : IntKind} {l ys : List Int} {inf : TypeInfo} {H' : Heap} [hu : Und P t (.slice e)] [hux : Und P tx (.slice e)] [hi : Inf P e inf] (hx : ev T x = .s (.slice id 0 0 n dc) := by rfl) (hy : ev T y = .s (.fzi k ys) := by rfl) (hb : hget H id = some ⟨true, [.ints k q l]⟩ := by rfl) (hsz : inf.size = 1 := by exact rfl) (hm : ys.length = m := by rfl) (h0 : 0 < m := by exact Nat.le_of_ble_eq_true rfl) (hdc : n + m ≤ dc := by omega) (hq : n + m ≤ q := by omega) (hr : n + m = r := by rfl) (hl' : spl l ys n m q = l' := by rfl) (hH : H.set id (some ⟨true, [.ints k q l']⟩) = H' := by repeat (first | exact hset_0 | apply hset_s)) :
    LOk P ⟨d, .call ⟨.builtin .append, #[x, y], #[t, tx]⟩, rt, pos, af, g⟩ T H H' (.s (.slice id 0 0 r dc)) [id] [id] := by
  subst hH; subst hr; subst hl'
  exact l_apj hx hy hb hu.h hux.h hi.h hsz hm h0 hdc hq
end
theorem conv_ptrJ {H : Heap} {id n : Nat} {k : Blk} {f : Nat → SV} (hb : hget H id = some k) (hro : k.rw = false) (hn : sizeS k.segs = n) (hf : ∀ j x, j < n → atS k.segs j = some x → f j = .junk ∨ (f j = x ∧ x.idB (fun _ => false) = true)) :
    AConv [id] H (.s (.ptr id 0 0)) (.s (.fptr n f 0 0)) := by
  subst hn
  rintro c W ρ w u hcc hH ⟨b, o, h1, rfl⟩
  obtain ⟨⟨cells, t, fr, g1, g2, g3, g4⟩, _⟩ := hH.rep id b o k h1 ((hcc id (by simp)).trans hb)
  refine ⟨b, o, cells, rfl, g3 hro, fun j hj => ?_⟩
  obtain ⟨x, hx⟩ := atS_some hj
  obtain ⟨v, hv, hr⟩ := g4 j x hx
  refine ⟨v, hv, ?_, hr.2⟩
  rcases hf j x hj hx with e | ⟨e, hid⟩
  · rw [e]; trivial
  · rw [e]; exact SV.to_noM hid hr.1
end Go.Bx
end

section
/- Types and functions of the document's ciphers, as instances. -/
open Go Go.Bx Go.Proofs
namespace Go.Proofs.X
instance : Clb Tryz.prog 119 := ⟨_, Tryz.func119, by kernel_rfl, rfl⟩
instance : Clb Tryz.prog 164 := ⟨_, Tryz.func164, by kernel_rfl, rfl⟩
instance : Clb Tryz.prog 117 := ⟨_, Tryz.func117, by kernel_rfl, rfl⟩
instance : Clb Tryz.prog 118 := ⟨_, Tryz.func118, by kernel_rfl, rfl⟩
instance : Clb Tryz.prog 46 := ⟨_, Tryz.func46, by kernel_rfl, rfl⟩
instance : Clb Tryz.prog 47 := ⟨_, Tryz.func47, by kernel_rfl, rfl⟩
instance : Clb Tryz.prog 12 := ⟨_, Tryz.func12, by kernel_rfl, rfl⟩
instance : Und Tryz.prog 100 (.pointer 139) := ⟨Tryz.underlying100⟩
instance : Sz Tryz.prog 100 1 := ⟨Tryz.sizeOf100⟩
instance : Ag Tryz.prog 100 false := ⟨Tryz.isAgg100⟩
instance : Zv Tryz.prog 100 [.one .nilp] := ⟨_, Tryz.zeroValue100, by kernel_rfl⟩
instance : Inf Tryz.prog 100 Tryz.t100 := ⟨by kernel_rfl⟩
instance : Und Tryz.prog 139 (.struct #[{ name := "s", type := 126, offset := 0, embedded := false, tag := "", pkgPath := "burrow/burrowref09", byteOffset := 0 }, { name := "back", type := 126, offset := 256, embedded := false, tag := "", pkgPath := "burrow/burrowref09", byteOffset := 256 }]) := ⟨Tryz.underlying139⟩
instance : Sz Tryz.prog 139 512 := ⟨Tryz.sizeOf139⟩
instance : Ag Tryz.prog 139 true := ⟨Tryz.isAgg139⟩
instance : Zv Tryz.prog 139 [.ints .u8 256 (zs (List.replicate 256 0)), .ints .u8 256 (zs (List.replicate 256 0))] := ⟨_, Tryz.zeroValue139, by kernel_rfl⟩
instance : FldC Tryz.prog 139 0 0 := ⟨_, _, _, Tryz.underlying139, rfl, Tryz.sizeOf126, by decide, rfl⟩
instance : FldC Tryz.prog 139 1 256 := ⟨_, _, _, Tryz.underlying139, rfl, Tryz.sizeOf126, by decide, rfl⟩
instance : Pl Tryz.prog 139 #[(0, 256), (256, 256)] := ⟨_, Tryz.underlying139, fun w => by kernel_rfl⟩
instance : Inf Tryz.prog 139 Tryz.t139 := ⟨by kernel_rfl⟩
instance : Und Tryz.prog 140 (.array 44 132) := ⟨Tryz.underlying140⟩
instance : Sz Tryz.prog 140 176 := ⟨Tryz.sizeOf140⟩
instance : Ag Tryz.prog 140 true := ⟨Tryz.isAgg140⟩
instance : Zv Tryz.prog 140 [.ints .u8 176 (zs (List.replicate 176 0))] := ⟨_, Tryz.zeroValue140, by kernel_rfl⟩
instance : Inf Tryz.prog 140 Tryz.t140 := ⟨by kernel_rfl⟩
end Go.Proofs.X
end
