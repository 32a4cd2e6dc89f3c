/- What the program's sums compute, on lists. No program. -/
import Derived.Test.YthjccanlmhbecaaBxD
set_option linter.unusedVariables false
set_option linter.unusedSimpArgs false
open Go Go.Bx
namespace Go.Proofs.X
def z (n : Nat) : List Int := List.replicate n 0
theorem z_len (n : Nat) : (z n).length = n := List.length_replicate
theorem wrap_u64_nonneg (x : Int) : 0 ≤ IntKind.u64.wrap x := by
  unfold IntKind.wrap
  simp [IntKind.bits, IntKind.signed]
  omega
def rs (k : Int) : Int := andK .u64 (IntKind.u64.wrap k) 31
theorem rs_nonneg (k : Int) : 0 ≤ rs k := wrap_u64_nonneg _
def rotI (x k : Int) : Int := orK .u32 (shlK .u32 x (rs k)) (shrK .u32 x (IntKind.u64.wrap (32 - rs k)))
def dnI (x : Int) (ps : List Int) : Nat → Int
  | 0 => 0
  | i + 1 => xorK .u32 (dnI x ps i) (rotI x (IntKind.i64.wrap (0 - ps.getD i 0)))
def KS : List Int := [1116352408, 1899447441, 3049323471, 3921009573, 961987163, 1508970993, 2453635748, 2870763221, 3624381080, 310598401, 607225278, 1426881987, 1925078388, 2162078206, 2614888103, 3248222580, 3835390401, 4022224774, 264347078, 604807628, 770255983, 1249150122, 1555081692, 1996064986, 2554220882, 2821834349, 2952996808, 3210313671, 3336571891, 3584528711, 113926993, 338241895, 666307205, 773529912, 1294757372, 1396182291, 1695183700, 1986661051, 2177026350, 2456956037, 2730485921, 2820302411, 3259730800, 3345764771, 3516065817, 3600352804, 4094571909, 275423344, 430227734, 506948616, 659060556, 883997877, 958139571, 1322822218, 1537002063, 1747873779, 1955562222, 2024104815, 2227730452, 2361852424, 2428436474, 2756734187, 3204031479, 3329325298]
theorem KS_len : KS.length = 64 := rfl
def gI (w : List Int) : Nat → Int
  | 0 => 0
  | i + 1 => IntKind.u64.wrap (IntKind.u64.wrap (256 * gI w i) + IntKind.u64.wrap (w.getD i 0))
def getI (B : List Int) (m : Nat) : Int := gI (spl (z 8) (B.take m) (8 - m) m 8) 8
/-- The next one of a block's numbers: what is kept of them. -/
theorem spl_len (xs ys : List Int) (i n m : Nat) : (spl xs ys i n m).length = m := by simp [spl]
def wn1 (w : List Int) (t : Nat) : List Int := w.set (t % 16) (IntKind.u32.wrap (w.getD (t % 16) 0 + xorK .u32 (dnI (w.getD ((t + 1) % 16) 0) [7, 18] 2) (shrK .u32 (w.getD ((t + 1) % 16) 0) 3)))
def wn2 (w : List Int) (zz : Int) (t : Nat) : List Int := w.set (t % 16) (IntKind.u32.wrap (w.getD (t % 16) 0 + xorK .u32 (dnI zz [17, 19] 2) (shrK .u32 zz 10)))
def wn3 (w : List Int) (t : Nat) : List Int := w.set (t % 16) (IntKind.u32.wrap (w.getD (t % 16) 0 + w.getD ((t + 9) % 16) 0))
def wn (b w : List Int) (t : Nat) : List Int :=
  if t < 16 then w.set (t % 16) (IntKind.u32.wrap (getI ((b.drop (4 * t)).take (64 - 4 * t)) 4))
  else wn3 (wn2 (wn1 w t) (w.getD ((t + 14) % 16) 0) t) t
theorem wn_len (b w : List Int) (t : Nat) : (wn b w t).length = w.length := by
  unfold wn wn1 wn2 wn3; split <;> simp
theorem wn_lt (b w : List Int) {t : Nat} (h : t < 16) : wn b w t = w.set (t % 16) (IntKind.u32.wrap (getI ((b.drop (4 * t)).take (64 - 4 * t)) 4)) := if_pos h
theorem wn_ge (b w : List Int) {t : Nat} (h : ¬ t < 16) : wn b w t = wn3 (wn2 (wn1 w t) (w.getD ((t + 14) % 16) 0) t) t := if_neg h
def ws (b : List Int) : Nat → List Int
  | 0 => z 16
  | i + 1 => wn b (ws b i) i
theorem ws_len (b : List Int) (i : Nat) : (ws b i).length = 16 := by
  induction i with
  | zero => exact z_len _
  | succ i ih => rw [ws, wn_len, ih]
def comK (k : IntKind) (m : Int) : Int := xorK k (if k.signed then -1 else k.max) m
def rP (l : List Int) (k x : Int) : Int := IntKind.u32.wrap (IntKind.u32.wrap (IntKind.u32.wrap (IntKind.u32.wrap (l.getD 7 0 + dnI (l.getD 4 0) [6, 11, 25] 3) + orK .u32 (andK .u32 (l.getD 4 0) (l.getD 5 0)) (andK .u32 (comK .u32 (l.getD 4 0)) (l.getD 6 0))) + k) + x)
def rQ (l : List Int) : Int := IntKind.u32.wrap (dnI (l.getD 0 0) [2, 13, 22] 3 + xorK .u32 (andK .u32 (l.getD 0 0) (xorK .u32 (l.getD 1 0) (l.getD 2 0))) (andK .u32 (l.getD 1 0) (l.getD 2 0)))
def rS (l : List Int) : List Int := spl l ((l.drop 0).take 7) (0 + 1) 7 8
def rnd (l : List Int) (k x : Int) : List Int := ((rS l).set 4 (IntKind.u32.wrap ((rS l).getD 4 0 + rP l k x))).set 0 (IntKind.u32.wrap (rP l k x + rQ l))
theorem rnd_len (l : List Int) (k x : Int) : (rnd l k x).length = 8 := by simp [rnd, rS, spl]
def ls (s b : List Int) : Nat → List Int
  | 0 => s
  | i + 1 => rnd (ls s b i) (KS.getD i 0) ((ws b (i + 1)).getD (i % 16) 0)
theorem ls_len (s b : List Int) (h : s.length = 8) (i : Nat) : (ls s b i).length = 8 := by
  cases i with
  | zero => exact h
  | succ i => exact rnd_len _ _ _
def fin (s l : List Int) : Nat → List Int
  | 0 => l
  | i + 1 => (fin s l i).set i (IntKind.u32.wrap ((fin s l i).getD i 0 + s.getD i 0))
theorem fin_len (s l : List Int) (i : Nat) : (fin s l i).length = l.length := by
  induction i with
  | zero => rfl
  | succ i ih => simp [fin, ih]
def aft (s b : List Int) : List Int := fin s (ls s b 64) 8
theorem aft_len (s b : List Int) (h : s.length = 8) : (aft s b).length = 8 := (fin_len _ _ _).trans (ls_len _ _ h _)
theorem ls_s (s b : List Int) (i : Nat) : ls s b (i + 1) = rnd (ls s b i) (KS.getD i 0) ((wn b (ws b i) i).getD (i % 16) 0) := rfl
theorem ws_s (b : List Int) (i : Nat) : ws b (i + 1) = wn b (ws b i) i := rfl
theorem ws_0 (b : List Int) : ws b 0 = z 16 := rfl
theorem ls_0 (s b : List Int) : ls s b 0 = s := rfl
theorem dnI_0 (x : Int) (ps : List Int) : dnI x ps 0 = 0 := rfl
theorem dnI_s (x : Int) (ps : List Int) (i : Nat) : dnI x ps (i + 1) = xorK .u32 (dnI x ps i) (rotI x (IntKind.i64.wrap (0 - ps.getD i 0))) := rfl
theorem gI_0 (w : List Int) : gI w 0 = 0 := rfl
theorem gI_s (w : List Int) (i : Nat) : gI w (i + 1) = IntKind.u64.wrap (IntKind.u64.wrap (256 * gI w i) + IntKind.u64.wrap (w.getD i 0)) := rfl
abbrev RUN (s b : List Int) (n l : Int) : List Seg := [.one (.fptr 8 (cellsF [.ints .u32 8 s]) 0 0), .ints .u8 64 b, .one (.int .i64 n), .one (.int .u64 l)]
end Go.Proofs.X
