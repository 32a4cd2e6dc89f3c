/- What sums, and sums by a key, are, on lists. No program. -/
import Derived.Test.YthjccanlmhbecaaBShaS2
import Derived.Test.YthjccanlmhbecaaBRowS
set_option linter.unusedVariables false
set_option linter.unusedSimpArgs false
open Go Go.Bx
namespace Go.Proofs.X
def ob (s : List Int) : Nat → List Int
  | 0 => []
  | i + 1 => rowL (4 * i + 4) (ob s i) (4 * i) 4 1 [IntKind.u64.wrap (s.getD i 0)]
theorem ob_len (s : List Int) (i : Nat) : (ob s i).length = 4 * i := by
  cases i with
  | zero => rfl
  | succ i => exact rowL_len _ _ _ _ _ _
def sumQ (q : Run) (tot : Nat) : Run := tk (tk (tk q [128]) (List.replicate ((119 - q.m) % 64) 0)) (rr 8 8 1 [IntKind.u64.wrap (8 * ((tot : Nat) : Int))] 1)
def sumL (q : Run) (tot : Nat) : List Int := spl (z 32) ((ob (sumQ q tot).s 8).take 32) 0 32 32
theorem sumL_len (q : Run) (tot : Nat) : (sumL q tot).length = 32 := spl_len _ _ _ _ _
theorem sumQ_ok {q : Run} (h : RunOk q) (tot : Nat) : RunOk (sumQ q tot) := tk_ok (tk_ok (tk_ok h _) _) _
def xk (k : List Int) (v : Int) : Nat → List Int
  | 0 => k
  | i + 1 => (xk k v i).set i (xorK .u8 ((xk k v i).getD i 0) v)
theorem xk_len (k : List Int) (v : Int) (i : Nat) : (xk k v i).length = k.length := by
  induction i with
  | zero => rfl
  | succ i ih => simp [xk, ih]
def k64 (K : List Int) : List Int := spl (z 64) (K.take K.length) 0 K.length 64
theorem k64_len (K : List Int) : (k64 K).length = 64 := spl_len _ _ _ _ _
def hmI (K : List Int) : Run := tk run0 (xk (k64 K) 54 64)
def hmO (K : List Int) (q : Run) (tot : Nat) : List Int := sumL (tk (tk run0 (xk (k64 K) 92 64)) (sumL q tot)) 96
theorem hmO_len (K : List Int) (q : Run) (tot : Nat) : (hmO K q tot).length = 32 := sumL_len _ _
theorem hmI_ok (K : List Int) : RunOk (hmI K) := tk_ok run0_ok _
end Go.Proofs.X
