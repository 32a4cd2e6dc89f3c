/- What the sum of bytes is, on lists. -/
import Derived.Test.YtffflnpidipheaaShaSpec2
import Derived.Test.YtffflnpidipheaaRowSpec
open Go Go.Ab Go.Proofs
namespace Go.Proofs.X
def ob (s : List Int) : Nat → List Int
  | 0 => []
  | i + 1 => rowL (4 * i + 4) (ob s i) (4 * i) 4 1 [IntKind.u64.wrap (s.getD i 0)]
theorem ob_len (s : List Int) (i : Nat) : (ob s i).length = 4 * i := by
  cases i with
  | zero => rfl
  | succ i => exact rowL_len _ _ _ _ _ _
def sumQ (q : Run) (tot : Nat) : Run := tk (tk (tk q [128]) (List.replicate ((119 - q.m) % 64) 0)) (rr 8 8 1 [IntKind.u64.wrap (8 * ((tot : Nat) : Int))] 1)
def sumL (q : Run) (tot : Nat) : List Int := spl (z 32) (((ob (sumQ q tot).s 8).drop 0).take 32) (0 + 0) 32 32
theorem sumL_len (q : Run) (tot : Nat) : (sumL q tot).length = 32 := spl_len _ _ _ _ _
theorem sumQ_ok {q : Run} (h : RunOk q) (tot : Nat) : RunOk (sumQ q tot) := tk_ok (tk_ok (tk_ok h _) _) _
end Go.Proofs.X
