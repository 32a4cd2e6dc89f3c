/- What a sum by a key is, on lists. -/
import Derived.Test.YtffflnpidipheaaShaSpec3
open Go Go.Ab Go.Proofs
namespace Go.Proofs.X
def xk (k : List Int) (v : Int) : Nat → List Int
  | 0 => k
  | i + 1 => (xk k v i).set i (xorK .u8 ((xk k v i).getD i 0) v)
theorem xk_len (k : List Int) (v : Int) (i : Nat) : (xk k v i).length = k.length := by
  induction i with
  | zero => rfl
  | succ i ih => simp [xk, ih]
def k64 (K : List Int) : List Int := spl (z 64) ((K.drop 0).take 32) (0 + 0) 32 64
theorem k64_len (K : List Int) : (k64 K).length = 64 := spl_len _ _ _ _ _
def hmI (K : List Int) : Run := tk run0 (xk (k64 K) 54 64)
def hmO (K : List Int) (q : Run) (tot : Nat) : List Int := sumL (tk (tk run0 (xk (k64 K) 92 64)) (sumL q tot)) 96
theorem hmO_len (K : List Int) (q : Run) (tot : Nat) : (hmO K q tot).length = 32 := sumL_len _ _
theorem hmI_ok (K : List Int) : RunOk (hmI K) := tk_ok run0_ok _
end Go.Proofs.X
