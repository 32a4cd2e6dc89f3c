/- What nums.row computes, on lists. No program. -/
import Derived.Test.YthjccanlmhbecaaBShaS
set_option linter.unusedVariables false
set_option linter.unusedSimpArgs false
open Go Go.Bx
namespace Go.Proofs.X
/-- A word's bytes, from a place down. -/
def rb (out : List Int) (at_ : Nat) (v : Int) : Nat → List Int × Int
  | 0 => (out, v)
  | j + 1 => ((rb out at_ v j).1.set (at_ - (j + 1)) (IntKind.u8.wrap (rb out at_ v j).2), IntKind.u64.wrap ((rb out at_ v j).2.tdiv 256))
theorem rb_len (out : List Int) (at_ : Nat) (v : Int) (j : Nat) : (rb out at_ v j).1.length = out.length := by
  induction j with
  | zero => rfl
  | succ j ih => simp [rb, ih]
/-- So many words, the last one first. -/
def rr (tot each N : Nat) (ws : List Int) : Nat → List Int
  | 0 => List.replicate tot 0
  | k + 1 => (rb (rr tot each N ws k) (tot - each * k) (ws.getD (N - 1 - k) 0) each).1
theorem rr_len (tot each N : Nat) (ws : List Int) (k : Nat) : (rr tot each N ws k).length = tot := by
  induction k with
  | zero => simp [rr]
  | succ k ih => rw [rr, rb_len, ih]
def rowL (tot : Nat) (B : List Int) (len each N : Nat) (ws : List Int) : List Int := if len = 0 then rr tot each N ws N else spl (rr tot each N ws N) (B.take len) 0 len tot
theorem rowL_len (tot : Nat) (B : List Int) (len each N : Nat) (ws : List Int) : (rowL tot B len each N ws).length = tot := by
  unfold rowL; split
  · exact rr_len _ _ _ _ _
  · exact spl_len _ _ _ _ _
end Go.Proofs.X
