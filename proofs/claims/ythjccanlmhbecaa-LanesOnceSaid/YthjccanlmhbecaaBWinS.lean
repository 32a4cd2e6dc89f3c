/- What windows keep, and which numbers fit. No program. -/
import Derived.Test.YthjccanlmhbecaaBxD
set_option linter.unusedVariables false
set_option linter.unusedSimpArgs false
open Go Go.Bx
namespace Go.Proofs.X
/-- The numbers that came, the greatest one, how many. -/
abbrev WIN (l : List Nat) (h n : Nat) : List Seg := [.ints .i64 1 [1], .ints .u64 64 (zs l), .one (.int .u64 ((h : Nat) : Int)), .one (.int .u64 ((n : Nat) : Int))]
def fitsW (l : List Nat) (h n : Nat) : Nat := if n = 0 then 1 else if n < h ∧ 64 ≤ h - n then 13 else if l.getD (n % 64) 0 = n then 8 else 0
end Go.Proofs.X
