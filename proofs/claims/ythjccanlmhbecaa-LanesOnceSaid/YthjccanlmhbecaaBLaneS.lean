/- What lanes keep. No program. -/
import Derived.Test.YthjccanlmhbecaaBWinS
import Derived.Test.YthjccanlmhbecaaBSealS
import Derived.Test.YthjccanlmhbecaaBxE
set_option linter.unusedVariables false
set_option linter.unusedSimpArgs false
open Go Go.Bx
namespace Go.Proofs.X
abbrev OUTL (M C : List Int) (l u : Nat) : List Seg := [.ints .u8 32 M, .ints .u8 16 C, .one (.int .u32 ((l : Nat) : Int)), .one (.int .i64 1), .one (.int .i64 ((u : Nat) : Int))]
abbrev INL (M C : List Int) (l p : Nat) : List Seg := [.ints .u8 32 M, .ints .u8 16 C, .one (.int .u32 ((l : Nat) : Int)), .one (.int .i64 1), .one (.ptr p 0 0)]
/-- Alike up to a place. -/
def AlikeTo (A B : List Int) (i : Nat) : Prop := ∀ k, k < i → A.getD k 0 = B.getD k 0
theorem AlikeTo.all {A B : List Int} (hl : A.length = B.length) (h : AlikeTo A B A.length) : A = B := eqI hl h
theorem AlikeTo.next {A B : List Int} {i : Nat} (h : AlikeTo A B i) (e : A.getD i 0 = B.getD i 0) : AlikeTo A B (i + 1) := fun k hk => by
  by_cases hki : k = i
  · subst hki; exact e
  · exact h k (by omega)
theorem alike_not {A B : List Int} {i : Nat} (h : A.getD i 0 ≠ B.getD i 0) : A ≠ B := fun e => h (by rw [e])
/-- A sealed one can be opened. -/
structure Opens (M C B : List Int) : Prop where
  u8 : U8' B
  l : 29 ≤ B.length
  h : B.length ≤ 2048
  k : B.getD 0 0 = 9
  mac : (hmB M (B.take (B.length - 16))).take 16 = B.drop (B.length - 16)
end Go.Proofs.X
