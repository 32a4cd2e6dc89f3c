/- What keys of a secret are, on lists. -/
import Derived.Test.YtffflnpidipheaaMacSpec
open Go Go.Ab Go.Proofs
namespace Go.Proofs.X
def PL (L : List Int) : List Int := rr 32 8 4 [L.getD 3 0, L.getD 2 0, L.getD 1 0, L.getD 0 0] 4
theorem PL_len (L : List Int) : (PL L).length = 32 := rr_len _ _ _ _ _
def kmK (ID L : List Int) : List Int := hmO ID (tk (hmI ID) (PL L)) (64 + 32)
theorem kmK_len (ID L : List Int) : (kmK ID L).length = 32 := hmO_len _ _ _
def laneL : List Int := [108, 97, 110, 101]
def kl (K : List Int) : Nat → List Int
  | 0 => []
  | i + 1 => if i = 0 then hmO K (tk (tk (hmI K) laneL) [((0 + 1 : Nat) : Int)]) (64 + 4 + 1) else hmO K (tk (tk (tk (hmI K) (kl K i)) laneL) [((i + 1 : Nat) : Int)]) (64 + 32 + 4 + 1)
theorem kl_one (K : List Int) : kl K (0 + 1) = hmO K (tk (tk (hmI K) laneL) [((0 + 1 : Nat) : Int)]) (64 + 4 + 1) := if_pos rfl
theorem kl_succ (K : List Int) {i : Nat} (h : 0 < i) : kl K (i + 1) = hmO K (tk (tk (tk (hmI K) (kl K i)) laneL) [((i + 1 : Nat) : Int)]) (64 + 32 + 4 + 1) := if_neg (by omega)
theorem kl_len (K : List Int) {i : Nat} (h : 0 < i) : (kl K i).length = 32 := by
  obtain ⟨i, rfl⟩ : ∃ j, i = j + 1 := ⟨i - 1, by omega⟩
  unfold kl
  split <;> exact hmO_len _ _ _
def ko (K : List Int) (cap : Nat) : Nat → List Int
  | 0 => List.replicate cap 0
  | i + 1 => spl (ko K cap i) (((kl K (i + 1)).drop 0).take 32) (32 * i) 32 cap
theorem ko_len (K : List Int) (cap i : Nat) : (ko K cap i).length = cap := by
  cases i with
  | zero => simp [ko]
  | succ i => exact spl_len _ _ _ _ _
def kmOf (ID L : List Int) (m : Nat) : List Int := ko (kmK ID L) (m + 32) ((m + 31) / 32)
end Go.Proofs.X
