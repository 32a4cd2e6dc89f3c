/- What the program's sums compute of bytes, one by one. No program. -/
import Derived.Test.YthjccanlmhbecaaBShaS
set_option linter.unusedVariables false
set_option linter.unusedSimpArgs false
open Go Go.Bx
namespace Go.Proofs.X
/-- The eight numbers, the block's bytes, how many of these. -/
structure Run where
  s : List Int
  b : List Int
  m : Nat
structure RunOk (q : Run) : Prop where
  s : q.s.length = 8
  b : q.b.length = 64
  m : q.m < 64
def put1 (q : Run) (x : Int) : Run := if q.m + 1 = 64 then ⟨aft q.s (q.b.set q.m x), q.b.set q.m x, 0⟩ else ⟨q.s, q.b.set q.m x, q.m + 1⟩
def tk (q : Run) (l : List Int) : Run := l.foldl put1 q
theorem put1_ok {q : Run} (h : RunOk q) (x : Int) : RunOk (put1 q x) := by
  unfold put1
  split
  · exact ⟨aft_len _ _ h.s, by simpa using h.b, by show 0 < 64; omega⟩
  · exact ⟨h.s, by simpa using h.b, by have := h.m; show q.m + 1 < 64; omega⟩
theorem tk_ok {q : Run} (h : RunOk q) (l : List Int) : RunOk (tk q l) := by
  induction l generalizing q with
  | nil => exact h
  | cons x r ih => exact ih (put1_ok h x)
theorem tk_append (q : Run) (a b : List Int) : tk q (a ++ b) = tk (tk q a) b := List.foldl_append
theorem tk_nil (q : Run) : tk q [] = q := rfl
/-- What is put at once. -/
def chunk (q : Run) (c : List Int) (n : Nat) : Run := if q.m + n = 64 then ⟨aft q.s (spl q.b c (q.m) n 64), spl q.b c (q.m) n 64, 0⟩ else ⟨q.s, spl q.b c (q.m) n 64, q.m + n⟩
theorem getD_set' (l : List Int) (i j : Nat) (v : Int) : (l.set i v).getD j 0 = if i = j ∧ i < l.length then v else l.getD j 0 := lset_getD l i v j
theorem eq_getD {a b : List Int} {n : Nat} (ha : a.length = n) (hb : b.length = n) (h : ∀ k, k < n → a.getD k 0 = b.getD k 0) : a = b := by
  apply List.ext_getElem (by omega)
  intro i h1 h2
  have := h i (by omega)
  simpa [List.getD_eq_getElem?_getD, h1, h2] using this
theorem spl_getD (xs ys : List Int) (i n m k : Nat) (hk : k < m) : (spl xs ys i n m).getD k 0 = if i ≤ k ∧ k < i + n then ys.getD (k - i) 0 else xs.getD k 0 := by
  simp [spl, List.getD_eq_getElem?_getD, hk]
theorem tk_chunk (q : Run) (h : RunOk q) (c : List Int) (n : Nat) (hc : c.length = n) (hn : q.m + n ≤ 64) (h0 : 0 < n) : tk q c = chunk q c n := by
  obtain ⟨n, rfl⟩ : ∃ k, n = k + 1 := ⟨n - 1, by omega⟩
  clear h0
  induction n generalizing c with
  | zero =>
    match c, hc with
    | [x], _ =>
      have e : q.b.set q.m x = spl q.b [x] (q.m) (0 + 1) 64 := eq_getD (n := 64) (by simp [h.b]) (spl_len _ _ _ _ _) fun k hk => by
        rw [lset_getD, spl_getD _ _ _ _ _ _ hk, h.b]
        by_cases hm : q.m = k
        · subst hm; rw [if_pos ⟨rfl, hk⟩, if_pos (by omega)]; simp
        · rw [if_neg (fun x => hm x.1), if_neg (by omega)]
      show put1 q x = _
      unfold put1 chunk
      rw [e]
  | succ n ih =>
    have hd : c = c.take (n + 1) ++ [c.getD (n + 1) 0] := by
      apply List.ext_getElem (by simp; omega)
      intro i h1 h2
      by_cases hi : i < n + 1
      · rw [List.getElem_append_left (by simp; omega)]; simp
      · have : i = n + 1 := by omega
        subst this
        rw [List.getElem_append_right (by simp; omega)]
        simp [List.getD_eq_getElem?_getD, h1]
    have hl : (c.take (n + 1)).length = n + 1 := by simp; omega
    have := ih (c.take (n + 1)) hl (by omega)
    rw [hd, tk_append, this]
    have e1 : chunk q (c.take (n + 1)) (n + 1) = ⟨q.s, spl q.b (c.take (n + 1)) (q.m) (n + 1) 64, q.m + (n + 1)⟩ := if_neg (by omega)
    rw [e1]
    have e : (spl q.b (c.take (n + 1)) (q.m) (n + 1) 64).set (q.m + (n + 1)) (c.getD (n + 1) 0) = spl q.b c (q.m) (n + 1 + 1) 64 := eq_getD (n := 64) (by simp [spl_len]) (spl_len _ _ _ _ _) fun k hk => by
      rw [lset_getD, spl_getD _ _ _ _ _ _ hk, spl_getD _ _ _ _ _ _ hk, spl_len]
      by_cases hm : q.m + (n + 1) = k
      · subst hm; rw [if_pos ⟨rfl, hk⟩, if_pos (by omega)]; congr 1; omega
      · rw [if_neg (fun x => hm x.1)]
        by_cases h2 : q.m ≤ k ∧ k < q.m + (n + 1)
        · rw [if_pos h2, if_pos (by omega)]
          rw [List.getD_eq_getElem?_getD, List.getD_eq_getElem?_getD, List.getElem?_take_of_lt (by omega)]
        · rw [if_neg h2, if_neg (by omega)]
    rw [← hd]
    show put1 _ (c.getD (n + 1) 0) = _
    unfold put1 chunk
    simp only
    rw [e]
    simp only [Nat.add_assoc]
/-- On from here: a piece, then the rest. -/
theorem tk_on (q : Run) (h : RunOk q) (B : List Int) (j n len : Nat) (hB : B.length = len) (hj : j + n ≤ len) (hn : q.m + n ≤ 64) (h0 : 0 < n) : tk q (B.drop j) = tk (chunk q ((B.drop j).take n) n) (B.drop (j + n)) := by
  have e : B.drop j = (B.drop j).take n ++ B.drop (j + n) := by rw [← List.drop_drop, List.take_append_drop]
  rw [← tk_chunk q h _ n (by simp; omega) hn h0, ← tk_append, ← e]
theorem chunk_ok {q : Run} (h : RunOk q) (c : List Int) (n : Nat) (hn : q.m + n ≤ 64) : RunOk (chunk q c n) := by
  unfold chunk
  split
  · exact ⟨aft_len _ _ h.s, spl_len _ _ _ _ _, by show 0 < 64; omega⟩
  · exact ⟨h.s, spl_len _ _ _ _ _, by show q.m + n < 64; omega⟩
def S0 : List Int := [1779033703, 3144134277, 1013904242, 2773480762, 1359893119, 2600822924, 528734635, 1541459225]
def run0 : Run := ⟨S0, z 64, 0⟩
theorem run0_ok : RunOk run0 := ⟨rfl, z_len _, by show 0 < 64; omega⟩
/-- Where a run stands in memory. -/
abbrev RQ (q : Run) (tot : Nat) : Blk := ⟨true, RUN q.s q.b ((q.m : Nat) : Int) ((tot : Nat) : Int)⟩
/-- Rows of bytes, handed over. -/
abbrev ROWS (L : List (List Int)) : SV := .fz L.length 1 fun i _ => (L.map (SV.fzi .u8)).getD i .nils
theorem rows_at (L : List (List Int)) {i : Nat} (h : i < L.length) : (L.map (SV.fzi .u8)).getD i .nils = .fzi .u8 (L.getD i []) := by
  simp [List.getD_eq_getElem?_getD, h]
theorem flat_s (L : List (List Int)) {i : Nat} (h : i < L.length) : (L.take (i + 1)).flatten = (L.take i).flatten ++ L.getD i [] := by
  rw [List.take_add_one, List.flatten_append]
  simp [List.getD_eq_getElem?_getD, h]
end Go.Proofs.X
