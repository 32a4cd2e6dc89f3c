/- A part of the proofs of this claim: RowW3. No conditions. -/
import Derived.Test.YtffflnpidipheaaRowW2
open Go Go.Ab Go.Proofs
namespace Go.Proofs.X
theorem callable_60 : Callable Try.prog 60 := ⟨_, Try.func60, by kernel_rfl, rfl⟩
theorem callable_32 : Callable Try.prog 32 := ⟨_, Try.func32, by kernel_rfl, rfl⟩
set_option maxRecDepth 100000 in
set_option maxHeartbeats 2000000 in
theorem Put_n (H : Heap) (m : Nat) (v : Int) (hm : m ≤ 8) : ACall Try.prog 60 H [.s .nils, .s (.int .u64 v), .s (.int .i64 ((m : Nat) : Int))] (.s (.slice (H.length + 0) (0 + 0) 0 m m)) [⟨true, [.ints .u8 m (rr m m 1 [v] 1)]⟩] := by
  refine acall_gen2 (args0 := [.s .nils, .s (.int .u64 v), .s (.int .i64 ((m : Nat) : Int))]) (H0 := []) (Hf := [none, some ⟨true, [.ints .u8 m (rr m m 1 [v] 1)]⟩]) (v0 := .s (.slice 1 0 0 m m)) [] [1] Try.func60 rfl Try.ntmps60 (by simp) rfl
    (fun k id sh b0 h1 h2 => by simp at h1) (fun W ρ vals w hH ha k id' sh' hk => by simp at hk) rfl rfl rfl (by decide) rfl rfl rfl (fun W w ρ0 hW hdom => ?_)
  refine w_seq ?_
  refine c_reg (by kernel_rfl) rfl ?_
  refine s_p (by first | exact h_assign (v := .s _) rfl | exact h_assign (v := .agg _) rfl | exact h_assign (v := .tup _) rfl) ?_
  refine s_nil ?_
  refine n_wp ?_
  refine w_seq ?_
  refine c_reg (by kernel_rfl) rfl ?_
  refine s_p (by first | exact h_move (v := .s _) rfl | exact h_move (v := .agg _) rfl | exact h_move (v := .tup _) rfl) ?_
  refine s_p (by first | exact h_move (v := .s _) rfl | exact h_move (v := .agg _) rfl | exact h_move (v := .tup _) rfl) ?_
  refine s_p (h_min (r := ((m : Nat) : Int)) rfl rfl (by split <;> omega)) ?_
  refine s_p (h_max (r := ((m : Nat) : Int)) rfl rfl (by split <;> omega)) ?_
  refine s_p (by first | exact h_move (v := .s _) rfl | exact h_move (v := .agg _) rfl | exact h_move (v := .tup _) rfl) ?_
  refine s_a (h_bsli1 rfl Try.underlying143 Try.sizeOf40 Try.zeroValue40 rfl rfl) rfl ?_
  refine s_a (h_call callable_59 rfl (row_n _ 0 0 m 1 m [v] _ rfl rfl (fun i y hy => by rw [Nat.zero_add]; exact hy) (by omega) hm (by omega) (by omega))) rfl ?_
  refine s_p (by first | exact h_assign (v := .s _) rfl | exact h_assign (v := .agg _) rfl | exact h_assign (v := .tup _) rfl) ?_
  refine s_nil ?_
  refine n_wp ?_
  refine w_ret ?_
  exact doneM (by repeat (first | exact trivial | refine ⟨rfl, ?_⟩)) (ret_tmp Try.results60 rfl)
set_option maxRecDepth 100000 in
set_option maxHeartbeats 2000000 in
theorem Put_s (H : Heap) (jb sb len cap m tot : Nat) (v : Int) (B : List Int) (bb : Blk) (hBl : B.length = len) (hcap : len ≤ cap) (hlen : len ≤ 140737488351232) (hb : H[jb]? = some (some bb)) (hbr : ∀ (i : Nat) (y : SV), atS [.ints .u8 len B] i = some y → atS bb.segs (sb + i) = some y) (hm : m ≤ 8) (ht : tot = len + m) : ACall Try.prog 60 H [.s (.slice jb (0 + sb) 0 len cap), .s (.int .u64 v), .s (.int .i64 ((m : Nat) : Int))] (.s (.slice (H.length + 0) (0 + 0) 0 tot tot)) [⟨true, [.ints .u8 tot (rowL tot B len m 1 [v])]⟩] := by
  refine acall_gen2 (args0 := [.s (.slice 0 0 0 len cap), .s (.int .u64 v), .s (.int .i64 ((m : Nat) : Int))]) (H0 := [some ⟨false, [.ints .u8 len B]⟩]) (Hf := [none, none, some ⟨true, [.ints .u8 tot (rowL tot B len m 1 [v])]⟩]) (v0 := .s (.slice 2 0 0 tot tot)) [(jb, sb)] [2] Try.func60 rfl Try.ntmps60 (by simp) rfl
    (fun k id' sh' b0 h1 h2 => by
      match k, h1, h2 with
      | 0, h1, h2 => simp at h1 h2; obtain ⟨rfl, rfl⟩ := h1; subst h2; exact ⟨rfl, rfl, _, hb, fun i y hy => by (have h := hbr i y hy; obtain ⟨_, rfl⟩ := atS_ints1 hy; exact h)⟩
      | k + 1, h1, _ => simp at h1)
    (fun W ρ vals w hH ha k id' sh' hk => by
      match k, hk with
      | 0, hk => simp at hk; obtain ⟨rfl, rfl⟩ := hk; exact ⟨(List.getElem?_eq_some_iff.1 hb).1, live_slice (i := 0) ha rfl⟩
      | k + 1, hk => simp at hk)
    rfl rfl rfl (by decide) rfl rfl rfl (fun W w ρ0 hW hdom => ?_)
  refine w_seq ?_
  refine c_reg (by kernel_rfl) rfl ?_
  refine s_p (by first | exact h_assign (v := .s _) rfl | exact h_assign (v := .agg _) rfl | exact h_assign (v := .tup _) rfl) ?_
  refine s_nil ?_
  refine n_wp ?_
  refine w_seq ?_
  refine c_reg (by kernel_rfl) rfl ?_
  refine s_p (by first | exact h_move (v := .s _) rfl | exact h_move (v := .agg _) rfl | exact h_move (v := .tup _) rfl) ?_
  refine s_p (by first | exact h_move (v := .s _) rfl | exact h_move (v := .agg _) rfl | exact h_move (v := .tup _) rfl) ?_
  refine s_p (h_min (r := ((m : Nat) : Int)) rfl rfl (by split <;> omega)) ?_
  refine s_p (h_max (r := ((m : Nat) : Int)) rfl rfl (by split <;> omega)) ?_
  refine s_p (by first | exact h_move (v := .s _) rfl | exact h_move (v := .agg _) rfl | exact h_move (v := .tup _) rfl) ?_
  refine s_a (h_bsli1 rfl Try.underlying143 Try.sizeOf40 Try.zeroValue40 rfl rfl) rfl ?_
  refine s_a (h_call callable_59 rfl (row_s _ 0 0 1 0 m 1 tot len cap B [v] _ _ hBl hcap hlen rfl (fun i y hy => by rw [Nat.zero_add]; exact hy) rfl rfl (fun i y hy => by rw [Nat.zero_add]; exact hy) (by omega) hm (by omega) (by omega))) rfl ?_
  refine s_p (by first | exact h_assign (v := .s _) rfl | exact h_assign (v := .agg _) rfl | exact h_assign (v := .tup _) rfl) ?_
  refine s_nil ?_
  refine n_wp ?_
  refine w_ret ?_
  exact doneM (by repeat (first | exact trivial | refine ⟨rfl, ?_⟩)) (ret_tmp Try.results60 rfl)
set_option maxRecDepth 100000 in
set_option maxHeartbeats 2000000 in
theorem PutLong_n (H : Heap) (l : List Int) (hl : l.length = 4) : ACall Try.prog 32 H [.s .nils, .agg [.ints .u64 4 l]] (.s (.slice (H.length + 0) (0 + 0) 0 32 32)) [⟨true, [.ints .u8 32 (rr 32 8 4 [l.getD 3 0, l.getD 2 0, l.getD 1 0, l.getD 0 0] 4)]⟩] := by
  refine acall_gen2 (args0 := [.s .nils, .agg [.ints .u64 4 l]]) (H0 := []) (Hf := [none, none, some ⟨true, [.ints .u8 32 (rr 32 8 4 [l.getD 3 0, l.getD 2 0, l.getD 1 0, l.getD 0 0] 4)]⟩]) (v0 := .s (.slice 2 0 0 32 32)) [] [2] Try.func32 rfl Try.ntmps32 (by simp) rfl
    (fun k id sh b0 h1 h2 => by simp at h1) (fun W ρ vals w hH ha k id' sh' hk => by simp at hk) rfl rfl rfl (by decide) rfl rfl rfl (fun W w ρ0 hW hdom => ?_)
  refine w_seq ?_
  refine c_reg (by kernel_rfl) rfl ?_
  refine s_a (by first | exact h_box_agg rfl rfl | exact h_box rfl (by simp) rfl) rfl ?_
  refine s_p (by first | exact h_assign (v := .s _) rfl | exact h_assign (v := .agg _) rfl | exact h_assign (v := .tup _) rfl) ?_
  refine s_nil ?_
  refine n_wp ?_
  refine w_seq ?_
  refine c_reg (by kernel_rfl) rfl ?_
  refine s_p (by first | exact h_move (v := .s _) rfl | exact h_move (v := .agg _) rfl | exact h_move (v := .tup _) rfl) ?_
  refine s_p (h_ixl 3 rfl rfl rfl Try.underlying42 Try.sizeOf40 (by omega)) ?_
  refine s_p (by first | exact h_load_ints rfl rfl rfl (by omega) rfl Try.isAgg40 | exact h_load_one rfl rfl rfl Try.isAgg40) ?_
  refine s_p (h_ixl 2 rfl rfl rfl Try.underlying42 Try.sizeOf40 (by omega)) ?_
  refine s_p (by first | exact h_load_ints rfl rfl rfl (by omega) rfl Try.isAgg40 | exact h_load_one rfl rfl rfl Try.isAgg40) ?_
  refine s_p (h_ixl 1 rfl rfl rfl Try.underlying42 Try.sizeOf40 (by omega)) ?_
  refine s_p (by first | exact h_load_ints rfl rfl rfl (by omega) rfl Try.isAgg40 | exact h_load_one rfl rfl rfl Try.isAgg40) ?_
  refine s_p (h_ixl 0 rfl rfl rfl Try.underlying42 Try.sizeOf40 (by omega)) ?_
  refine s_p (by first | exact h_load_ints rfl rfl rfl (by omega) rfl Try.isAgg40 | exact h_load_one rfl rfl rfl Try.isAgg40) ?_
  refine s_a (h_bsli4 rfl rfl rfl rfl Try.underlying143 Try.sizeOf40 Try.zeroValue40 rfl rfl) rfl ?_
  refine s_a (h_call callable_59 rfl (row_n _ 1 0 8 4 32 _ _ rfl rfl (fun i y hy => by rw [Nat.zero_add]; exact hy) (by omega) (by omega) (by omega) (by omega))) rfl ?_
  refine s_p (by first | exact h_assign (v := .s _) rfl | exact h_assign (v := .agg _) rfl | exact h_assign (v := .tup _) rfl) ?_
  refine s_nil ?_
  refine n_wp ?_
  refine w_ret ?_
  exact doneM (by repeat (first | exact trivial | refine ⟨rfl, ?_⟩)) (ret_tmp Try.results32 rfl)
end Go.Proofs.X
