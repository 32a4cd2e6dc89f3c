/- A part of the proofs of this claim: KeyL2. No conditions. -/
import Derived.Test.YtffflnpidipheaaKeyL1
open Go Go.Ab Go.Proofs
namespace Go.Proofs.X
theorem callable_8 : Callable Try.prog 8 := ⟨_, Try.func8, by kernel_rfl, rfl⟩
set_option maxRecDepth 100000 in
set_option maxHeartbeats 2000000 in
theorem begin_law (H : Heap) (L ID : List Int) (n0 n1 : Nat) (hL : L.length = 4) (hID : ID.length = 32) (h0 : n0 < 65536) (h1 : n1 < 65536) : ACall Try.prog 8 H [.agg [.ints .u64 4 L], .agg [.ints .u8 32 ID], .agg [.ints .u16 2 [((n0 : Nat) : Int), ((n1 : Nat) : Int)]]] (.s (.bool true)) [] := by
  refine acall_gen2 (args0 := [.agg [.ints .u64 4 L], .agg [.ints .u8 32 ID], .agg [.ints .u16 2 [((n0 : Nat) : Int), ((n1 : Nat) : Int)]]]) (H0 := []) (Hf := []) (v0 := .s (.bool true)) [] [] Try.func8 rfl Try.ntmps8 (by simp) rfl
    (fun k id sh b0 h1 h2 => by simp at h1) (fun W ρ vals w hH ha k id' sh' hk => by simp at hk) rfl rfl rfl (by decide) rfl rfl rfl (fun W w ρ0 hW hdom => ?_)
  refine w_seq ?_
  refine c_reg (by kernel_rfl) rfl ?_
  refine s_a (by first | exact h_box_agg rfl rfl | exact h_box rfl (by simp) rfl) rfl ?_
  refine s_a (by first | exact h_box_agg rfl rfl | exact h_box rfl (by simp) rfl) rfl ?_
  refine s_a (by first | exact h_box_agg rfl rfl | exact h_box rfl (by simp) rfl) rfl ?_
  refine s_p (by first | exact h_assign (v := .s _) rfl | exact h_assign (v := .agg _) rfl | exact h_assign (v := .tup _) rfl) ?_
  refine s_nil ?_
  refine n_wp ?_
  refine w_seq ?_
  refine c_reg (by kernel_rfl) rfl ?_
  refine s_p (h_ixl 0 rfl rfl rfl Try.underlying45 Try.sizeOf30 (by omega)) ?_
  refine s_p (by first | exact h_load_ints rfl rfl rfl (by omega) rfl Try.isAgg30 | exact h_load_one rfl rfl rfl Try.isAgg30) ?_
  refine s_p (h_conv (r := ((n0 : Nat) : Int)) rfl Try.underlying30 Try.underlying3 (wr_n rfl (by omega))) ?_
  refine s_p (h_bin rfl rfl (b_rem (r := ((n0 % 1000 : Nat) : Int)) (by omega) rfl)) ?_
  refine s_p (by first | exact h_assign (v := .s _) rfl | exact h_assign (v := .agg _) rfl | exact h_assign (v := .tup _) rfl) ?_
  refine s_nil ?_
  refine n_wp ?_
  refine w_seq ?_
  refine c_reg (by kernel_rfl) rfl ?_
  refine s_p (by first | exact h_move (v := .s _) rfl | exact h_move (v := .agg _) rfl | exact h_move (v := .tup _) rfl) ?_
  refine s_p (h_ixl 1 rfl rfl rfl Try.underlying45 Try.sizeOf30 (by omega)) ?_
  refine s_p (by first | exact h_load_ints rfl rfl rfl (by omega) rfl Try.isAgg30 | exact h_load_one rfl rfl rfl Try.isAgg30) ?_
  refine s_p (h_conv (r := ((n1 : Nat) : Int)) rfl Try.underlying30 Try.underlying3 (wr_n rfl (by omega))) ?_
  refine s_p (h_bin rfl rfl (b_rem (r := ((n1 % 1000 : Nat) : Int)) (by omega) rfl)) ?_
  refine s_p (h_bin rfl rfl (b_add (r := ((n0 % 1000 + n1 % 1000 : Nat) : Int)) (wr_n (by omega) (by omega)))) ?_
  refine s_p (by first | exact h_assign (v := .s _) rfl | exact h_assign (v := .agg _) rfl | exact h_assign (v := .tup _) rfl) ?_
  refine s_nil ?_
  refine n_wp ?_
  refine w_seq ?_
  refine c_reg (by kernel_rfl) rfl ?_
  refine s_p (by first | exact h_load_agg rfl rfl (.whole rfl) Try.isAgg42 Try.sizeOf42 | exact h_load_agg rfl rfl (.seg rfl rfl) Try.isAgg42 Try.sizeOf42 | exact h_load_agg rfl rfl (.ints rfl (by omega)) Try.isAgg42 Try.sizeOf42) ?_
  refine s_p (by first | exact h_load_agg rfl rfl (.whole rfl) Try.isAgg44 Try.sizeOf44 | exact h_load_agg rfl rfl (.seg rfl rfl) Try.isAgg44 Try.sizeOf44 | exact h_load_agg rfl rfl (.ints rfl (by omega)) Try.isAgg44 Try.sizeOf44) ?_
  refine s_p (by first | exact h_move (v := .s _) rfl | exact h_move (v := .agg _) rfl | exact h_move (v := .tup _) rfl) ?_
  refine s_a (h_call callable_29 rfl (kOf_c _ L ID (n0 % 1000) hL hID (by omega))) rfl ?_
  refine s_p (by first | exact h_move (v := .s _) rfl | exact h_move (v := .agg _) rfl | exact h_move (v := .tup _) rfl) ?_
  refine s_p (h_extract rfl rfl (by simp)) ?_
  refine s_p (h_extract rfl rfl (by simp)) ?_
  refine s_p (by first | exact h_assign (v := .s _) rfl | exact h_assign (v := .agg _) rfl | exact h_assign (v := .tup _) rfl) ?_
  refine s_p (by first | exact h_assign (v := .s _) rfl | exact h_assign (v := .agg _) rfl | exact h_assign (v := .tup _) rfl) ?_
  refine s_nil ?_
  refine n_wp ?_
  refine w_seq ?_
  refine c_reg (by kernel_rfl) rfl ?_
  refine s_p (by first | exact h_load_agg rfl rfl (.whole rfl) Try.isAgg42 Try.sizeOf42 | exact h_load_agg rfl rfl (.seg rfl rfl) Try.isAgg42 Try.sizeOf42 | exact h_load_agg rfl rfl (.ints rfl (by omega)) Try.isAgg42 Try.sizeOf42) ?_
  refine s_p (by first | exact h_load_agg rfl rfl (.whole rfl) Try.isAgg44 Try.sizeOf44 | exact h_load_agg rfl rfl (.seg rfl rfl) Try.isAgg44 Try.sizeOf44 | exact h_load_agg rfl rfl (.ints rfl (by omega)) Try.isAgg44 Try.sizeOf44) ?_
  refine s_p (by first | exact h_move (v := .s _) rfl | exact h_move (v := .agg _) rfl | exact h_move (v := .tup _) rfl) ?_
  refine s_a (h_call callable_29 rfl (kOf_c _ L ID (n0 % 1000 + n1 % 1000) hL hID (by omega))) rfl ?_
  refine s_p (by first | exact h_move (v := .s _) rfl | exact h_move (v := .agg _) rfl | exact h_move (v := .tup _) rfl) ?_
  refine s_p (h_extract rfl rfl (by simp)) ?_
  refine s_p (h_extract rfl rfl (by simp)) ?_
  refine s_p (by first | exact h_assign (v := .s _) rfl | exact h_assign (v := .agg _) rfl | exact h_assign (v := .tup _) rfl) ?_
  refine s_p (by first | exact h_assign (v := .s _) rfl | exact h_assign (v := .agg _) rfl | exact h_assign (v := .tup _) rfl) ?_
  refine s_nil ?_
  refine n_wp ?_
  refine w_seq ?_
  refine c_reg (by kernel_rfl) rfl ?_
  refine s_p (by first | exact h_move (v := .s _) rfl | exact h_move (v := .agg _) rfl | exact h_move (v := .tup _) rfl) ?_
  refine s_p (h_bin rfl rfl (b_eql rfl)) ?_
  refine s_p (by first | exact h_move (v := .s _) rfl | exact h_move (v := .agg _) rfl | exact h_move (v := .tup _) rfl) ?_
  first | refine s_on rfl rfl (by first | rfl | assumption) (by first | exact h_move (v := .s _) rfl | exact h_move (v := .agg _) rfl | exact h_move (v := .tup _) rfl) ?_ | refine s_off rfl rfl (by first | rfl | assumption) ?_
  first | refine s_on rfl rfl (by first | rfl | assumption) (h_bin rfl rfl (b_eql rfl)) ?_ | refine s_off rfl rfl (by first | rfl | assumption) ?_
  refine s_p (by first | exact h_pick_t rfl (by first | rfl | assumption) rfl | exact h_pick_f rfl (by first | rfl | assumption) rfl) ?_
  refine s_p (by first | exact h_move (v := .s _) rfl | exact h_move (v := .agg _) rfl | exact h_move (v := .tup _) rfl) ?_
  first | refine s_on rfl rfl (by first | rfl | assumption) (by first | exact h_move (v := .s _) rfl | exact h_move (v := .agg _) rfl | exact h_move (v := .tup _) rfl) ?_ | refine s_off rfl rfl (by first | rfl | assumption) ?_
  first | refine s_on rfl rfl (by first | rfl | assumption) (by first | exact h_len rfl Try.underlying29 | exact h_len_nil rfl Try.underlying29 | exact h_len_val rfl Try.underlying29) ?_ | refine s_off rfl rfl (by first | rfl | assumption) ?_
  first | refine s_on rfl rfl (by first | rfl | assumption) (by first | exact h_move (v := .s _) rfl | exact h_move (v := .agg _) rfl | exact h_move (v := .tup _) rfl) ?_ | refine s_off rfl rfl (by first | rfl | assumption) ?_
  first | refine s_on rfl rfl (by first | rfl | assumption) (h_bin rfl rfl (b_eql (decide_eq_true rfl))) ?_ | refine s_off rfl rfl (by first | rfl | assumption) ?_
  refine s_p (by first | exact h_pick_t rfl (by first | rfl | assumption) rfl | exact h_pick_f rfl (by first | rfl | assumption) rfl) ?_
  refine s_p (by first | exact h_move (v := .s _) rfl | exact h_move (v := .agg _) rfl | exact h_move (v := .tup _) rfl) ?_
  first | refine s_on rfl rfl (by first | rfl | assumption) (by first | exact h_move (v := .s _) rfl | exact h_move (v := .agg _) rfl | exact h_move (v := .tup _) rfl) ?_ | refine s_off rfl rfl (by first | rfl | assumption) ?_
  first | refine s_on rfl rfl (by first | rfl | assumption) (by first | exact h_len rfl Try.underlying29 | exact h_len_nil rfl Try.underlying29 | exact h_len_val rfl Try.underlying29) ?_ | refine s_off rfl rfl (by first | rfl | assumption) ?_
  first | refine s_on rfl rfl (by first | rfl | assumption) (by first | exact h_move (v := .s _) rfl | exact h_move (v := .agg _) rfl | exact h_move (v := .tup _) rfl) ?_ | refine s_off rfl rfl (by first | rfl | assumption) ?_
  first | refine s_on rfl rfl (by first | rfl | assumption) (h_bin rfl rfl (b_eql (decide_eq_true rfl))) ?_ | refine s_off rfl rfl (by first | rfl | assumption) ?_
  refine s_p (by first | exact h_pick_t rfl (by first | rfl | assumption) rfl | exact h_pick_f rfl (by first | rfl | assumption) rfl) ?_
  refine s_p (by first | exact h_move (v := .s _) rfl | exact h_move (v := .agg _) rfl | exact h_move (v := .tup _) rfl) ?_
  first | refine s_on rfl rfl (by first | rfl | assumption) (by first | exact h_move (v := .s _) rfl | exact h_move (v := .agg _) rfl | exact h_move (v := .tup _) rfl) ?_ | refine s_off rfl rfl (by first | rfl | assumption) ?_
  first | refine s_on rfl rfl (by first | rfl | assumption) (by first | exact h_move (v := .s _) rfl | exact h_move (v := .agg _) rfl | exact h_move (v := .tup _) rfl) ?_ | refine s_off rfl rfl (by first | rfl | assumption) ?_
  first | refine s_on rfl rfl (by first | rfl | assumption) (by first | exact h_move (v := .s _) rfl | exact h_move (v := .agg _) rfl | exact h_move (v := .tup _) rfl) ?_ | refine s_off rfl rfl (by first | rfl | assumption) ?_
  first | refine s_on rfl rfl (by first | rfl | assumption) (h_slice_h (h := (n0 % 1000)) rfl rfl rfl Try.underlying29 Try.sizeOf5 (by omega)) ?_ | refine s_off rfl rfl (by first | rfl | assumption) ?_
  first | refine s_on rfl rfl (by first | rfl | assumption) (h_call callable_27 rfl (same_ss (((kmOf ID L (n0 % 1000)).drop 0).take (n0 % 1000)) (n0 % 1000) _ _ (by omega) _ 3 0 0 ((n0 % 1000) + 32) _ (kmOf ID L (n0 % 1000)) rfl rfl (by omega) rfl 4 0 0 ((n0 % 1000 + n1 % 1000) + 32) _ (kmOf ID L (n0 % 1000 + n1 % 1000)) rfl rfl (by omega) (kmOf_begin ID L (n0 % 1000) (n0 % 1000 + n1 % 1000) (by omega)).symm)) ?_ | refine s_off rfl rfl (by first | rfl | assumption) ?_
  refine s_p (by first | exact h_pick_t rfl (by first | rfl | assumption) rfl | exact h_pick_f rfl (by first | rfl | assumption) rfl) ?_
  refine s_p (by first | exact h_move (v := .s _) rfl | exact h_move (v := .agg _) rfl | exact h_move (v := .tup _) rfl) ?_
  first | refine s_on rfl rfl (by first | rfl | assumption) (h_call callable_30 rfl (lives10 _)) ?_ | refine s_off rfl rfl (by first | rfl | assumption) ?_
  refine s_p (by first | exact h_pick_t rfl (by first | rfl | assumption) rfl | exact h_pick_f rfl (by first | rfl | assumption) rfl) ?_
  refine s_p (by first | exact h_assign (v := .s _) rfl | exact h_assign (v := .agg _) rfl | exact h_assign (v := .tup _) rfl) ?_
  refine s_nil ?_
  refine n_wp ?_
  refine w_ret ?_
  exact doneM (by repeat (first | exact trivial | refine ⟨rfl, ?_⟩)) (ret_tmp Try.results8 rfl)
end Go.Proofs.X
