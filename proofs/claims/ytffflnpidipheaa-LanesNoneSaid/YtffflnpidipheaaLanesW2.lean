/- A part of the proofs of this claim: LanesW2. No conditions. -/
import Derived.Test.YtffflnpidipheaaLanesW1
open Go Go.Ab Go.Proofs
namespace Go.Proofs.X
def I16 (n : Nat) (T : Tm) (H : Heap) : Prop := ∃ k : Nat, k ≤ 2 ∧ n = 2 - k ∧ T = [(3, .s (.slice 1 0 0 2 2)), (4, .s (.slice 3 0 0 2 2)), (5, .s (.int .i64 k))] ∧ H = [some ⟨true, S77⟩, some ⟨true, [.one .nilp, .one (.ptr 0 0 0)]⟩, some ⟨true, S82⟩, some ⟨true, [.one .nilp, .one (.ptr 2 0 0)]⟩]
theorem callable_16 : Callable Try.prog 16 := ⟨_, Try.func16, by kernel_rfl, rfl⟩
set_option maxRecDepth 100000 in
set_option maxHeartbeats 2000000 in
theorem LanesNone_c (H : Heap) : ACall Try.prog 16 H [.s .junk] (.s (.bool true)) [] := by
  refine acall_free Try.func16 rfl Try.ntmps16 (by simp) rfl rfl (fun W w hW => ?_) H
  refine w_seq ?_
  refine c_reg (by kernel_rfl) rfl ?_
  refine s_p (by first | exact h_assign (v := .s _) rfl | exact h_assign (v := .agg _) rfl | exact h_assign (v := .tup _) rfl) ?_
  refine s_nil ?_
  refine n_wp ?_
  refine w_seq ?_
  refine c_reg (by kernel_rfl) rfl ?_
  refine s_p (h_build0 (segs := S77) build0_77 (by kernel_rfl)) ?_
  refine s_a (by first | exact h_box_agg rfl rfl | exact h_box rfl (by simp) rfl) rfl ?_
  refine s_a (h_bsl2 rfl rfl (by simp) (by simp) Try.underlying78 Try.sizeOf73 Try.zeroValue73 rfl) rfl ?_
  refine s_p (by first | exact h_assign (v := .s _) rfl | exact h_assign (v := .agg _) rfl | exact h_assign (v := .tup _) rfl) ?_
  refine s_nil ?_
  refine n_wp ?_
  refine w_seq ?_
  refine c_reg (by kernel_rfl) rfl ?_
  refine s_p (h_build0 (segs := S82) build0_82 (by kernel_rfl)) ?_
  refine s_a (by first | exact h_box_agg rfl rfl | exact h_box rfl (by simp) rfl) rfl ?_
  refine s_a (h_bsl2 rfl rfl (by simp) (by simp) Try.underlying83 Try.sizeOf79 Try.zeroValue79 rfl) rfl ?_
  refine s_p (by first | exact h_assign (v := .s _) rfl | exact h_assign (v := .agg _) rfl | exact h_assign (v := .tup _) rfl) ?_
  refine s_nil ?_
  refine n_wp ?_
  refine w_seq ?_
  refine w_seq ?_
  refine c_reg (by kernel_rfl) rfl ?_
  refine s_p (by first | exact h_assign (v := .s _) rfl | exact h_assign (v := .agg _) rfl | exact h_assign (v := .tup _) rfl) ?_
  refine s_nil ?_
  refine n_wp ?_
  refine w_block ?_
  refine c_loop (I16) 2 ⟨0, by omega, rfl, rfl, rfl⟩ (weak' (by repeat (first | exact trivial | refine ⟨rfl, ?_⟩)) rfl rfl (Nat.le_of_ble_eq_true rfl)) ?_
  rintro n T H ⟨k, hk, rfl, rfl, rfl⟩
  refine w_seq ?_
  refine w_seq ?_
  refine c_reg (by kernel_rfl) rfl ?_
  refine s_p (by first | exact h_move (v := .s _) rfl | exact h_move (v := .agg _) rfl | exact h_move (v := .tup _) rfl) ?_
  refine s_p (h_bin rfl rfl (b_lss rfl)) ?_
  refine s_nil ?_
  refine n_wp ?_
  refine w_cond rfl (fun hc_t19 => ?_) (fun hc_t19 => ?_)
  · skip
    have hlt : k = 0 ∨ k = 1 := by have := of_decide_eq_true hc_t19; omega
    rcases hlt with rfl | rfl <;> (
      skip
      refine w_skip ?_
      refine n_wp ?_
      refine w_seq ?_
      refine w_block ?_
      refine w_seq ?_
      refine c_reg (by kernel_rfl) rfl ?_
      refine s_p (by first | exact h_move (v := .s _) rfl | exact h_move (v := .agg _) rfl | exact h_move (v := .tup _) rfl) ?_
      refine s_p (by first | exact h_move (v := .s _) rfl | exact h_move (v := .agg _) rfl | exact h_move (v := .tup _) rfl) ?_
      refine s_p (by first | exact h_ixs0 rfl rfl Try.underlying78 Try.sizeOf73 (by omega) | exact h_ixs rfl rfl Try.underlying78 Try.sizeOf73 (by omega) | exact h_ixsx rfl rfl Try.underlying78 Try.sizeOf73 (by omega)) ?_
      refine s_p (by first | exact h_load_one rfl rfl rfl Try.isAgg73 | exact h_load rfl rfl rfl Try.isAgg73) ?_
      refine s_p (by first | exact h_move (v := .s _) rfl | exact h_move (v := .agg _) rfl | exact h_move (v := .tup _) rfl) ?_
      refine s_p (h_call callable_39 rfl (by first | exact f39_nil _ | exact f39_zero _ _ rfl)) ?_
      refine s_p (by first | exact h_move (v := .s _) rfl | exact h_move (v := .agg _) rfl | exact h_move (v := .tup _) rfl) ?_
      refine s_p (h_extract rfl rfl (by simp)) ?_
      refine s_p (h_extract rfl rfl (by simp)) ?_
      refine s_p (h_extract rfl rfl (by simp)) ?_
      refine s_p (by first | exact h_assign (v := .s _) rfl | exact h_assign (v := .agg _) rfl | exact h_assign (v := .tup _) rfl) ?_
      refine s_p (by first | exact h_assign (v := .s _) rfl | exact h_assign (v := .agg _) rfl | exact h_assign (v := .tup _) rfl) ?_
      refine s_p (by first | exact h_assign (v := .s _) rfl | exact h_assign (v := .agg _) rfl | exact h_assign (v := .tup _) rfl) ?_
      refine s_nil ?_
      refine n_wp ?_
      refine w_seq ?_
      refine c_reg (by kernel_rfl) rfl ?_
      refine s_p (by first | exact h_move (v := .s _) rfl | exact h_move (v := .agg _) rfl | exact h_move (v := .tup _) rfl) ?_
      refine s_p (by first | exact h_move (v := .s _) rfl | exact h_move (v := .agg _) rfl | exact h_move (v := .tup _) rfl) ?_
      refine s_p (by first | exact h_ixs0 rfl rfl Try.underlying83 Try.sizeOf79 (by omega) | exact h_ixs rfl rfl Try.underlying83 Try.sizeOf79 (by omega) | exact h_ixsx rfl rfl Try.underlying83 Try.sizeOf79 (by omega)) ?_
      refine s_p (by first | exact h_load_one rfl rfl rfl Try.isAgg79 | exact h_load rfl rfl rfl Try.isAgg79) ?_
      refine s_p (by first | exact h_move (v := .s _) rfl | exact h_move (v := .agg _) rfl | exact h_move (v := .tup _) rfl) ?_
      refine s_p (h_call callable_40 rfl (by first | exact f40_nil _ | exact f40_zero _ _ rfl)) ?_
      refine s_p (by first | exact h_move (v := .s _) rfl | exact h_move (v := .agg _) rfl | exact h_move (v := .tup _) rfl) ?_
      refine s_p (h_extract rfl rfl (by simp)) ?_
      refine s_p (h_extract rfl rfl (by simp)) ?_
      refine s_p (h_extract rfl rfl (by simp)) ?_
      refine s_p (by first | exact h_assign (v := .s _) rfl | exact h_assign (v := .agg _) rfl | exact h_assign (v := .tup _) rfl) ?_
      refine s_p (by first | exact h_assign (v := .s _) rfl | exact h_assign (v := .agg _) rfl | exact h_assign (v := .tup _) rfl) ?_
      refine s_p (by first | exact h_assign (v := .s _) rfl | exact h_assign (v := .agg _) rfl | exact h_assign (v := .tup _) rfl) ?_
      refine s_nil ?_
      refine n_wp ?_
      refine w_seq ?_
      refine c_reg (by kernel_rfl) rfl ?_
      refine s_p (by first | exact h_move (v := .s _) rfl | exact h_move (v := .agg _) rfl | exact h_move (v := .tup _) rfl) ?_
      refine s_p (h_bin rfl rfl (b_neq rfl)) ?_
      refine s_p (by first | exact h_move (v := .s _) rfl | exact h_move (v := .agg _) rfl | exact h_move (v := .tup _) rfl) ?_
      first | refine s_on rfl rfl (by first | rfl | assumption) (by first | exact h_move (v := .s _) rfl | exact h_move (v := .agg _) rfl | exact h_move (v := .tup _) rfl) ?_ | refine s_off rfl rfl (by first | rfl | assumption) ?_
      first | refine s_on rfl rfl (by first | rfl | assumption) (h_bin rfl rfl (b_neq rfl)) ?_ | refine s_off rfl rfl (by first | rfl | assumption) ?_
      refine s_p (by first | exact h_pick_t rfl (by first | rfl | assumption) rfl | exact h_pick_f rfl (by first | rfl | assumption) rfl) ?_
      refine s_p (by first | exact h_move (v := .s _) rfl | exact h_move (v := .agg _) rfl | exact h_move (v := .tup _) rfl) ?_
      first | refine s_on rfl rfl (by first | rfl | assumption) (by first | exact h_move (v := .s _) rfl | exact h_move (v := .agg _) rfl | exact h_move (v := .tup _) rfl) ?_ | refine s_off rfl rfl (by first | rfl | assumption) ?_
      first | refine s_on rfl rfl (by first | rfl | assumption) (by first | exact h_len rfl Try.underlying29 | exact h_len_slx rfl Try.underlying29 | exact h_len_nil rfl Try.underlying29) ?_ | refine s_off rfl rfl (by first | rfl | assumption) ?_
      first | refine s_on rfl rfl (by first | rfl | assumption) (h_bin rfl rfl (b_neq rfl)) ?_ | refine s_off rfl rfl (by first | rfl | assumption) ?_
      refine s_p (by first | exact h_pick_t rfl (by first | rfl | assumption) rfl | exact h_pick_f rfl (by first | rfl | assumption) rfl) ?_
      refine s_p (by first | exact h_move (v := .s _) rfl | exact h_move (v := .agg _) rfl | exact h_move (v := .tup _) rfl) ?_
      first | refine s_on rfl rfl (by first | rfl | assumption) (by first | exact h_move (v := .s _) rfl | exact h_move (v := .agg _) rfl | exact h_move (v := .tup _) rfl) ?_ | refine s_off rfl rfl (by first | rfl | assumption) ?_
      first | refine s_on rfl rfl (by first | rfl | assumption) (by first | exact h_len rfl Try.underlying29 | exact h_len_slx rfl Try.underlying29 | exact h_len_nil rfl Try.underlying29) ?_ | refine s_off rfl rfl (by first | rfl | assumption) ?_
      first | refine s_on rfl rfl (by first | rfl | assumption) (h_bin rfl rfl (b_neq rfl)) ?_ | refine s_off rfl rfl (by first | rfl | assumption) ?_
      refine s_p (by first | exact h_pick_t rfl (by first | rfl | assumption) rfl | exact h_pick_f rfl (by first | rfl | assumption) rfl) ?_
      refine s_p (by first | exact h_move (v := .s _) rfl | exact h_move (v := .agg _) rfl | exact h_move (v := .tup _) rfl) ?_
      first | refine s_on rfl rfl (by first | rfl | assumption) (by first | exact h_move (v := .s _) rfl | exact h_move (v := .agg _) rfl | exact h_move (v := .tup _) rfl) ?_ | refine s_off rfl rfl (by first | rfl | assumption) ?_
      first | refine s_on rfl rfl (by first | rfl | assumption) (h_bin rfl rfl (b_neq rfl)) ?_ | refine s_off rfl rfl (by first | rfl | assumption) ?_
      refine s_p (by first | exact h_pick_t rfl (by first | rfl | assumption) rfl | exact h_pick_f rfl (by first | rfl | assumption) rfl) ?_
      refine s_p (by first | exact h_move (v := .s _) rfl | exact h_move (v := .agg _) rfl | exact h_move (v := .tup _) rfl) ?_
      first | refine s_on rfl rfl (by first | rfl | assumption) (by first | exact h_move (v := .s _) rfl | exact h_move (v := .agg _) rfl | exact h_move (v := .tup _) rfl) ?_ | refine s_off rfl rfl (by first | rfl | assumption) ?_
      first | refine s_on rfl rfl (by first | rfl | assumption) (h_bin rfl rfl (b_neq rfl)) ?_ | refine s_off rfl rfl (by first | rfl | assumption) ?_
      refine s_p (by first | exact h_pick_t rfl (by first | rfl | assumption) rfl | exact h_pick_f rfl (by first | rfl | assumption) rfl) ?_
      refine s_p (by first | exact h_move (v := .s _) rfl | exact h_move (v := .agg _) rfl | exact h_move (v := .tup _) rfl) ?_
      first | refine s_on rfl rfl (by first | rfl | assumption) (by first | exact h_move (v := .s _) rfl | exact h_move (v := .agg _) rfl | exact h_move (v := .tup _) rfl) ?_ | refine s_off rfl rfl (by first | rfl | assumption) ?_
      first | refine s_on rfl rfl (by first | rfl | assumption) (by first | exact h_move (v := .s _) rfl | exact h_move (v := .agg _) rfl | exact h_move (v := .tup _) rfl) ?_ | refine s_off rfl rfl (by first | rfl | assumption) ?_
      first | refine s_on rfl rfl (by first | rfl | assumption) (by first | exact h_ixs0 rfl rfl Try.underlying78 Try.sizeOf73 (by omega) | exact h_ixs rfl rfl Try.underlying78 Try.sizeOf73 (by omega) | exact h_ixsx rfl rfl Try.underlying78 Try.sizeOf73 (by omega)) ?_ | refine s_off rfl rfl (by first | rfl | assumption) ?_
      first | refine s_on rfl rfl (by first | rfl | assumption) (by first | exact h_load_one rfl rfl rfl Try.isAgg73 | exact h_load rfl rfl rfl Try.isAgg73) ?_ | refine s_off rfl rfl (by first | rfl | assumption) ?_
      first | refine s_on rfl rfl (by first | rfl | assumption) (h_call callable_41 rfl (by first | exact f41_nil _ | exact f41_zero _ _ rfl)) ?_ | refine s_off rfl rfl (by first | rfl | assumption) ?_
      first | refine s_on rfl rfl (by first | rfl | assumption) (h_bin rfl rfl (b_neq rfl)) ?_ | refine s_off rfl rfl (by first | rfl | assumption) ?_
      refine s_p (by first | exact h_pick_t rfl (by first | rfl | assumption) rfl | exact h_pick_f rfl (by first | rfl | assumption) rfl) ?_
      refine s_p (by first | exact h_move (v := .s _) rfl | exact h_move (v := .agg _) rfl | exact h_move (v := .tup _) rfl) ?_
      first | refine s_on rfl rfl (by first | rfl | assumption) (by first | exact h_move (v := .s _) rfl | exact h_move (v := .agg _) rfl | exact h_move (v := .tup _) rfl) ?_ | refine s_off rfl rfl (by first | rfl | assumption) ?_
      first | refine s_on rfl rfl (by first | rfl | assumption) (by first | exact h_move (v := .s _) rfl | exact h_move (v := .agg _) rfl | exact h_move (v := .tup _) rfl) ?_ | refine s_off rfl rfl (by first | rfl | assumption) ?_
      first | refine s_on rfl rfl (by first | rfl | assumption) (by first | exact h_ixs0 rfl rfl Try.underlying83 Try.sizeOf79 (by omega) | exact h_ixs rfl rfl Try.underlying83 Try.sizeOf79 (by omega) | exact h_ixsx rfl rfl Try.underlying83 Try.sizeOf79 (by omega)) ?_ | refine s_off rfl rfl (by first | rfl | assumption) ?_
      first | refine s_on rfl rfl (by first | rfl | assumption) (by first | exact h_load_one rfl rfl rfl Try.isAgg79 | exact h_load rfl rfl rfl Try.isAgg79) ?_ | refine s_off rfl rfl (by first | rfl | assumption) ?_
      first | refine s_on rfl rfl (by first | rfl | assumption) (h_call callable_42 rfl (by first | exact f42_nil _ | exact f42_zero _ _ rfl)) ?_ | refine s_off rfl rfl (by first | rfl | assumption) ?_
      first | refine s_on rfl rfl (by first | rfl | assumption) (h_bin rfl rfl (b_neq rfl)) ?_ | refine s_off rfl rfl (by first | rfl | assumption) ?_
      refine s_p (by first | exact h_pick_t rfl (by first | rfl | assumption) rfl | exact h_pick_f rfl (by first | rfl | assumption) rfl) ?_
      refine s_p (by first | exact h_move (v := .s _) rfl | exact h_move (v := .agg _) rfl | exact h_move (v := .tup _) rfl) ?_
      first | refine s_on rfl rfl (by first | rfl | assumption) (by first | exact h_move (v := .s _) rfl | exact h_move (v := .agg _) rfl | exact h_move (v := .tup _) rfl) ?_ | refine s_off rfl rfl (by first | rfl | assumption) ?_
      first | refine s_on rfl rfl (by first | rfl | assumption) (by first | exact h_move (v := .s _) rfl | exact h_move (v := .agg _) rfl | exact h_move (v := .tup _) rfl) ?_ | refine s_off rfl rfl (by first | rfl | assumption) ?_
      first | refine s_on rfl rfl (by first | rfl | assumption) (by first | exact h_ixs0 rfl rfl Try.underlying83 Try.sizeOf79 (by omega) | exact h_ixs rfl rfl Try.underlying83 Try.sizeOf79 (by omega) | exact h_ixsx rfl rfl Try.underlying83 Try.sizeOf79 (by omega)) ?_ | refine s_off rfl rfl (by first | rfl | assumption) ?_
      first | refine s_on rfl rfl (by first | rfl | assumption) (by first | exact h_load_one rfl rfl rfl Try.isAgg79 | exact h_load rfl rfl rfl Try.isAgg79) ?_ | refine s_off rfl rfl (by first | rfl | assumption) ?_
      first | refine s_on rfl rfl (by first | rfl | assumption) (h_call callable_43 rfl (by first | exact f43_nil _ | exact f43_zero _ _ rfl)) ?_ | refine s_off rfl rfl (by first | rfl | assumption) ?_
      first | refine s_on rfl rfl (by first | rfl | assumption) (h_bin rfl rfl (b_neq rfl)) ?_ | refine s_off rfl rfl (by first | rfl | assumption) ?_
      refine s_p (by first | exact h_pick_t rfl (by first | rfl | assumption) rfl | exact h_pick_f rfl (by first | rfl | assumption) rfl) ?_
      refine s_nil ?_
      refine n_wp ?_
      refine w_cond rfl (fun hc_t89 => ?_) (fun hc_t89 => ?_)
      · exact absurd hc_t89 (by simp)
      refine w_skip ?_
      refine n_blo ?_
      refine n_wp ?_
      refine c_reg (by kernel_rfl) rfl ?_
      refine s_p (by first | exact h_move (v := .s _) rfl | exact h_move (v := .agg _) rfl | exact h_move (v := .tup _) rfl) ?_
      refine s_p (by first | exact h_bin rfl rfl (b_add (Go.IntWalk.i64_in _ (by omega))) | exact h_bin rfl rfl (b_add rfl)) ?_
      refine s_p (by first | exact h_assign (v := .s _) rfl | exact h_assign (v := .agg _) rfl | exact h_assign (v := .tup _) rfl) ?_
      refine s_nil ?_
      first | exact n_round 1 (by omega) ⟨1, by omega, rfl, rfl, rfl⟩ (weak' (by repeat (first | exact trivial | refine ⟨rfl, ?_⟩)) rfl rfl (Nat.le_of_ble_eq_true rfl)) | exact n_round 0 (by omega) ⟨2, by omega, rfl, rfl, rfl⟩ (weak' (by repeat (first | exact trivial | refine ⟨rfl, ?_⟩)) rfl rfl (Nat.le_of_ble_eq_true rfl))
    )
  · skip
    obtain rfl : k = 2 := by have := of_decide_eq_false hc_t19; omega
    refine w_exit ?_
    refine x_thn ?_
    refine x_thn ?_
    refine x_eq ?_
    refine n_wp ?_
    refine w_seq ?_
    refine c_reg (by kernel_rfl) rfl ?_
    refine s_p (by first | exact h_assign (v := .s _) rfl | exact h_assign (v := .agg _) rfl | exact h_assign (v := .tup _) rfl) ?_
    refine s_nil ?_
    refine n_wp ?_
    refine w_ret ?_
    exact ⟨.inl rfl, ret_tmp Try.results16 rfl⟩
end Go.Proofs.X
