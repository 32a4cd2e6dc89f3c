/- A part of the proofs of this claim: CloseW2 (CloseW2). No conditions. -/
import Derived.Test.YthlkbpkjmkdilaaGreatCloseW1
set_option linter.unusedVariables false
set_option linter.unusedSimpArgs false
open Go Go.Ab Go.Proofs
namespace Go.Proofs.X
def I3 (pk : Int) (f t : List Int) (ps : Value) (n : Nat) (T : Tm) (H : Heap) : Prop := ∃ k : Nat, k ≤ 2 ∧ n = 2 - k ∧ T = [(1, .s (.ptr 0 0 0)), (4, .s (.int .i64 1)), (5, .s (.slice 2 0 0 2 2)), (6, .s (.int .i64 k))] ∧ H = [some ⟨true, [.one (.int .u8 pk), .ints .u8 16 f, .ints .u8 16 t, .one (.val ps)]⟩, some ⟨true, S54⟩, some ⟨true, [.one .nilp, .one (.ptr 1 0 0)]⟩]
set_option maxRecDepth 100000 in
set_option maxHeartbeats 4000000 in
theorem ClosesNone_c (H : Heap) (pk : Int) (f t : List Int) (ps : Value) : ACall Tryz.prog 3 H [.agg [.one (.int .u8 pk), .ints .u8 16 f, .ints .u8 16 t, .one (.val ps)]] (.s (.bool true)) [] := by
  refine acall_free Tryz.func3 rfl Tryz.ntmps3 (by simp) rfl rfl (fun W w hW => ?_) H
  refine w_seq ?_
  refine c_reg (by kernel_rfl) rfl ?_
  refine s_a (by first | exact h_box_agg rfl rfl | exact h_box rfl (by simp) rfl) rfl ?_
  refine s_p (by first | exact h_assign (v := .s _) rfl | exact h_assign (v := .agg _) rfl | exact h_assign (v := .tup _) rfl) ?_
  refine s_nil ?_
  refine n_wp ?_
  refine w_seq ?_
  refine c_reg (by kernel_rfl) rfl ?_
  refine s_p (h_build0 (segs := [.ints .u64 4 (List.replicate 4 0), .ints .u64 4 (List.replicate 4 0), .ints .u64 4 (List.replicate 4 0), .ints .u64 4 (List.replicate 4 0), .ints .u8 32 (List.replicate 32 0)]) build0_40 (by kernel_rfl)) ?_
  refine s_p (h_build0 (segs := S45) build0_45 (by kernel_rfl)) ?_
  refine s_p (h_build0 (segs := [.ints .u64 4 (List.replicate 4 0)]) build0_34 (by kernel_rfl)) ?_
  refine s_p (h_build0 (segs := [.ints .u8 32 (List.replicate 32 0)]) build0_38 (by kernel_rfl)) ?_
  refine s_p (h_call callable_7 rfl (CNew_z _)) ?_
  refine s_p (by first | exact h_move (v := .s _) rfl | exact h_move (v := .agg _) rfl | exact h_move (v := .tup _) rfl) ?_
  refine s_p (h_extract rfl rfl (by simp)) ?_
  refine s_p (h_extract rfl rfl (by simp)) ?_
  refine s_p (by first | exact h_assign (v := .s _) rfl | exact h_assign (v := .agg _) rfl | exact h_assign (v := .tup _) rfl) ?_
  refine s_p (by first | exact h_assign (v := .s _) rfl | exact h_assign (v := .agg _) rfl | exact h_assign (v := .tup _) rfl) ?_
  refine s_nil ?_
  refine n_wp ?_
  refine w_seq ?_
  refine c_reg (by kernel_rfl) rfl ?_
  refine s_p (h_build0 (segs := S54) build0_54 (by kernel_rfl)) ?_
  refine s_a (by first | exact h_box_agg rfl rfl | exact h_box rfl (by simp) rfl) rfl ?_
  refine s_a (h_bsls2 rfl rfl (by simp) (by simp) Tryz.underlying55 Tryz.sizeOf28 Tryz.zeroValue28 rfl rfl) rfl ?_
  refine s_p (by first | exact h_assign (v := .s _) rfl | exact h_assign (v := .agg _) rfl | exact h_assign (v := .tup _) rfl) ?_
  refine s_nil ?_
  refine n_wp ?_
  refine w_seq ?_
  refine w_seq ?_
  refine c_reg (by kernel_rfl) rfl ?_
  refine s_p (by first | exact h_assign (v := .s _) rfl | exact h_assign (v := .agg _) rfl | exact h_assign (v := .tup _) rfl) ?_
  refine s_nil ?_
  refine n_wp ?_
  refine w_block ?_
  refine c_loop (I3 pk f t ps) 2 ⟨0, by omega, rfl, rfl, rfl⟩ (weak' (by repeat (first | exact trivial | refine ⟨rfl, ?_⟩)) rfl rfl (Nat.le_of_ble_eq_true rfl)) ?_
  rintro n T H ⟨k, hk, rfl, rfl, rfl⟩
  refine w_seq ?_
  refine w_seq ?_
  refine c_reg (by kernel_rfl) rfl ?_
  refine s_p (by first | exact h_move (v := .s _) rfl | exact h_move (v := .agg _) rfl | exact h_move (v := .tup _) rfl) ?_
  refine s_p (by first | exact h_move (v := .s _) rfl | exact h_move (v := .agg _) rfl | exact h_move (v := .tup _) rfl) ?_
  refine s_p (by first | exact h_len rfl Tryz.underlying55 | exact h_len_nil rfl Tryz.underlying55 | exact h_len_slx rfl Tryz.underlying55 | exact h_len_val rfl Tryz.underlying55) ?_
  refine s_p (h_bin rfl rfl (b_lss rfl)) ?_
  refine s_nil ?_
  refine n_wp ?_
  refine w_cond rfl (fun hc_t21 => ?_) (fun hc_t21 => ?_)
  · skip
    have hlt : k = 0 ∨ k = 1 := by have := of_decide_eq_true hc_t21; omega
    rcases hlt with rfl | rfl <;> (
      skip
      refine w_skip ?_
      refine n_wp ?_
      refine w_seq ?_
      refine w_block ?_
      refine w_seq ?_
      refine c_any 18 mix (by kernel_rfl) (by kernel_rfl) rfl rfl rfl ?_
      refine t_p (by first | exact h_move (v := .s _) rfl | exact h_move (v := .agg _) rfl | exact h_move (v := .tup _) rfl) ?_
      refine t_p (by first | exact h_move (v := .s _) rfl | exact h_move (v := .agg _) rfl | exact h_move (v := .tup _) rfl) ?_
      refine t_p (by first | exact h_ixs0 rfl rfl Tryz.underlying55 Tryz.sizeOf28 (by omega) | exact h_ixs rfl rfl Tryz.underlying55 Tryz.sizeOf28 (by omega) | exact h_ixsx rfl rfl Tryz.underlying55 Tryz.sizeOf28 (by omega)) ?_
      refine t_p (by first | exact h_load_one rfl rfl rfl Tryz.isAgg28 | exact h_load rfl rfl rfl Tryz.isAgg28) ?_
      refine t_p (by first | exact h_load_agg rfl rfl (.whole rfl) Tryz.isAgg27 Tryz.sizeOf27 | exact h_load_agg rfl rfl (.seg rfl rfl) Tryz.isAgg27 Tryz.sizeOf27 | exact h_load_agg rfl rfl (.ints rfl (by omega)) Tryz.isAgg27 Tryz.sizeOf27) ?_
      refine t_p (h_call callable_8 rfl (by first | exact CCame_nil _ _ _ _ _ | exact CCame_zero _ _ _ rfl rfl _ _ _ _)) ?_
      refine t_p (h_bin rfl rfl (b_neq rfl)) ?_
      refine t_p (by first | exact h_move (v := .s _) rfl | exact h_move (v := .agg _) rfl | exact h_move (v := .tup _) rfl) ?_
      first | refine t_on rfl rfl (by first | rfl | assumption) (by first | exact h_move (v := .s _) rfl | exact h_move (v := .agg _) rfl | exact h_move (v := .tup _) rfl) ?_ | refine t_off rfl rfl (by first | rfl | assumption) ?_
      first | refine t_on rfl rfl (by first | rfl | assumption) (by first | exact h_move (v := .s _) rfl | exact h_move (v := .agg _) rfl | exact h_move (v := .tup _) rfl) ?_ | refine t_off rfl rfl (by first | rfl | assumption) ?_
      first | refine t_on rfl rfl (by first | rfl | assumption) (by first | exact h_ixs0 rfl rfl Tryz.underlying55 Tryz.sizeOf28 (by omega) | exact h_ixs rfl rfl Tryz.underlying55 Tryz.sizeOf28 (by omega) | exact h_ixsx rfl rfl Tryz.underlying55 Tryz.sizeOf28 (by omega)) ?_ | refine t_off rfl rfl (by first | rfl | assumption) ?_
      first | refine t_on rfl rfl (by first | rfl | assumption) (by first | exact h_load_one rfl rfl rfl Tryz.isAgg28 | exact h_load rfl rfl rfl Tryz.isAgg28) ?_ | refine t_off rfl rfl (by first | rfl | assumption) ?_
      first | refine t_on rfl rfl (by first | rfl | assumption) (h_call callable_9 rfl (by first | exact CTick_nil _ | exact CTick_zero _ _ _ rfl rfl)) ?_ | refine t_off rfl rfl (by first | rfl | assumption) ?_
      first | refine t_on rfl rfl (by first | rfl | assumption) (h_bin rfl rfl (b_neq rfl)) ?_ | refine t_off rfl rfl (by first | rfl | assumption) ?_
      refine t_p (by first | exact h_pick_t rfl (by first | rfl | assumption) rfl | exact h_pick_f rfl (by first | rfl | assumption) rfl) ?_
      refine t_p (by first | exact h_move (v := .s _) rfl | exact h_move (v := .agg _) rfl | exact h_move (v := .tup _) rfl) ?_
      first | refine t_on rfl rfl (by first | rfl | assumption) (by first | exact h_move (v := .s _) rfl | exact h_move (v := .agg _) rfl | exact h_move (v := .tup _) rfl) ?_ | refine t_off rfl rfl (by first | rfl | assumption) ?_
      first | refine t_on rfl rfl (by first | rfl | assumption) (by first | exact h_move (v := .s _) rfl | exact h_move (v := .agg _) rfl | exact h_move (v := .tup _) rfl) ?_ | refine t_off rfl rfl (by first | rfl | assumption) ?_
      refine t_nil ?_
      first | refine s_on rfl rfl (by first | rfl | assumption) (by first | exact h_ixs0 rfl rfl Tryz.underlying55 Tryz.sizeOf28 (by omega) | exact h_ixs rfl rfl Tryz.underlying55 Tryz.sizeOf28 (by omega) | exact h_ixsx rfl rfl Tryz.underlying55 Tryz.sizeOf28 (by omega)) ?_ | refine s_off rfl rfl (by first | rfl | assumption) ?_
      first | refine s_on rfl rfl (by first | rfl | assumption) (by first | exact h_load_one rfl rfl rfl Tryz.isAgg28 | exact h_load rfl rfl rfl Tryz.isAgg28) ?_ | refine s_off rfl rfl (by first | rfl | assumption) ?_
      first | refine s_on rfl rfl (by first | rfl | assumption) (h_call callable_10 rfl (by first | exact CSay_nil _ | exact CSay_zero _ _ _ rfl rfl)) ?_ | refine s_off rfl rfl (by first | rfl | assumption) ?_
      first | refine s_on rfl rfl (by first | rfl | assumption) (by first | exact h_len rfl Tryz.underlying52 | exact h_len_nil rfl Tryz.underlying52 | exact h_len_slx rfl Tryz.underlying52 | exact h_len_val rfl Tryz.underlying52) ?_ | refine s_off rfl rfl (by first | rfl | assumption) ?_
      first | refine s_on rfl rfl (by first | rfl | assumption) (h_bin rfl rfl (b_neq rfl)) ?_ | refine s_off rfl rfl (by first | rfl | assumption) ?_
      refine s_p (by first | exact h_pick_t rfl (by first | rfl | assumption) rfl | exact h_pick_f rfl (by first | rfl | assumption) rfl) ?_
      refine s_nil ?_
      refine n_wp ?_
      refine w_cond rfl (fun hc_t47 => ?_) (fun hc_t47 => ?_)
      · exact absurd hc_t47 (by simp)
      refine w_skip ?_
      refine n_blo ?_
      refine n_wp ?_
      refine c_reg (by kernel_rfl) rfl ?_
      refine s_p (by first | exact h_move (v := .s _) rfl | exact h_move (v := .agg _) rfl | exact h_move (v := .tup _) rfl) ?_
      refine s_p (by first | exact h_bin rfl rfl (b_add (Go.IntWalk.i64_in _ (by omega))) | exact h_bin rfl rfl (b_add rfl)) ?_
      refine s_p (by first | exact h_assign (v := .s _) rfl | exact h_assign (v := .agg _) rfl | exact h_assign (v := .tup _) rfl) ?_
      refine s_nil ?_
      first | exact n_round 1 (by omega) ⟨1, by omega, rfl, rfl, rfl⟩ (weak' (by repeat (first | exact trivial | refine ⟨rfl, ?_⟩)) rfl rfl (Nat.le_of_ble_eq_true rfl)) | exact n_round 0 (by omega) ⟨2, by omega, rfl, rfl, rfl⟩ (weak' (by repeat (first | exact trivial | refine ⟨rfl, ?_⟩)) rfl rfl (Nat.le_of_ble_eq_true rfl))
    )
  · skip
    obtain rfl : k = 2 := by have := of_decide_eq_false hc_t21; omega
    refine w_exit ?_
    refine x_thn ?_
    refine x_thn ?_
    refine x_eq ?_
    refine n_wp ?_
    refine w_seq ?_
    refine c_reg (by kernel_rfl) rfl ?_
    refine s_p (by first | exact h_move (v := .s _) rfl | exact h_move (v := .agg _) rfl | exact h_move (v := .tup _) rfl) ?_
    refine s_p (h_bin rfl rfl (b_eql rfl)) ?_
    refine s_p (by first | exact h_assign (v := .s _) rfl | exact h_assign (v := .agg _) rfl | exact h_assign (v := .tup _) rfl) ?_
    refine s_nil ?_
    refine n_wp ?_
    refine w_ret ?_
    exact ⟨.inl rfl, ret_tmp Tryz.results3 rfl⟩
end Go.Proofs.X
