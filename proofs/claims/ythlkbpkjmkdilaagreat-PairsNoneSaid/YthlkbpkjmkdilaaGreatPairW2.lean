/- A part of the proofs of this claim: PairW2 (PairW2). No conditions. -/
import Derived.Test.YthlkbpkjmkdilaaGreatPairW1
set_option linter.unusedVariables false
set_option linter.unusedSimpArgs false
open Go Go.Ab Go.Proofs
namespace Go.Proofs.X
def I4 (kd pk : Int) (f t : List Int) (ps : Value) (s ln m : Int) (n : Nat) (T : Tm) (H : Heap) : Prop := ∃ k : Nat, k ≤ 2 ∧ n = 2 - k ∧ T = [(1, .s (.ptr 0 0 0)), (4, .s (.int .i64 1)), (5, .s (.slice 2 0 0 2 2)), (6, .s (.int .i64 k))] ∧ H = [some ⟨true, [.one (.int .u8 kd), .one (.int .u8 pk), .ints .u8 16 f, .ints .u8 16 t, .one (.val ps), .one (.int .u32 s), .one (.int .u32 ln), .one (.int .u8 m)]⟩, some ⟨true, S70⟩, some ⟨true, [.one .nilp, .one (.ptr 1 0 0)]⟩]
set_option maxRecDepth 100000 in
set_option maxHeartbeats 4000000 in
theorem PairsNone_c (H : Heap) (kd pk : Int) (f t : List Int) (ps : Value) (s ln m : Int) : ACall Tryz.prog 4 H [.agg [.one (.int .u8 kd), .one (.int .u8 pk), .ints .u8 16 f, .ints .u8 16 t, .one (.val ps), .one (.int .u32 s), .one (.int .u32 ln), .one (.int .u8 m)]] (.s (.bool true)) [] := by
  refine acall_free Tryz.func4 rfl Tryz.ntmps4 (by simp) rfl rfl (fun W w hW => ?_) H
  refine w_seq ?_
  refine c_reg (by kernel_rfl) rfl ?_
  refine s_a (by first | exact h_box_agg rfl rfl | exact h_box rfl (by simp) rfl) rfl ?_
  refine s_p (by first | exact h_assign (v := .s _) rfl | exact h_assign (v := .agg _) rfl | exact h_assign (v := .tup _) rfl) ?_
  refine s_nil ?_
  refine n_wp ?_
  refine w_seq ?_
  refine c_reg (by kernel_rfl) rfl ?_
  refine s_p (h_build0 (segs := [.ints .u64 4 (List.replicate 4 0), .ints .u64 4 (List.replicate 4 0), .ints .u64 4 (List.replicate 4 0), .ints .u64 4 (List.replicate 4 0), .ints .u8 32 (List.replicate 32 0)]) build0_40 (by kernel_rfl)) ?_
  refine s_p (h_build0 (segs := [.ints .u8 16 (List.replicate 16 0)]) build0_24 (by kernel_rfl)) ?_
  refine s_p (h_call callable_11 rfl (PNew_z _)) ?_
  refine s_p (by first | exact h_move (v := .s _) rfl | exact h_move (v := .agg _) rfl | exact h_move (v := .tup _) rfl) ?_
  refine s_p (h_extract rfl rfl (by simp)) ?_
  refine s_p (h_extract rfl rfl (by simp)) ?_
  refine s_p (by first | exact h_assign (v := .s _) rfl | exact h_assign (v := .agg _) rfl | exact h_assign (v := .tup _) rfl) ?_
  refine s_p (by first | exact h_assign (v := .s _) rfl | exact h_assign (v := .agg _) rfl | exact h_assign (v := .tup _) rfl) ?_
  refine s_nil ?_
  refine n_wp ?_
  refine w_seq ?_
  refine c_reg (by kernel_rfl) rfl ?_
  refine s_p (h_build0 (segs := S70) build0_70 (by kernel_rfl)) ?_
  refine s_a (by first | exact h_box_agg rfl rfl | exact h_box rfl (by simp) rfl) rfl ?_
  refine s_a (h_bsls2 rfl rfl (by simp) (by simp) Tryz.underlying71 Tryz.sizeOf62 Tryz.zeroValue62 rfl rfl) rfl ?_
  refine s_p (by first | exact h_assign (v := .s _) rfl | exact h_assign (v := .agg _) rfl | exact h_assign (v := .tup _) rfl) ?_
  refine s_nil ?_
  refine n_wp ?_
  refine w_seq ?_
  refine w_seq ?_
  refine c_reg (by kernel_rfl) rfl ?_
  refine s_p (by first | exact h_assign (v := .s _) rfl | exact h_assign (v := .agg _) rfl | exact h_assign (v := .tup _) rfl) ?_
  refine s_nil ?_
  refine n_wp ?_
  refine w_block ?_
  refine c_loop (I4 kd pk f t ps s ln m) 2 ⟨0, by omega, rfl, rfl, rfl⟩ (weak' (by repeat (first | exact trivial | refine ⟨rfl, ?_⟩)) rfl rfl (Nat.le_of_ble_eq_true rfl)) ?_
  rintro n T H ⟨k, hk, rfl, rfl, rfl⟩
  refine w_seq ?_
  refine w_seq ?_
  refine c_reg (by kernel_rfl) rfl ?_
  refine s_p (by first | exact h_move (v := .s _) rfl | exact h_move (v := .agg _) rfl | exact h_move (v := .tup _) rfl) ?_
  refine s_p (by first | exact h_move (v := .s _) rfl | exact h_move (v := .agg _) rfl | exact h_move (v := .tup _) rfl) ?_
  refine s_p (by first | exact h_len rfl Tryz.underlying71 | exact h_len_nil rfl Tryz.underlying71 | exact h_len_slx rfl Tryz.underlying71 | exact h_len_val rfl Tryz.underlying71) ?_
  refine s_p (h_bin rfl rfl (b_lss rfl)) ?_
  refine s_nil ?_
  refine n_wp ?_
  refine w_cond rfl (fun hc_t21 => ?_) (fun hc_t21 => ?_)
  · skip
    have hlt : k = 0 ∨ k = 1 := by have := of_decide_eq_true hc_t21; omega
    rcases hlt with rfl | rfl <;> (
      skip
      refine w_skip ?_
      refine n_wp ?_
      refine w_seq ?_
      refine w_block ?_
      refine w_seq ?_
      refine c_reg (by kernel_rfl) rfl ?_
      refine s_p (by first | exact h_move (v := .s _) rfl | exact h_move (v := .agg _) rfl | exact h_move (v := .tup _) rfl) ?_
      refine s_p (by first | exact h_move (v := .s _) rfl | exact h_move (v := .agg _) rfl | exact h_move (v := .tup _) rfl) ?_
      refine s_p (by first | exact h_ixs0 rfl rfl Tryz.underlying71 Tryz.sizeOf62 (by omega) | exact h_ixs rfl rfl Tryz.underlying71 Tryz.sizeOf62 (by omega) | exact h_ixsx rfl rfl Tryz.underlying71 Tryz.sizeOf62 (by omega)) ?_
      refine s_p (by first | exact h_load_one rfl rfl rfl Tryz.isAgg62 | exact h_load rfl rfl rfl Tryz.isAgg62) ?_
      refine s_p (h_call callable_12 rfl (by first | exact PGot_nil _ | exact PGot_zero _ _ _ rfl rfl)) ?_
      refine s_p (by first | exact h_move (v := .s _) rfl | exact h_move (v := .agg _) rfl | exact h_move (v := .tup _) rfl) ?_
      refine s_p (h_extract rfl rfl (by simp)) ?_
      refine s_p (h_extract rfl rfl (by simp)) ?_
      refine s_a (h_alloc (segs := S68) Tryz.zeroValue68 (by kernel_rfl) rfl) rfl ?_
      refine s_st (m_store_agg (n := 216) (segs := S68) (sub := S68) (id := 3) (base := 0) (idx := 0) rfl rfl rfl (.whole (Nat.le_of_ble_eq_true rfl) rfl rfl) Tryz.sizeOf68 rfl) ?_
      refine s_p (by first | exact h_assign (v := .s _) rfl | exact h_assign (v := .agg _) rfl | exact h_assign (v := .tup _) rfl) ?_
      refine s_nil ?_
      refine n_wp ?_
      refine w_seq ?_
      refine c_any 54 mix (by kernel_rfl) (by kernel_rfl) rfl rfl rfl ?_
      refine t_p (by first | exact h_move (v := .s _) rfl | exact h_move (v := .agg _) rfl | exact h_move (v := .tup _) rfl) ?_
      refine t_p (by first | exact h_move (v := .s _) rfl | exact h_move (v := .agg _) rfl | exact h_move (v := .tup _) rfl) ?_
      refine t_p (by first | exact h_ixs0 rfl rfl Tryz.underlying71 Tryz.sizeOf62 (by omega) | exact h_ixs rfl rfl Tryz.underlying71 Tryz.sizeOf62 (by omega) | exact h_ixsx rfl rfl Tryz.underlying71 Tryz.sizeOf62 (by omega)) ?_
      refine t_p (by first | exact h_load_one rfl rfl rfl Tryz.isAgg62 | exact h_load rfl rfl rfl Tryz.isAgg62) ?_
      refine t_p (h_field rfl Tryz.underlying61 rfl Tryz.sizeOf27 (by decide)) ?_
      refine t_p (h_load_agg (sub := [.one (.int .u8 pk), .ints .u8 16 f, .ints .u8 16 t, .one (.val ps)]) rfl rfl (SubS.two rfl rfl (SubS.two rfl rfl (SubS.two rfl rfl (.seg rfl rfl)))) Tryz.isAgg27 Tryz.sizeOf27) ?_
      refine t_p (h_field rfl Tryz.underlying61 rfl Tryz.sizeOf46 (by decide)) ?_
      refine t_p (by first | exact h_load_ints rfl rfl rfl (by omega) rfl Tryz.isAgg46 | exact h_load_one rfl rfl rfl Tryz.isAgg46) ?_
      refine t_p (h_field rfl Tryz.underlying61 rfl Tryz.sizeOf41 (by decide)) ?_
      refine t_p (by first | exact h_load_ints rfl rfl rfl (by omega) rfl Tryz.isAgg41 | exact h_load_one rfl rfl rfl Tryz.isAgg41) ?_
      refine t_p (h_call callable_13 rfl (by first | exact PReady_nil _ _ _ _ _ _ _ | exact PReady_zero _ _ _ rfl rfl _ _ _ _ _ _)) ?_
      refine t_p (h_bin rfl rfl (b_neq rfl)) ?_
      refine t_p (by first | exact h_move (v := .s _) rfl | exact h_move (v := .agg _) rfl | exact h_move (v := .tup _) rfl) ?_
      first | refine t_on rfl rfl (by first | rfl | assumption) (by first | exact h_move (v := .s _) rfl | exact h_move (v := .agg _) rfl | exact h_move (v := .tup _) rfl) ?_ | refine t_off rfl rfl (by first | rfl | assumption) ?_
      first | refine t_on rfl rfl (by first | rfl | assumption) (by first | exact h_move (v := .s _) rfl | exact h_move (v := .agg _) rfl | exact h_move (v := .tup _) rfl) ?_ | refine t_off rfl rfl (by first | rfl | assumption) ?_
      first | refine t_on rfl rfl (by first | rfl | assumption) (by first | exact h_ixs0 rfl rfl Tryz.underlying71 Tryz.sizeOf62 (by omega) | exact h_ixs rfl rfl Tryz.underlying71 Tryz.sizeOf62 (by omega) | exact h_ixsx rfl rfl Tryz.underlying71 Tryz.sizeOf62 (by omega)) ?_ | refine t_off rfl rfl (by first | rfl | assumption) ?_
      first | refine t_on rfl rfl (by first | rfl | assumption) (by first | exact h_load_one rfl rfl rfl Tryz.isAgg62 | exact h_load rfl rfl rfl Tryz.isAgg62) ?_ | refine t_off rfl rfl (by first | rfl | assumption) ?_
      first | refine t_on rfl rfl (by first | rfl | assumption) (h_field rfl Tryz.underlying61 rfl Tryz.sizeOf27 (by decide)) ?_ | refine t_off rfl rfl (by first | rfl | assumption) ?_
      first | refine t_on rfl rfl (by first | rfl | assumption) (h_load_agg (sub := [.one (.int .u8 pk), .ints .u8 16 f, .ints .u8 16 t, .one (.val ps)]) rfl rfl (SubS.two rfl rfl (SubS.two rfl rfl (SubS.two rfl rfl (.seg rfl rfl)))) Tryz.isAgg27 Tryz.sizeOf27) ?_ | refine t_off rfl rfl (by first | rfl | assumption) ?_
      first | refine t_on rfl rfl (by first | rfl | assumption) (h_call callable_14 rfl (by first | exact PMet_nil _ _ _ _ _ | exact PMet_zero _ _ _ rfl rfl _ _ _ _)) ?_ | refine t_off rfl rfl (by first | rfl | assumption) ?_
      first | refine t_on rfl rfl (by first | rfl | assumption) (h_bin rfl rfl (b_neq rfl)) ?_ | refine t_off rfl rfl (by first | rfl | assumption) ?_
      refine t_p (by first | exact h_pick_t rfl (by first | rfl | assumption) rfl | exact h_pick_f rfl (by first | rfl | assumption) rfl) ?_
      refine t_p (by first | exact h_move (v := .s _) rfl | exact h_move (v := .agg _) rfl | exact h_move (v := .tup _) rfl) ?_
      first | refine t_on rfl rfl (by first | rfl | assumption) (by first | exact h_move (v := .s _) rfl | exact h_move (v := .agg _) rfl | exact h_move (v := .tup _) rfl) ?_ | refine t_off rfl rfl (by first | rfl | assumption) ?_
      first | refine t_on rfl rfl (by first | rfl | assumption) (by first | exact h_move (v := .s _) rfl | exact h_move (v := .agg _) rfl | exact h_move (v := .tup _) rfl) ?_ | refine t_off rfl rfl (by first | rfl | assumption) ?_
      first | refine t_on rfl rfl (by first | rfl | assumption) (by first | exact h_ixs0 rfl rfl Tryz.underlying71 Tryz.sizeOf62 (by omega) | exact h_ixs rfl rfl Tryz.underlying71 Tryz.sizeOf62 (by omega) | exact h_ixsx rfl rfl Tryz.underlying71 Tryz.sizeOf62 (by omega)) ?_ | refine t_off rfl rfl (by first | rfl | assumption) ?_
      first | refine t_on rfl rfl (by first | rfl | assumption) (by first | exact h_load_one rfl rfl rfl Tryz.isAgg62 | exact h_load rfl rfl rfl Tryz.isAgg62) ?_ | refine t_off rfl rfl (by first | rfl | assumption) ?_
      first | refine t_on rfl rfl (by first | rfl | assumption) (h_call callable_15 rfl (by first | exact PTick_nil _ | exact PTick_zero _ _ _ rfl rfl)) ?_ | refine t_off rfl rfl (by first | rfl | assumption) ?_
      first | refine t_on rfl rfl (by first | rfl | assumption) (h_bin rfl rfl (b_neq rfl)) ?_ | refine t_off rfl rfl (by first | rfl | assumption) ?_
      refine t_p (by first | exact h_pick_t rfl (by first | rfl | assumption) rfl | exact h_pick_f rfl (by first | rfl | assumption) rfl) ?_
      refine t_p (by first | exact h_move (v := .s _) rfl | exact h_move (v := .agg _) rfl | exact h_move (v := .tup _) rfl) ?_
      first | refine t_on rfl rfl (by first | rfl | assumption) (by first | exact h_move (v := .s _) rfl | exact h_move (v := .agg _) rfl | exact h_move (v := .tup _) rfl) ?_ | refine t_off rfl rfl (by first | rfl | assumption) ?_
      first | refine t_on rfl rfl (by first | rfl | assumption) (by first | exact h_move (v := .s _) rfl | exact h_move (v := .agg _) rfl | exact h_move (v := .tup _) rfl) ?_ | refine t_off rfl rfl (by first | rfl | assumption) ?_
      first | refine t_on rfl rfl (by first | rfl | assumption) (by first | exact h_ixs0 rfl rfl Tryz.underlying71 Tryz.sizeOf62 (by omega) | exact h_ixs rfl rfl Tryz.underlying71 Tryz.sizeOf62 (by omega) | exact h_ixsx rfl rfl Tryz.underlying71 Tryz.sizeOf62 (by omega)) ?_ | refine t_off rfl rfl (by first | rfl | assumption) ?_
      first | refine t_on rfl rfl (by first | rfl | assumption) (by first | exact h_load_one rfl rfl rfl Tryz.isAgg62 | exact h_load rfl rfl rfl Tryz.isAgg62) ?_ | refine t_off rfl rfl (by first | rfl | assumption) ?_
      first | refine t_on rfl rfl (by first | rfl | assumption) (h_call callable_16 rfl (by first | exact PSay_nil _ | exact PSay_zero _ _ _ rfl rfl)) ?_ | refine t_off rfl rfl (by first | rfl | assumption) ?_
      first | refine t_on rfl rfl (by first | rfl | assumption) (by first | exact h_len rfl Tryz.underlying52 | exact h_len_nil rfl Tryz.underlying52 | exact h_len_slx rfl Tryz.underlying52 | exact h_len_val rfl Tryz.underlying52) ?_ | refine t_off rfl rfl (by first | rfl | assumption) ?_
      first | refine t_on rfl rfl (by first | rfl | assumption) (h_bin rfl rfl (b_neq rfl)) ?_ | refine t_off rfl rfl (by first | rfl | assumption) ?_
      refine t_p (by first | exact h_pick_t rfl (by first | rfl | assumption) rfl | exact h_pick_f rfl (by first | rfl | assumption) rfl) ?_
      refine t_p (by first | exact h_move (v := .s _) rfl | exact h_move (v := .agg _) rfl | exact h_move (v := .tup _) rfl) ?_
      first | refine t_on rfl rfl (by first | rfl | assumption) (by first | exact h_move (v := .s _) rfl | exact h_move (v := .agg _) rfl | exact h_move (v := .tup _) rfl) ?_ | refine t_off rfl rfl (by first | rfl | assumption) ?_
      first | refine t_on rfl rfl (by first | rfl | assumption) (by first | exact h_move (v := .s _) rfl | exact h_move (v := .agg _) rfl | exact h_move (v := .tup _) rfl) ?_ | refine t_off rfl rfl (by first | rfl | assumption) ?_
      first | refine t_on rfl rfl (by first | rfl | assumption) (by first | exact h_ixs0 rfl rfl Tryz.underlying71 Tryz.sizeOf62 (by omega) | exact h_ixs rfl rfl Tryz.underlying71 Tryz.sizeOf62 (by omega) | exact h_ixsx rfl rfl Tryz.underlying71 Tryz.sizeOf62 (by omega)) ?_ | refine t_off rfl rfl (by first | rfl | assumption) ?_
      first | refine t_on rfl rfl (by first | rfl | assumption) (by first | exact h_load_one rfl rfl rfl Tryz.isAgg62 | exact h_load rfl rfl rfl Tryz.isAgg62) ?_ | refine t_off rfl rfl (by first | rfl | assumption) ?_
      first | refine t_on rfl rfl (by first | rfl | assumption) (h_call callable_17 rfl (by first | exact PState_nil _ | exact PState_zero _ _ _ rfl rfl)) ?_ | refine t_off rfl rfl (by first | rfl | assumption) ?_
      first | refine t_on rfl rfl (by first | rfl | assumption) (h_bin rfl rfl (b_neq rfl)) ?_ | refine t_off rfl rfl (by first | rfl | assumption) ?_
      refine t_p (by first | exact h_pick_t rfl (by first | rfl | assumption) rfl | exact h_pick_f rfl (by first | rfl | assumption) rfl) ?_
      refine t_p (by first | exact h_move (v := .s _) rfl | exact h_move (v := .agg _) rfl | exact h_move (v := .tup _) rfl) ?_
      first | refine t_on rfl rfl (by first | rfl | assumption) (by first | exact h_move (v := .s _) rfl | exact h_move (v := .agg _) rfl | exact h_move (v := .tup _) rfl) ?_ | refine t_off rfl rfl (by first | rfl | assumption) ?_
      first | refine t_on rfl rfl (by first | rfl | assumption) (h_bin rfl rfl (b_neq rfl)) ?_ | refine t_off rfl rfl (by first | rfl | assumption) ?_
      refine t_p (by first | exact h_pick_t rfl (by first | rfl | assumption) rfl | exact h_pick_f rfl (by first | rfl | assumption) rfl) ?_
      refine t_p (by first | exact h_move (v := .s _) rfl | exact h_move (v := .agg _) rfl | exact h_move (v := .tup _) rfl) ?_
      first | refine t_on rfl rfl (by first | rfl | assumption) (h_load_agg (sub := S68) rfl rfl (.whole rfl) Tryz.isAgg68 Tryz.sizeOf68) ?_ | refine t_off rfl rfl (by first | rfl | assumption) ?_
      first | refine t_on rfl rfl (by first | rfl | assumption) (h_build0 (segs := S68) build0_68 (by kernel_rfl)) ?_ | refine t_off rfl rfl (by first | rfl | assumption) ?_
      refine t_nil ?_
      first | refine s_on rfl rfl (by first | rfl | assumption) (h_litb (r := .bool false) (z := .bool false) rfl rfl rfl rfl (fun w => by kernel_rfl) (fun w => by kernel_rfl) rfl rfl) ?_ | refine s_off rfl rfl (by first | rfl | assumption) ?_
      refine s_p (by first | exact h_pick_t rfl (by first | rfl | assumption) rfl | exact h_pick_f rfl (by first | rfl | assumption) rfl) ?_
      refine s_nil ?_
      refine n_wp ?_
      refine w_cond rfl (fun hc_t87 => ?_) (fun hc_t87 => ?_)
      · exact absurd hc_t87 (by simp)
      refine w_skip ?_
      refine n_blo ?_
      refine n_wp ?_
      refine c_reg (by kernel_rfl) rfl ?_
      refine s_p (by first | exact h_move (v := .s _) rfl | exact h_move (v := .agg _) rfl | exact h_move (v := .tup _) rfl) ?_
      refine s_p (by first | exact h_bin rfl rfl (b_add (Go.IntWalk.i64_in _ (by omega))) | exact h_bin rfl rfl (b_add rfl)) ?_
      refine s_p (by first | exact h_assign (v := .s _) rfl | exact h_assign (v := .agg _) rfl | exact h_assign (v := .tup _) rfl) ?_
      refine s_nil ?_
      first | exact n_round 1 (by omega) ⟨1, by omega, rfl, rfl, rfl⟩ (weak' (by repeat (first | exact trivial | refine ⟨rfl, ?_⟩)) rfl rfl (Nat.le_of_ble_eq_true rfl)) | exact n_round 0 (by omega) ⟨2, by omega, rfl, rfl, rfl⟩ (weak' (by repeat (first | exact trivial | refine ⟨rfl, ?_⟩)) rfl rfl (Nat.le_of_ble_eq_true rfl))
    )
  · skip
    obtain rfl : k = 2 := by have := of_decide_eq_false hc_t21; omega
    refine w_exit ?_
    refine x_thn ?_
    refine x_thn ?_
    refine x_eq ?_
    refine n_wp ?_
    refine w_seq ?_
    refine c_reg (by kernel_rfl) rfl ?_
    refine s_p (by first | exact h_move (v := .s _) rfl | exact h_move (v := .agg _) rfl | exact h_move (v := .tup _) rfl) ?_
    refine s_p (h_bin rfl rfl (b_eql rfl)) ?_
    refine s_p (by first | exact h_assign (v := .s _) rfl | exact h_assign (v := .agg _) rfl | exact h_assign (v := .tup _) rfl) ?_
    refine s_nil ?_
    refine n_wp ?_
    refine w_ret ?_
    exact ⟨.inl rfl, ret_tmp Tryz.results4 rfl⟩
end Go.Proofs.X
