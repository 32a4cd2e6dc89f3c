/- A part of the proofs of this claim: PoolW3 (PoolW3). No conditions. -/
import Derived.Test.YthlkbpkjmkdilaaGreatPoolW2
set_option linter.unusedVariables false
set_option linter.unusedSimpArgs false
open Go Go.Ab Go.Proofs
namespace Go.Proofs.X
set_option maxRecDepth 100000 in
set_option maxHeartbeats 4000000 in
theorem PoolsNone_c (H : Heap) (kd : Int) (tg : List Int) (sp : Int) (bd : List Int) (gn mn : Int) : ACall Tryz.prog 5 H [.agg [.one (.int .u8 kd), .ints .u8 16 tg, .one (.int .u32 sp), .ints .u8 32 bd, .one (.int .u64 gn), .one (.int .u8 mn)]] (.s (.bool true)) [] := by
  refine acall_free Tryz.func5 rfl Tryz.ntmps5 (by simp) rfl rfl (fun W w hW => ?_) H
  refine w_seq ?_
  refine c_reg (by kernel_rfl) rfl ?_
  refine s_a (by first | exact h_box_agg rfl rfl | exact h_box rfl (by simp) rfl) rfl ?_
  refine s_p (by first | exact h_assign (v := .s _) rfl | exact h_assign (v := .agg _) rfl | exact h_assign (v := .tup _) rfl) ?_
  refine s_nil ?_
  refine n_wp ?_
  refine w_seq ?_
  refine c_reg (by kernel_rfl) rfl ?_
  refine s_p (h_build0 (segs := [.ints .u64 4 (List.replicate 4 0), .ints .u64 4 (List.replicate 4 0), .ints .u64 4 (List.replicate 4 0), .ints .u64 4 (List.replicate 4 0), .ints .u8 32 (List.replicate 32 0)]) build0_40 (by kernel_rfl)) ?_
  refine s_p (h_call callable_18 rfl (New_z _)) ?_
  refine s_p (by first | exact h_move (v := .s _) rfl | exact h_move (v := .agg _) rfl | exact h_move (v := .tup _) rfl) ?_
  refine s_p (h_extract rfl rfl (by simp)) ?_
  refine s_p (h_extract rfl rfl (by simp)) ?_
  refine s_p (by first | exact h_assign (v := .s _) rfl | exact h_assign (v := .agg _) rfl | exact h_assign (v := .tup _) rfl) ?_
  refine s_p (by first | exact h_assign (v := .s _) rfl | exact h_assign (v := .agg _) rfl | exact h_assign (v := .tup _) rfl) ?_
  refine s_nil ?_
  refine n_wp ?_
  refine w_seq ?_
  refine c_reg (by kernel_rfl) rfl ?_
  refine s_p (h_build0 (segs := S84) build0_84 (by kernel_rfl)) ?_
  refine s_a (by first | exact h_box_agg rfl rfl | exact h_box rfl (by simp) rfl) rfl ?_
  refine s_a (h_bsl2 rfl rfl (by simp) (by simp) Tryz.underlying85 Tryz.sizeOf79 Tryz.zeroValue79 rfl) rfl ?_
  refine s_p (by first | exact h_assign (v := .s _) rfl | exact h_assign (v := .agg _) rfl | exact h_assign (v := .tup _) rfl) ?_
  refine s_nil ?_
  refine n_wp ?_
  refine w_seq ?_
  refine w_seq ?_
  refine c_reg (by kernel_rfl) rfl ?_
  refine s_p (by first | exact h_assign (v := .s _) rfl | exact h_assign (v := .agg _) rfl | exact h_assign (v := .tup _) rfl) ?_
  refine s_nil ?_
  refine n_wp ?_
  refine w_block ?_
  refine c_loop (I5 kd tg sp bd gn mn) 2 ⟨0, by omega, rfl, rfl, rfl⟩ (weak' (by repeat (first | exact trivial | refine ⟨rfl, ?_⟩)) rfl rfl (Nat.le_of_ble_eq_true rfl)) ?_
  rintro n T H ⟨k, hk, rfl, rfl, rfl⟩
  refine w_seq ?_
  refine w_seq ?_
  refine c_reg (by kernel_rfl) rfl ?_
  refine s_p (by first | exact h_move (v := .s _) rfl | exact h_move (v := .agg _) rfl | exact h_move (v := .tup _) rfl) ?_
  refine s_p (by first | exact h_move (v := .s _) rfl | exact h_move (v := .agg _) rfl | exact h_move (v := .tup _) rfl) ?_
  refine s_p (by first | exact h_len rfl Tryz.underlying85 | exact h_len_slx rfl Tryz.underlying85 | exact h_len_nil rfl Tryz.underlying85) ?_
  refine s_p (h_bin rfl rfl (b_lss rfl)) ?_
  refine s_nil ?_
  refine n_wp ?_
  refine w_cond rfl (fun hc_t26 => ?_) (fun hc_t26 => ?_)
  · skip
    have hlt : k = 0 ∨ k = 1 := by have := of_decide_eq_true hc_t26; omega
    rcases hlt with rfl | rfl <;> (
      skip
      refine w_skip ?_
      refine n_wp ?_
      refine w_seq ?_
      refine w_block ?_
      refine w_seq ?_
      refine c_anyS 12 10 mix (by kernel_rfl) (by kernel_rfl) rfl rfl rfl rfl rfl rfl rfl (by simp [Op.operands]) ?_
      refine g_p (by first | exact h_move (v := .s _) rfl | exact h_move (v := .agg _) rfl | exact h_move (v := .tup _) rfl) ?_
      refine g_p (by first | exact h_move (v := .s _) rfl | exact h_move (v := .agg _) rfl | exact h_move (v := .tup _) rfl) ?_
      refine g_p (by first | exact h_ixs0 rfl rfl Tryz.underlying85 Tryz.sizeOf79 (by omega) | exact h_ixs rfl rfl Tryz.underlying85 Tryz.sizeOf79 (by omega) | exact h_ixsx rfl rfl Tryz.underlying85 Tryz.sizeOf79 (by omega)) ?_
      refine g_p (by first | exact h_load_one rfl rfl rfl Tryz.isAgg79 | exact h_load rfl rfl rfl Tryz.isAgg79) ?_
      refine g_p (by first | exact h_load_agg rfl rfl (.whole rfl) Tryz.isAgg78 Tryz.sizeOf78 | exact h_load_agg rfl rfl (.seg rfl rfl) Tryz.isAgg78 Tryz.sizeOf78 | exact h_load_agg rfl rfl (.ints rfl (by omega)) Tryz.isAgg78 Tryz.sizeOf78) ?_
      refine g_p (h_call callable_20 rfl (Asker_c _ kd tg sp bd gn mn)) ?_
      refine g_p (h_call callable_19 rfl (by first | exact Ready_nil _ _ _ _ | exact Ready_zero _ _ _ rfl rfl _ _ _)) ?_
      refine g_p (by first | exact h_move (v := .s _) rfl | exact h_move (v := .agg _) rfl | exact h_move (v := .tup _) rfl) ?_
      refine g_p (h_extract rfl rfl (by simp)) ?_
      refine g_p (h_extract rfl rfl (by simp)) ?_
      refine g_nil ?_
      refine ⟨_, _, ⟨true, [.one (.int .u8 0), .ints .u8 16 (List.replicate 16 0), .ints .u8 16 (List.replicate 16 0), .one .nils]⟩, [some ⟨false, [.one (.int .u8 kd), .ints .u8 16 tg, .one (.int .u32 sp), .ints .u8 32 bd, .one (.int .u64 gn), .one (.int .u8 mn)]⟩, some ⟨false, S84⟩, some ⟨false, [.one .nilp, .one (.ptr 1 0 0)]⟩, some ⟨true, [.one (.int .u8 0), .ints .u8 16 (List.replicate 16 0), .ints .u8 16 (List.replicate 16 0), .one .nils]⟩], [some ⟨false, [.one (.int .u8 kd), .ints .u8 16 tg, .one (.int .u32 sp), .ints .u8 32 bd, .one (.int .u64 gn), .one (.int .u8 mn)]⟩, some ⟨false, S84⟩, some ⟨false, [.one .nilp, .one (.ptr 1 0 0)]⟩, some ⟨true, [.one (.int .u8 0), .ints .u8 16 (List.replicate 16 0), .ints .u8 16 (List.replicate 16 0), .one .nils]⟩], [some ⟨true, [.one (.int .u8 kd), .ints .u8 16 tg, .one (.int .u32 sp), .ints .u8 32 bd, .one (.int .u64 gn), .one (.int .u8 mn)]⟩, some ⟨true, S84⟩, some ⟨true, [.one .nilp, .one (.ptr 1 0 0)]⟩, some ⟨true, [.one (.int .u8 0), .ints .u8 16 (List.replicate 16 0), .ints .u8 16 (List.replicate 16 0), .one .nils]⟩], (h_alloc (segs := [.one (.int .u8 0), .ints .u8 16 (List.replicate 16 0), .ints .u8 16 (List.replicate 16 0), .one .nils]) Tryz.zeroValue27 (by kernel_rfl) rfl), rfl, rfl, rfl, rfl, rfl, rfl, m_store_agg (n := 34) (segs := [.one (.int .u8 0), .ints .u8 16 (List.replicate 16 0), .ints .u8 16 (List.replicate 16 0), .one .nils]) (sub := [.one (.int .u8 0), .ints .u8 16 (List.replicate 16 0), .ints .u8 16 (List.replicate 16 0), .one .nils]) (id := 3) (base := 0) (idx := 0) rfl rfl rfl (.whole (Nat.le_of_ble_eq_true rfl) rfl rfl) Tryz.sizeOf27 rfl, ?_⟩
      refine g_nil ?_
      refine s_heap (H' := [some ⟨true, [.one (.int .u8 kd), .ints .u8 16 tg, .one (.int .u32 sp), .ints .u8 32 bd, .one (.int .u64 gn), .one (.int .u8 mn)]⟩, some ⟨true, S84⟩, some ⟨true, [.one .nilp, .one (.ptr 1 0 0)]⟩, some ⟨true, [.one (.int .u8 0), .ints .u8 16 (List.replicate 16 0), .ints .u8 16 (List.replicate 16 0), .one .nils]⟩]) rfl ?_
      refine s_p (by first | exact h_assign (v := .s _) rfl | exact h_assign (v := .agg _) rfl | exact h_assign (v := .tup _) rfl) ?_
      refine s_nil ?_
      refine n_wp ?_
      refine w_seq ?_
      refine c_anyS 14 12 mix (by kernel_rfl) (by kernel_rfl) rfl rfl rfl rfl rfl rfl rfl (by simp [Op.operands]) ?_
      refine g_p (by first | exact h_move (v := .s _) rfl | exact h_move (v := .agg _) rfl | exact h_move (v := .tup _) rfl) ?_
      refine g_p (by first | exact h_move (v := .s _) rfl | exact h_move (v := .agg _) rfl | exact h_move (v := .tup _) rfl) ?_
      refine g_p (by first | exact h_ixs0 rfl rfl Tryz.underlying85 Tryz.sizeOf79 (by omega) | exact h_ixs rfl rfl Tryz.underlying85 Tryz.sizeOf79 (by omega) | exact h_ixsx rfl rfl Tryz.underlying85 Tryz.sizeOf79 (by omega)) ?_
      refine g_p (by first | exact h_load_one rfl rfl rfl Tryz.isAgg79 | exact h_load rfl rfl rfl Tryz.isAgg79) ?_
      refine g_p (h_field rfl Tryz.underlying78 rfl Tryz.sizeOf32 (by decide)) ?_
      refine g_p (by first | exact h_load_ints rfl rfl rfl (by omega) rfl Tryz.isAgg32 | exact h_load_one rfl rfl rfl Tryz.isAgg32) ?_
      refine g_p (by first | exact h_load_agg rfl rfl (.whole rfl) Tryz.isAgg78 Tryz.sizeOf78 | exact h_load_agg rfl rfl (.seg rfl rfl) Tryz.isAgg78 Tryz.sizeOf78 | exact h_load_agg rfl rfl (.ints rfl (by omega)) Tryz.isAgg78 Tryz.sizeOf78) ?_
      refine g_p (h_call callable_20 rfl (Asker_c _ kd tg sp bd gn mn)) ?_
      refine g_p (h_call callable_21 rfl (by first | exact Puzzle_nil _ _ _ _ _ | exact Puzzle_zero _ _ _ rfl rfl _ _ _ _)) ?_
      refine g_p (by first | exact h_move (v := .s _) rfl | exact h_move (v := .agg _) rfl | exact h_move (v := .tup _) rfl) ?_
      refine g_p (h_extract rfl rfl (by simp)) ?_
      refine g_p (h_extract rfl rfl (by simp)) ?_
      refine g_nil ?_
      refine ⟨_, _, ⟨true, [.one (.int .u8 0), .one (.int .u64 0), .ints .u8 32 (List.replicate 32 0)]⟩, [some ⟨false, [.one (.int .u8 kd), .ints .u8 16 tg, .one (.int .u32 sp), .ints .u8 32 bd, .one (.int .u64 gn), .one (.int .u8 mn)]⟩, some ⟨false, S84⟩, some ⟨false, [.one .nilp, .one (.ptr 1 0 0)]⟩, some ⟨false, [.one (.int .u8 0), .ints .u8 16 (List.replicate 16 0), .ints .u8 16 (List.replicate 16 0), .one .nils]⟩, some ⟨true, [.one (.int .u8 0), .one (.int .u64 0), .ints .u8 32 (List.replicate 32 0)]⟩], [some ⟨false, [.one (.int .u8 kd), .ints .u8 16 tg, .one (.int .u32 sp), .ints .u8 32 bd, .one (.int .u64 gn), .one (.int .u8 mn)]⟩, some ⟨false, S84⟩, some ⟨false, [.one .nilp, .one (.ptr 1 0 0)]⟩, some ⟨false, [.one (.int .u8 0), .ints .u8 16 (List.replicate 16 0), .ints .u8 16 (List.replicate 16 0), .one .nils]⟩, some ⟨true, [.one (.int .u8 0), .one (.int .u64 0), .ints .u8 32 (List.replicate 32 0)]⟩], [some ⟨true, [.one (.int .u8 kd), .ints .u8 16 tg, .one (.int .u32 sp), .ints .u8 32 bd, .one (.int .u64 gn), .one (.int .u8 mn)]⟩, some ⟨true, S84⟩, some ⟨true, [.one .nilp, .one (.ptr 1 0 0)]⟩, some ⟨true, [.one (.int .u8 0), .ints .u8 16 (List.replicate 16 0), .ints .u8 16 (List.replicate 16 0), .one .nils]⟩, some ⟨true, [.one (.int .u8 0), .one (.int .u64 0), .ints .u8 32 (List.replicate 32 0)]⟩], (h_alloc (segs := [.one (.int .u8 0), .one (.int .u64 0), .ints .u8 32 (List.replicate 32 0)]) Tryz.zeroValue92 (by kernel_rfl) rfl), rfl, rfl, rfl, rfl, rfl, rfl, m_store_agg (n := 34) (segs := [.one (.int .u8 0), .one (.int .u64 0), .ints .u8 32 (List.replicate 32 0)]) (sub := [.one (.int .u8 0), .one (.int .u64 0), .ints .u8 32 (List.replicate 32 0)]) (id := 4) (base := 0) (idx := 0) rfl rfl rfl (.whole (Nat.le_of_ble_eq_true rfl) rfl rfl) Tryz.sizeOf92 rfl, ?_⟩
      refine g_nil ?_
      refine s_heap (H' := [some ⟨true, [.one (.int .u8 kd), .ints .u8 16 tg, .one (.int .u32 sp), .ints .u8 32 bd, .one (.int .u64 gn), .one (.int .u8 mn)]⟩, some ⟨true, S84⟩, some ⟨true, [.one .nilp, .one (.ptr 1 0 0)]⟩, some ⟨true, [.one (.int .u8 0), .ints .u8 16 (List.replicate 16 0), .ints .u8 16 (List.replicate 16 0), .one .nils]⟩, some ⟨true, [.one (.int .u8 0), .one (.int .u64 0), .ints .u8 32 (List.replicate 32 0)]⟩]) rfl ?_
      refine s_p (by first | exact h_assign (v := .s _) rfl | exact h_assign (v := .agg _) rfl | exact h_assign (v := .tup _) rfl) ?_
      refine s_nil ?_
      refine n_wp ?_
      refine w_seq ?_
      refine c_anyS 12 10 mix (by kernel_rfl) (by kernel_rfl) rfl rfl rfl rfl rfl rfl rfl (by simp [Op.operands]) ?_
      refine g_p (by first | exact h_move (v := .s _) rfl | exact h_move (v := .agg _) rfl | exact h_move (v := .tup _) rfl) ?_
      refine g_p (by first | exact h_move (v := .s _) rfl | exact h_move (v := .agg _) rfl | exact h_move (v := .tup _) rfl) ?_
      refine g_p (by first | exact h_ixs0 rfl rfl Tryz.underlying85 Tryz.sizeOf79 (by omega) | exact h_ixs rfl rfl Tryz.underlying85 Tryz.sizeOf79 (by omega) | exact h_ixsx rfl rfl Tryz.underlying85 Tryz.sizeOf79 (by omega)) ?_
      refine g_p (by first | exact h_load_one rfl rfl rfl Tryz.isAgg79 | exact h_load rfl rfl rfl Tryz.isAgg79) ?_
      refine g_p (h_field rfl Tryz.underlying78 rfl Tryz.sizeOf32 (by decide)) ?_
      refine g_p (by first | exact h_load_ints rfl rfl rfl (by omega) rfl Tryz.isAgg32 | exact h_load_one rfl rfl rfl Tryz.isAgg32) ?_
      refine g_p (h_call callable_22 rfl (by first | exact Secret_nil _ _ | exact Secret_zero _ _ _ rfl rfl _)) ?_
      refine g_p (by first | exact h_move (v := .s _) rfl | exact h_move (v := .agg _) rfl | exact h_move (v := .tup _) rfl) ?_
      refine g_p (h_extract rfl rfl (by simp)) ?_
      refine g_p (h_extract rfl rfl (by simp)) ?_
      refine g_nil ?_
      refine ⟨_, _, ⟨true, [.ints .u64 4 (List.replicate 4 0)]⟩, [some ⟨false, [.one (.int .u8 kd), .ints .u8 16 tg, .one (.int .u32 sp), .ints .u8 32 bd, .one (.int .u64 gn), .one (.int .u8 mn)]⟩, some ⟨false, S84⟩, some ⟨false, [.one .nilp, .one (.ptr 1 0 0)]⟩, some ⟨false, [.one (.int .u8 0), .ints .u8 16 (List.replicate 16 0), .ints .u8 16 (List.replicate 16 0), .one .nils]⟩, some ⟨false, [.one (.int .u8 0), .one (.int .u64 0), .ints .u8 32 (List.replicate 32 0)]⟩, some ⟨true, [.ints .u64 4 (List.replicate 4 0)]⟩], [some ⟨false, [.one (.int .u8 kd), .ints .u8 16 tg, .one (.int .u32 sp), .ints .u8 32 bd, .one (.int .u64 gn), .one (.int .u8 mn)]⟩, some ⟨false, S84⟩, some ⟨false, [.one .nilp, .one (.ptr 1 0 0)]⟩, some ⟨false, [.one (.int .u8 0), .ints .u8 16 (List.replicate 16 0), .ints .u8 16 (List.replicate 16 0), .one .nils]⟩, some ⟨false, [.one (.int .u8 0), .one (.int .u64 0), .ints .u8 32 (List.replicate 32 0)]⟩, some ⟨true, [.ints .u64 4 (List.replicate 4 0)]⟩], [some ⟨true, [.one (.int .u8 kd), .ints .u8 16 tg, .one (.int .u32 sp), .ints .u8 32 bd, .one (.int .u64 gn), .one (.int .u8 mn)]⟩, some ⟨true, S84⟩, some ⟨true, [.one .nilp, .one (.ptr 1 0 0)]⟩, some ⟨true, [.one (.int .u8 0), .ints .u8 16 (List.replicate 16 0), .ints .u8 16 (List.replicate 16 0), .one .nils]⟩, some ⟨true, [.one (.int .u8 0), .one (.int .u64 0), .ints .u8 32 (List.replicate 32 0)]⟩, some ⟨true, [.ints .u64 4 (List.replicate 4 0)]⟩], (h_alloc (segs := [.ints .u64 4 (List.replicate 4 0)]) Tryz.zeroValue34 (by kernel_rfl) rfl), rfl, rfl, rfl, rfl, rfl, rfl, m_store_agg (n := 4) (segs := [.ints .u64 4 (List.replicate 4 0)]) (sub := [.ints .u64 4 (List.replicate 4 0)]) (id := 5) (base := 0) (idx := 0) rfl rfl rfl (.whole (Nat.le_of_ble_eq_true rfl) rfl rfl) Tryz.sizeOf34 rfl, ?_⟩
      refine g_nil ?_
      refine s_heap (H' := [some ⟨true, [.one (.int .u8 kd), .ints .u8 16 tg, .one (.int .u32 sp), .ints .u8 32 bd, .one (.int .u64 gn), .one (.int .u8 mn)]⟩, some ⟨true, S84⟩, some ⟨true, [.one .nilp, .one (.ptr 1 0 0)]⟩, some ⟨true, [.one (.int .u8 0), .ints .u8 16 (List.replicate 16 0), .ints .u8 16 (List.replicate 16 0), .one .nils]⟩, some ⟨true, [.one (.int .u8 0), .one (.int .u64 0), .ints .u8 32 (List.replicate 32 0)]⟩, some ⟨true, [.ints .u64 4 (List.replicate 4 0)]⟩]) rfl ?_
      refine s_p (by first | exact h_assign (v := .s _) rfl | exact h_assign (v := .agg _) rfl | exact h_assign (v := .tup _) rfl) ?_
      refine s_nil ?_
      refine n_wp ?_
      refine w_seq ?_
      refine c_anyS 12 10 mix (by kernel_rfl) (by kernel_rfl) rfl rfl rfl rfl rfl rfl rfl (by simp [Op.operands]) ?_
      refine g_p (by first | exact h_move (v := .s _) rfl | exact h_move (v := .agg _) rfl | exact h_move (v := .tup _) rfl) ?_
      refine g_p (by first | exact h_move (v := .s _) rfl | exact h_move (v := .agg _) rfl | exact h_move (v := .tup _) rfl) ?_
      refine g_p (by first | exact h_ixs0 rfl rfl Tryz.underlying85 Tryz.sizeOf79 (by omega) | exact h_ixs rfl rfl Tryz.underlying85 Tryz.sizeOf79 (by omega) | exact h_ixsx rfl rfl Tryz.underlying85 Tryz.sizeOf79 (by omega)) ?_
      refine g_p (by first | exact h_load_one rfl rfl rfl Tryz.isAgg79 | exact h_load rfl rfl rfl Tryz.isAgg79) ?_
      refine g_p (h_field rfl Tryz.underlying78 rfl Tryz.sizeOf32 (by decide)) ?_
      refine g_p (by first | exact h_load_ints rfl rfl rfl (by omega) rfl Tryz.isAgg32 | exact h_load_one rfl rfl rfl Tryz.isAgg32) ?_
      refine g_p (h_call callable_23 rfl (by first | exact Public_nil _ _ | exact Public_zero _ _ _ rfl rfl _)) ?_
      refine g_p (by first | exact h_move (v := .s _) rfl | exact h_move (v := .agg _) rfl | exact h_move (v := .tup _) rfl) ?_
      refine g_p (h_extract rfl rfl (by simp)) ?_
      refine g_p (h_extract rfl rfl (by simp)) ?_
      refine g_nil ?_
      refine ⟨_, _, ⟨true, [.ints .u64 4 (List.replicate 4 0)]⟩, [some ⟨false, [.one (.int .u8 kd), .ints .u8 16 tg, .one (.int .u32 sp), .ints .u8 32 bd, .one (.int .u64 gn), .one (.int .u8 mn)]⟩, some ⟨false, S84⟩, some ⟨false, [.one .nilp, .one (.ptr 1 0 0)]⟩, some ⟨false, [.one (.int .u8 0), .ints .u8 16 (List.replicate 16 0), .ints .u8 16 (List.replicate 16 0), .one .nils]⟩, some ⟨false, [.one (.int .u8 0), .one (.int .u64 0), .ints .u8 32 (List.replicate 32 0)]⟩, some ⟨false, [.ints .u64 4 (List.replicate 4 0)]⟩, some ⟨true, [.ints .u64 4 (List.replicate 4 0)]⟩], [some ⟨false, [.one (.int .u8 kd), .ints .u8 16 tg, .one (.int .u32 sp), .ints .u8 32 bd, .one (.int .u64 gn), .one (.int .u8 mn)]⟩, some ⟨false, S84⟩, some ⟨false, [.one .nilp, .one (.ptr 1 0 0)]⟩, some ⟨false, [.one (.int .u8 0), .ints .u8 16 (List.replicate 16 0), .ints .u8 16 (List.replicate 16 0), .one .nils]⟩, some ⟨false, [.one (.int .u8 0), .one (.int .u64 0), .ints .u8 32 (List.replicate 32 0)]⟩, some ⟨false, [.ints .u64 4 (List.replicate 4 0)]⟩, some ⟨true, [.ints .u64 4 (List.replicate 4 0)]⟩], [some ⟨true, [.one (.int .u8 kd), .ints .u8 16 tg, .one (.int .u32 sp), .ints .u8 32 bd, .one (.int .u64 gn), .one (.int .u8 mn)]⟩, some ⟨true, S84⟩, some ⟨true, [.one .nilp, .one (.ptr 1 0 0)]⟩, some ⟨true, [.one (.int .u8 0), .ints .u8 16 (List.replicate 16 0), .ints .u8 16 (List.replicate 16 0), .one .nils]⟩, some ⟨true, [.one (.int .u8 0), .one (.int .u64 0), .ints .u8 32 (List.replicate 32 0)]⟩, some ⟨true, [.ints .u64 4 (List.replicate 4 0)]⟩, some ⟨true, [.ints .u64 4 (List.replicate 4 0)]⟩], (h_alloc (segs := [.ints .u64 4 (List.replicate 4 0)]) Tryz.zeroValue34 (by kernel_rfl) rfl), rfl, rfl, rfl, rfl, rfl, rfl, m_store_agg (n := 4) (segs := [.ints .u64 4 (List.replicate 4 0)]) (sub := [.ints .u64 4 (List.replicate 4 0)]) (id := 6) (base := 0) (idx := 0) rfl rfl rfl (.whole (Nat.le_of_ble_eq_true rfl) rfl rfl) Tryz.sizeOf34 rfl, ?_⟩
      refine g_nil ?_
      refine s_heap (H' := [some ⟨true, [.one (.int .u8 kd), .ints .u8 16 tg, .one (.int .u32 sp), .ints .u8 32 bd, .one (.int .u64 gn), .one (.int .u8 mn)]⟩, some ⟨true, S84⟩, some ⟨true, [.one .nilp, .one (.ptr 1 0 0)]⟩, some ⟨true, [.one (.int .u8 0), .ints .u8 16 (List.replicate 16 0), .ints .u8 16 (List.replicate 16 0), .one .nils]⟩, some ⟨true, [.one (.int .u8 0), .one (.int .u64 0), .ints .u8 32 (List.replicate 32 0)]⟩, some ⟨true, [.ints .u64 4 (List.replicate 4 0)]⟩, some ⟨true, [.ints .u64 4 (List.replicate 4 0)]⟩]) rfl ?_
      refine s_p (by first | exact h_assign (v := .s _) rfl | exact h_assign (v := .agg _) rfl | exact h_assign (v := .tup _) rfl) ?_
      refine s_nil ?_
      refine n_wp ?_
      refine w_seq ?_
      refine c_reg (by kernel_rfl) rfl ?_
      refine s_p (by first | exact h_move (v := .s _) rfl | exact h_move (v := .agg _) rfl | exact h_move (v := .tup _) rfl) ?_
      refine s_p (h_bin rfl rfl (b_neq rfl)) ?_
      refine s_p (by first | exact h_move (v := .s _) rfl | exact h_move (v := .agg _) rfl | exact h_move (v := .tup _) rfl) ?_
      first | refine s_on rfl rfl (by first | rfl | assumption) (by first | exact h_move (v := .s _) rfl | exact h_move (v := .agg _) rfl | exact h_move (v := .tup _) rfl) ?_ | refine s_off rfl rfl (by first | rfl | assumption) ?_
      first | refine s_on rfl rfl (by first | rfl | assumption) (h_bin rfl rfl (b_neq rfl)) ?_ | refine s_off rfl rfl (by first | rfl | assumption) ?_
      refine s_p (by first | exact h_pick_t rfl (by first | rfl | assumption) rfl | exact h_pick_f rfl (by first | rfl | assumption) rfl) ?_
      refine s_p (by first | exact h_move (v := .s _) rfl | exact h_move (v := .agg _) rfl | exact h_move (v := .tup _) rfl) ?_
      first | refine s_on rfl rfl (by first | rfl | assumption) (by first | exact h_move (v := .s _) rfl | exact h_move (v := .agg _) rfl | exact h_move (v := .tup _) rfl) ?_ | refine s_off rfl rfl (by first | rfl | assumption) ?_
      first | refine s_on rfl rfl (by first | rfl | assumption) (h_bin rfl rfl (b_neq rfl)) ?_ | refine s_off rfl rfl (by first | rfl | assumption) ?_
      refine s_p (by first | exact h_pick_t rfl (by first | rfl | assumption) rfl | exact h_pick_f rfl (by first | rfl | assumption) rfl) ?_
      refine s_p (by first | exact h_move (v := .s _) rfl | exact h_move (v := .agg _) rfl | exact h_move (v := .tup _) rfl) ?_
      first | refine s_on rfl rfl (by first | rfl | assumption) (by first | exact h_move (v := .s _) rfl | exact h_move (v := .agg _) rfl | exact h_move (v := .tup _) rfl) ?_ | refine s_off rfl rfl (by first | rfl | assumption) ?_
      first | refine s_on rfl rfl (by first | rfl | assumption) (h_bin rfl rfl (b_neq rfl)) ?_ | refine s_off rfl rfl (by first | rfl | assumption) ?_
      refine s_p (by first | exact h_pick_t rfl (by first | rfl | assumption) rfl | exact h_pick_f rfl (by first | rfl | assumption) rfl) ?_
      refine s_p (by first | exact h_move (v := .s _) rfl | exact h_move (v := .agg _) rfl | exact h_move (v := .tup _) rfl) ?_
      first | refine s_on rfl rfl (by first | rfl | assumption) (h_field rfl Tryz.underlying27 rfl Tryz.sizeOf25 (by decide)) ?_ | refine s_off rfl rfl (by first | rfl | assumption) ?_
      first | refine s_on rfl rfl (by first | rfl | assumption) (by first | exact h_load_ints rfl rfl rfl (by omega) rfl Tryz.isAgg25 | exact h_load_one rfl rfl rfl Tryz.isAgg25) ?_ | refine s_off rfl rfl (by first | rfl | assumption) ?_
      first | refine s_on rfl rfl (by first | rfl | assumption) (by first | exact h_len rfl Tryz.underlying25 | exact h_len_slx rfl Tryz.underlying25 | exact h_len_nil rfl Tryz.underlying25) ?_ | refine s_off rfl rfl (by first | rfl | assumption) ?_
      first | refine s_on rfl rfl (by first | rfl | assumption) (h_bin rfl rfl (b_neq rfl)) ?_ | refine s_off rfl rfl (by first | rfl | assumption) ?_
      refine s_p (by first | exact h_pick_t rfl (by first | rfl | assumption) rfl | exact h_pick_f rfl (by first | rfl | assumption) rfl) ?_
      refine s_p (by first | exact h_move (v := .s _) rfl | exact h_move (v := .agg _) rfl | exact h_move (v := .tup _) rfl) ?_
      first | refine s_on rfl rfl (by first | rfl | assumption) (by first | exact h_load_agg rfl rfl (.whole rfl) Tryz.isAgg92 Tryz.sizeOf92 | exact h_load_agg rfl rfl (.seg rfl rfl) Tryz.isAgg92 Tryz.sizeOf92 | exact h_load_agg rfl rfl (.ints rfl (by omega)) Tryz.isAgg92 Tryz.sizeOf92) ?_ | refine s_off rfl rfl (by first | rfl | assumption) ?_
      first | refine s_on rfl rfl (by first | rfl | assumption) (h_build0 (segs := [.one (.int .u8 0), .one (.int .u64 0), .ints .u8 32 (List.replicate 32 0)]) build0_92 (by kernel_rfl)) ?_ | refine s_off rfl rfl (by first | rfl | assumption) ?_
      first | refine s_on rfl rfl (by first | rfl | assumption) (h_litb (r := .bool false) (z := .bool false) rfl rfl rfl rfl (fun w => by kernel_rfl) (fun w => by kernel_rfl) rfl rfl) ?_ | refine s_off rfl rfl (by first | rfl | assumption) ?_
      refine s_p (by first | exact h_pick_t rfl (by first | rfl | assumption) rfl | exact h_pick_f rfl (by first | rfl | assumption) rfl) ?_
      refine s_p (by first | exact h_move (v := .s _) rfl | exact h_move (v := .agg _) rfl | exact h_move (v := .tup _) rfl) ?_
      first | refine s_on rfl rfl (by first | rfl | assumption) (by first | exact h_load_agg rfl rfl (.whole rfl) Tryz.isAgg34 Tryz.sizeOf34 | exact h_load_agg rfl rfl (.seg rfl rfl) Tryz.isAgg34 Tryz.sizeOf34 | exact h_load_agg rfl rfl (.ints rfl (by omega)) Tryz.isAgg34 Tryz.sizeOf34) ?_ | refine s_off rfl rfl (by first | rfl | assumption) ?_
      first | refine s_on rfl rfl (by first | rfl | assumption) (h_build0 (segs := [.ints .u64 4 (List.replicate 4 0)]) build0_34 (by kernel_rfl)) ?_ | refine s_off rfl rfl (by first | rfl | assumption) ?_
      first | refine s_on rfl rfl (by first | rfl | assumption) (h_litb (r := .bool false) (z := .bool false) rfl rfl rfl rfl (fun w => by kernel_rfl) (fun w => by kernel_rfl) rfl rfl) ?_ | refine s_off rfl rfl (by first | rfl | assumption) ?_
      refine s_p (by first | exact h_pick_t rfl (by first | rfl | assumption) rfl | exact h_pick_f rfl (by first | rfl | assumption) rfl) ?_
      refine s_p (by first | exact h_move (v := .s _) rfl | exact h_move (v := .agg _) rfl | exact h_move (v := .tup _) rfl) ?_
      first | refine s_on rfl rfl (by first | rfl | assumption) (by first | exact h_load_agg rfl rfl (.whole rfl) Tryz.isAgg34 Tryz.sizeOf34 | exact h_load_agg rfl rfl (.seg rfl rfl) Tryz.isAgg34 Tryz.sizeOf34 | exact h_load_agg rfl rfl (.ints rfl (by omega)) Tryz.isAgg34 Tryz.sizeOf34) ?_ | refine s_off rfl rfl (by first | rfl | assumption) ?_
      first | refine s_on rfl rfl (by first | rfl | assumption) (by first | exact h_load_agg rfl rfl (.whole rfl) Tryz.isAgg34 Tryz.sizeOf34 | exact h_load_agg rfl rfl (.seg rfl rfl) Tryz.isAgg34 Tryz.sizeOf34 | exact h_load_agg rfl rfl (.ints rfl (by omega)) Tryz.isAgg34 Tryz.sizeOf34) ?_ | refine s_off rfl rfl (by first | rfl | assumption) ?_
      first | refine s_on rfl rfl (by first | rfl | assumption) (h_litb (r := .bool false) (z := .bool false) rfl rfl rfl rfl (fun w => by kernel_rfl) (fun w => by kernel_rfl) rfl rfl) ?_ | refine s_off rfl rfl (by first | rfl | assumption) ?_
      refine s_p (by first | exact h_pick_t rfl (by first | rfl | assumption) rfl | exact h_pick_f rfl (by first | rfl | assumption) rfl) ?_
      refine s_p (by first | exact h_move (v := .s _) rfl | exact h_move (v := .agg _) rfl | exact h_move (v := .tup _) rfl) ?_
      first | refine s_on rfl rfl (by first | rfl | assumption) (by first | exact h_move (v := .s _) rfl | exact h_move (v := .agg _) rfl | exact h_move (v := .tup _) rfl) ?_ | refine s_off rfl rfl (by first | rfl | assumption) ?_
      first | refine s_on rfl rfl (by first | rfl | assumption) (by first | exact h_move (v := .s _) rfl | exact h_move (v := .agg _) rfl | exact h_move (v := .tup _) rfl) ?_ | refine s_off rfl rfl (by first | rfl | assumption) ?_
      first | refine s_on rfl rfl (by first | rfl | assumption) (by first | exact h_ixs0 rfl rfl Tryz.underlying85 Tryz.sizeOf79 (by omega) | exact h_ixs rfl rfl Tryz.underlying85 Tryz.sizeOf79 (by omega) | exact h_ixsx rfl rfl Tryz.underlying85 Tryz.sizeOf79 (by omega)) ?_ | refine s_off rfl rfl (by first | rfl | assumption) ?_
      first | refine s_on rfl rfl (by first | rfl | assumption) (by first | exact h_load_one rfl rfl rfl Tryz.isAgg79 | exact h_load rfl rfl rfl Tryz.isAgg79) ?_ | refine s_off rfl rfl (by first | rfl | assumption) ?_
      first | refine s_on rfl rfl (by first | rfl | assumption) (h_call callable_24 rfl (by first | exact Tick_nil _ | exact Tick_zero _ _ _ rfl rfl)) ?_ | refine s_off rfl rfl (by first | rfl | assumption) ?_
      first | refine s_on rfl rfl (by first | rfl | assumption) (h_bin rfl rfl (b_neq rfl)) ?_ | refine s_off rfl rfl (by first | rfl | assumption) ?_
      refine s_p (by first | exact h_pick_t rfl (by first | rfl | assumption) rfl | exact h_pick_f rfl (by first | rfl | assumption) rfl) ?_
      refine s_p (by first | exact h_move (v := .s _) rfl | exact h_move (v := .agg _) rfl | exact h_move (v := .tup _) rfl) ?_
      first | refine s_on rfl rfl (by first | rfl | assumption) (by first | exact h_move (v := .s _) rfl | exact h_move (v := .agg _) rfl | exact h_move (v := .tup _) rfl) ?_ | refine s_off rfl rfl (by first | rfl | assumption) ?_
      first | refine s_on rfl rfl (by first | rfl | assumption) (by first | exact h_move (v := .s _) rfl | exact h_move (v := .agg _) rfl | exact h_move (v := .tup _) rfl) ?_ | refine s_off rfl rfl (by first | rfl | assumption) ?_
      first | refine s_on rfl rfl (by first | rfl | assumption) (by first | exact h_ixs0 rfl rfl Tryz.underlying85 Tryz.sizeOf79 (by omega) | exact h_ixs rfl rfl Tryz.underlying85 Tryz.sizeOf79 (by omega) | exact h_ixsx rfl rfl Tryz.underlying85 Tryz.sizeOf79 (by omega)) ?_ | refine s_off rfl rfl (by first | rfl | assumption) ?_
      first | refine s_on rfl rfl (by first | rfl | assumption) (by first | exact h_load_one rfl rfl rfl Tryz.isAgg79 | exact h_load rfl rfl rfl Tryz.isAgg79) ?_ | refine s_off rfl rfl (by first | rfl | assumption) ?_
      first | refine s_on rfl rfl (by first | rfl | assumption) (h_call callable_25 rfl (by first | exact Gens_nil _ | exact Gens_zero _ _ _ rfl rfl)) ?_ | refine s_off rfl rfl (by first | rfl | assumption) ?_
      first | refine s_on rfl rfl (by first | rfl | assumption) (by first | exact h_len rfl Tryz.underlying97 | exact h_len_slx rfl Tryz.underlying97 | exact h_len_nil rfl Tryz.underlying97) ?_ | refine s_off rfl rfl (by first | rfl | assumption) ?_
      first | refine s_on rfl rfl (by first | rfl | assumption) (h_bin rfl rfl (b_neq rfl)) ?_ | refine s_off rfl rfl (by first | rfl | assumption) ?_
      refine s_p (by first | exact h_pick_t rfl (by first | rfl | assumption) rfl | exact h_pick_f rfl (by first | rfl | assumption) rfl) ?_
      refine s_nil ?_
      refine n_wp ?_
      refine w_cond rfl (fun hc_t122 => ?_) (fun hc_t122 => ?_)
      · exact absurd hc_t122 (by simp)
      refine w_skip ?_
      refine n_blo ?_
      refine n_wp ?_
      refine c_reg (by kernel_rfl) rfl ?_
      refine s_p (by first | exact h_move (v := .s _) rfl | exact h_move (v := .agg _) rfl | exact h_move (v := .tup _) rfl) ?_
      refine s_p (by first | exact h_bin rfl rfl (b_add (Go.IntWalk.i64_in _ (by omega))) | exact h_bin rfl rfl (b_add rfl)) ?_
      refine s_p (by first | exact h_assign (v := .s _) rfl | exact h_assign (v := .agg _) rfl | exact h_assign (v := .tup _) rfl) ?_
      refine s_nil ?_
      first | exact n_round 1 (by omega) ⟨1, by omega, rfl, rfl, rfl⟩ (weak' (by repeat (first | exact trivial | refine ⟨rfl, ?_⟩)) rfl rfl (Nat.le_of_ble_eq_true rfl)) | exact n_round 0 (by omega) ⟨2, by omega, rfl, rfl, rfl⟩ (weak' (by repeat (first | exact trivial | refine ⟨rfl, ?_⟩)) rfl rfl (Nat.le_of_ble_eq_true rfl))
    )
  · skip
    obtain rfl : k = 2 := by have := of_decide_eq_false hc_t26; omega
    refine w_exit ?_
    refine x_thn ?_
    refine x_thn ?_
    refine x_eq ?_
    refine n_wp ?_
    refine w_seq ?_
    refine c_reg (by kernel_rfl) rfl ?_
    refine s_p (by first | exact h_move (v := .s _) rfl | exact h_move (v := .agg _) rfl | exact h_move (v := .tup _) rfl) ?_
    refine s_p (h_bin rfl rfl (b_eql rfl)) ?_
    refine s_p (by first | exact h_assign (v := .s _) rfl | exact h_assign (v := .agg _) rfl | exact h_assign (v := .tup _) rfl) ?_
    refine s_nil ?_
    refine n_wp ?_
    refine w_ret ?_
    exact ⟨.inl rfl, ret_tmp Tryz.results5 rfl⟩
end Go.Proofs.X
