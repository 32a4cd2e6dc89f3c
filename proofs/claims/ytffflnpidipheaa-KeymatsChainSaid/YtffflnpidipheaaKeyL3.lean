/- A part of the proofs of this claim: KeyL3. No conditions. -/
import Derived.Test.YtffflnpidipheaaKeyL1
import Derived.Test.YtffflnpidipheaaAb26
open Go Go.Ab Go.Proofs
namespace Go.Proofs.X
theorem callable_9 : Callable Try.prog 9 := ⟨_, Try.func9, by kernel_rfl, rfl⟩
set_option maxRecDepth 100000 in
set_option maxHeartbeats 2000000 in
theorem chain_law (H : Heap) (L ID : List Int) (at_ p : Nat) (hL : L.length = 4) (hID : ID.length = 32) (h0 : at_ < 256) (hp : p = at_ % 20) : ACall Try.prog 9 H [.agg [.ints .u64 4 L], .agg [.ints .u8 32 ID], .s (.int .u8 ((at_ : Nat) : Int))] (.s (.bool true)) [] := by
  refine acall_gen2 (args0 := [.agg [.ints .u64 4 L], .agg [.ints .u8 32 ID], .s (.int .u8 ((at_ : Nat) : Int))]) (H0 := []) (Hf := []) (v0 := .s (.bool true)) [] [] Try.func9 rfl Try.ntmps9 (by simp) rfl
    (fun k id sh b0 h1 h2 => by simp at h1) (fun W ρ vals w hH ha k id' sh' hk => by simp at hk) rfl rfl rfl (by decide) rfl rfl rfl (fun W w ρ0 hW hdom => ?_)
  refine w_seq ?_
  refine c_reg (by kernel_rfl) rfl ?_
  refine s_a (by first | exact h_box_agg rfl rfl | exact h_box rfl (by simp) rfl) rfl ?_
  refine s_a (by first | exact h_box_agg rfl rfl | exact h_box rfl (by simp) rfl) rfl ?_
  refine s_p (by first | exact h_assign (v := .s _) rfl | exact h_assign (v := .agg _) rfl | exact h_assign (v := .tup _) rfl) ?_
  refine s_nil ?_
  refine n_wp ?_
  refine w_seq ?_
  refine c_reg (by kernel_rfl) rfl ?_
  refine s_p (by first | exact h_move (v := .s _) rfl | exact h_move (v := .agg _) rfl | exact h_move (v := .tup _) rfl) ?_
  refine s_p (h_conv (r := ((at_ : Nat) : Int)) rfl Try.underlying5 Try.underlying3 (wr_n rfl (by omega))) ?_
  refine s_p (h_bin rfl rfl (b_rem (r := ((at_ % 20 : Nat) : Int)) (by omega) rfl)) ?_
  refine s_p (h_bin rfl rfl (b_add (r := ((p + 1 : Nat) : Int)) (wr_n (by omega) (by omega)))) ?_
  refine s_p (by first | exact h_assign (v := .s _) rfl | exact h_assign (v := .agg _) rfl | exact h_assign (v := .tup _) rfl) ?_
  refine s_nil ?_
  refine n_wp ?_
  refine w_seq ?_
  refine c_any 6 mix (by kernel_rfl) (by kernel_rfl) rfl rfl rfl ?_
  refine t_p (h_asl_0 rfl Try.underlying44 Try.sizeOf5 (by omega)) ?_
  refine t_p (by first | exact h_load_agg rfl rfl (.whole rfl) Try.isAgg42 Try.sizeOf42 | exact h_load_agg rfl rfl (.seg rfl rfl) Try.isAgg42 Try.sizeOf42 | exact h_load_agg rfl rfl (.ints rfl (by omega)) Try.isAgg42 Try.sizeOf42) ?_
  refine t_a (h_call callable_32 rfl (PutLong_n _ L hL)) rfl ?_
  refine t_a (h_bsls1 rfl (by simp) Try.underlying92 Try.sizeOf29 Try.zeroValue29 rfl rfl) rfl ?_
  refine t_p (h_call callable_31 rfl (mac1 _ 1 0 32 3 ID _ _ (PL L) 32 32 hID (Nat.le_refl _) rfl (fun i y hy => by rw [Nat.zero_add i]; exact hy) rfl 2 0 _ (PL_len L) (Nat.le_refl _) (by omega) rfl (fun i y hy => by rw [Nat.zero_add i]; exact hy) rfl)) ?_
  refine t_a (h_alloc (segs := [.ints .u8 32 (z 32)]) Try.zeroValue44 (by kernel_rfl) rfl) rfl ?_
  refine t_nil ?_
  refine s_st (m_store_agg (n := 32) (segs := [.ints .u8 32 (z 32)]) (sub := [.ints .u8 32 (kmK ID L)]) (id := 4) (base := 0) (idx := 0) rfl rfl rfl (.whole (Nat.le_of_ble_eq_true rfl) rfl rfl) Try.sizeOf44 rfl) ?_
  refine s_heap (H' := [some ⟨true, [.ints .u64 4 L]⟩, some ⟨true, [.ints .u8 32 ID]⟩, some ⟨true, [.ints .u8 32 (PL L)]⟩, some ⟨true, [.one (.slice 2 0 0 32 32)]⟩, some ⟨true, [.ints .u8 32 (kmK ID L)]⟩]) (by kernel_rfl) ?_
  refine s_nil ?_
  refine n_wp ?_
  refine w_seq ?_
  refine c_reg (by kernel_rfl) rfl ?_
  refine s_p (by first | exact h_load_agg rfl rfl (.whole rfl) Try.isAgg42 Try.sizeOf42 | exact h_load_agg rfl rfl (.seg rfl rfl) Try.isAgg42 Try.sizeOf42 | exact h_load_agg rfl rfl (.ints rfl (by omega)) Try.isAgg42 Try.sizeOf42) ?_
  refine s_p (by first | exact h_load_agg rfl rfl (.whole rfl) Try.isAgg44 Try.sizeOf44 | exact h_load_agg rfl rfl (.seg rfl rfl) Try.isAgg44 Try.sizeOf44 | exact h_load_agg rfl rfl (.ints rfl (by omega)) Try.isAgg44 Try.sizeOf44) ?_
  refine s_p (by first | exact h_move (v := .s _) rfl | exact h_move (v := .agg _) rfl | exact h_move (v := .tup _) rfl) ?_
  refine s_p (h_bin rfl rfl (b_mul (r := ((32 * (p + 1) : Nat) : Int)) (wr_n (by omega) (by omega)))) ?_
  refine s_p (h_bin rfl rfl (b_add (r := ((32 * (p + 1) + 32 : Nat) : Int)) (wr_n (by omega) (by omega)))) ?_
  refine s_a (h_call callable_29 rfl (kOf_c _ L ID (32 * (p + 1) + 32) hL hID (by omega))) rfl ?_
  refine s_p (by first | exact h_move (v := .s _) rfl | exact h_move (v := .agg _) rfl | exact h_move (v := .tup _) rfl) ?_
  refine s_p (h_extract rfl rfl (by simp)) ?_
  refine s_p (h_extract rfl rfl (by simp)) ?_
  refine s_p (by first | exact h_assign (v := .s _) rfl | exact h_assign (v := .agg _) rfl | exact h_assign (v := .tup _) rfl) ?_
  refine s_p (by first | exact h_assign (v := .s _) rfl | exact h_assign (v := .agg _) rfl | exact h_assign (v := .tup _) rfl) ?_
  refine s_nil ?_
  refine n_wp ?_
  refine w_seq ?_
  refine w_seq ?_
  refine c_reg (by kernel_rfl) rfl ?_
  refine s_p (by first | exact h_move (v := .s _) rfl | exact h_move (v := .agg _) rfl | exact h_move (v := .tup _) rfl) ?_
  refine s_p (h_bin rfl rfl (b_neq rfl)) ?_
  refine s_p (by first | exact h_move (v := .s _) rfl | exact h_move (v := .agg _) rfl | exact h_move (v := .tup _) rfl) ?_
  first | refine s_on rfl rfl (by first | rfl | assumption) (by first | exact h_move (v := .s _) rfl | exact h_move (v := .agg _) rfl | exact h_move (v := .tup _) rfl) ?_ | refine s_off rfl rfl (by first | rfl | assumption) ?_
  first | refine s_on rfl rfl (by first | rfl | assumption) (by first | exact h_len rfl Try.underlying29 | exact h_len_nil rfl Try.underlying29 | exact h_len_val rfl Try.underlying29) ?_ | refine s_off rfl rfl (by first | rfl | assumption) ?_
  first | refine s_on rfl rfl (by first | rfl | assumption) (by first | exact h_move (v := .s _) rfl | exact h_move (v := .agg _) rfl | exact h_move (v := .tup _) rfl) ?_ | refine s_off rfl rfl (by first | rfl | assumption) ?_
  first | refine s_on rfl rfl (by first | rfl | assumption) (h_bin rfl rfl (b_mul (r := ((32 * (p + 1) : Nat) : Int)) (wr_n (by omega) (by omega)))) ?_ | refine s_off rfl rfl (by first | rfl | assumption) ?_
  first | refine s_on rfl rfl (by first | rfl | assumption) (h_bin rfl rfl (b_add (r := ((32 * (p + 1) + 32 : Nat) : Int)) (wr_n (by omega) (by omega)))) ?_ | refine s_off rfl rfl (by first | rfl | assumption) ?_
  first | refine s_on rfl rfl (by first | rfl | assumption) (h_bin rfl rfl (b_neq (decide_eq_false (fun h => h rfl)))) ?_ | refine s_off rfl rfl (by first | rfl | assumption) ?_
  refine s_p (by first | exact h_pick_t rfl (by first | rfl | assumption) rfl | exact h_pick_f rfl (by first | rfl | assumption) rfl) ?_
  refine s_nil ?_
  refine n_wp ?_
  refine w_cond rfl (fun hc_t39 => ?_) (fun hc_t39 => ?_)
  · exact absurd hc_t39 (by simp)
  refine w_skip ?_
  refine n_wp ?_
  refine w_seq ?_
  refine c_anyC 17 8 mix (by kernel_rfl) (by kernel_rfl) rfl rfl rfl rfl rfl rfl rfl rfl (by kernel_rfl) Try.underlying29 Try.underlying5 ?_
  refine g_p (h_asl_0 rfl Try.underlying44 Try.sizeOf5 (by omega)) ?_
  refine g_p (by first | exact h_move (v := .s _) rfl | exact h_move (v := .agg _) rfl | exact h_move (v := .tup _) rfl) ?_
  refine g_p (by first | exact h_move (v := .s _) rfl | exact h_move (v := .agg _) rfl | exact h_move (v := .tup _) rfl) ?_
  refine g_p (h_bin rfl rfl (b_mul (r := ((32 * (p + 1) : Nat) : Int)) (wr_n (by omega) (by omega)))) ?_
  refine g_p (h_bin rfl rfl (b_sub (r := ((32 * p : Nat) : Int)) (wr_n (by omega) (by omega)))) ?_
  refine g_p (by first | exact h_move (v := .s _) rfl | exact h_move (v := .agg _) rfl | exact h_move (v := .tup _) rfl) ?_
  refine g_p (h_bin rfl rfl (b_mul (r := ((32 * (p + 1) : Nat) : Int)) (wr_n (by omega) (by omega)))) ?_
  refine g_p (slice_base (L := 32 * p) (h_slice_lh (l := 32 * p) (h := 32 * (p + 1)) (n := 32) rfl rfl rfl rfl rfl Try.underlying29 Try.sizeOf5 (by omega) (by omega) (by omega) (by omega) rfl) (by omega)) ?_
  refine g_nil ?_
  refine ⟨_, _, _, _, (h_bsli4 rfl rfl rfl rfl Try.underlying29 Try.sizeOf5 Try.zeroValue5 rfl rfl), rfl, ?_⟩
  refine g_p (by first | exact h_move (v := .s _) rfl | exact h_move (v := .agg _) rfl | exact h_move (v := .tup _) rfl) ?_
  refine g_p (h_bin rfl rfl (b_add (r := ((p + 1 + 1 : Nat) : Int)) (wr_n (by omega) (by omega)))) ?_
  refine g_p (h_conv (r := ((p + 1 + 1 : Nat) : Int)) rfl Try.underlying3 Try.underlying5 (wrap_u8 (by omega) (by omega))) ?_
  refine g_a (h_bsli1 rfl Try.underlying29 Try.sizeOf5 Try.zeroValue5 rfl rfl) rfl ?_
  refine g_a (h_bsls3 rfl rfl rfl (by simp) (by simp) (by simp) Try.underlying92 Try.sizeOf29 Try.zeroValue29 rfl rfl) rfl ?_
  refine g_p (h_call callable_31 rfl (mac3 _ 4 0 32 8 (kmK ID L) _ _ (kl (kmK ID L) (p + 1)) 32 (32 * (p + 1) + 32 - 32 * p) laneL 4 4 [((p + 1 + 1 : Nat) : Int)] 1 1 (kmK_len _ _) (Nat.le_refl _) rfl (fun i y hy => by rw [Nat.zero_add i]; exact hy) rfl 5 (32 * p) _ (kl_len (kmK ID L) (by omega)) (by omega) (by omega) rfl (fun i y hy => by rw [← kmOf_block ID L (32 * (p + 1) + 32) p (by omega)] at hy; have h := win_ints (segs := [.ints .u8 ((32 * (p + 1) + 32) + 32) (kmOf ID L (32 * (p + 1) + 32))]) (base := 0) (idx := 32 * p) (n := 32) (m := (32 * (p + 1) + 32) + 32) rfl (by omega) i y hy; rwa [Nat.zero_add] at h) 6 0 _ rfl (Nat.le_refl _) (by omega) rfl (fun i y hy => by rw [Nat.zero_add i]; exact hy) 7 0 _ rfl (Nat.le_refl _) (by omega) rfl (fun i y hy => by rw [Nat.zero_add i]; exact hy) rfl)) ?_
  refine g_a (h_alloc (segs := [.ints .u8 32 (z 32)]) Try.zeroValue44 (by kernel_rfl) rfl) rfl ?_
  refine g_nil ?_
  refine s_st (m_store_agg (n := 32) (segs := [.ints .u8 32 (z 32)]) (sub := [.ints .u8 32 (kl (kmK ID L) (p + 1 + 1))]) (id := 9) (base := 0) (idx := 0) rfl (by rw [kl_succ (kmK ID L) (i := p + 1) (by omega)]; rfl) rfl (.whole (Nat.le_of_ble_eq_true rfl) rfl rfl) Try.sizeOf44 rfl) ?_
  refine s_heap (H' := [some ⟨true, [.ints .u64 4 L]⟩, some ⟨true, [.ints .u8 32 ID]⟩, some ⟨true, [.ints .u8 32 (PL L)]⟩, some ⟨true, [.one (.slice 2 0 0 32 32)]⟩, some ⟨true, [.ints .u8 32 (kmK ID L)]⟩, some ⟨true, [.ints .u8 ((32 * (p + 1) + 32) + 32) (kmOf ID L (32 * (p + 1) + 32))]⟩, some ⟨false, [.ints .u8 4 laneL]⟩, some ⟨true, [.ints .u8 1 [((p + 1 + 1 : Nat) : Int)]]⟩, some ⟨true, [.one (.slice 5 (0 + 32 * p) 0 32 (32 * (p + 1) + 32 - 32 * p)), .one (.slice 6 0 0 4 4), .one (.slice 7 0 0 1 1)]⟩, some ⟨true, [.ints .u8 32 (kl (kmK ID L) (p + 1 + 1))]⟩]) (by kernel_rfl) ?_
  refine s_nil ?_
  refine n_wp ?_
  refine w_seq ?_
  refine c_any 5 mix (by kernel_rfl) (by kernel_rfl) rfl rfl rfl ?_
  refine t_p (h_asl_0 rfl Try.underlying44 Try.sizeOf5 (by omega)) ?_
  refine t_p (by first | exact h_move (v := .s _) rfl | exact h_move (v := .agg _) rfl | exact h_move (v := .tup _) rfl) ?_
  refine t_p (by first | exact h_move (v := .s _) rfl | exact h_move (v := .agg _) rfl | exact h_move (v := .tup _) rfl) ?_
  refine t_p (h_bin rfl rfl (b_mul (r := ((32 * (p + 1) : Nat) : Int)) (wr_n (by omega) (by omega)))) ?_
  refine t_p (h_slice_l3 (l := 32 * (p + 1)) (n := 32) rfl rfl rfl Try.underlying29 Try.sizeOf5 (by omega) (by omega) (by omega) rfl) ?_
  refine t_nil ?_
  refine s_p (h_call callable_27 rfl (same_ss (kl (kmK ID L) (p + 1 + 1)) 32 _ _ (by omega) _ 9 0 0 32 _ (kl (kmK ID L) (p + 1 + 1)) rfl rfl (by omega) (by rw [List.drop_zero, List.take_of_length_le (Nat.le_of_eq (kl_len (kmK ID L) (by omega)))]) 5 0 (0 + 32 * (p + 1)) ((32 * (p + 1) + 32) + 32) _ (kmOf ID L (32 * (p + 1) + 32)) rfl rfl (by omega) (by rw [Nat.zero_add]; exact (kmOf_block ID L (32 * (p + 1) + 32) (p + 1) (by omega)).symm))) ?_
  refine s_p (by first | exact h_move (v := .s _) rfl | exact h_move (v := .agg _) rfl | exact h_move (v := .tup _) rfl) ?_
  first | refine s_on rfl rfl (by first | rfl | assumption) (h_call callable_30 rfl (lives10 _)) ?_ | refine s_off rfl rfl (by first | rfl | assumption) ?_
  refine s_p (by first | exact h_pick_t rfl (by first | rfl | assumption) rfl | exact h_pick_f rfl (by first | rfl | assumption) rfl) ?_
  refine s_p (by first | exact h_assign (v := .s _) rfl | exact h_assign (v := .agg _) rfl | exact h_assign (v := .tup _) rfl) ?_
  refine s_nil ?_
  refine n_wp ?_
  refine w_ret ?_
  exact doneM (by repeat (first | exact trivial | refine ⟨rfl, ?_⟩)) (ret_tmp Try.results9 rfl)
end Go.Proofs.X
