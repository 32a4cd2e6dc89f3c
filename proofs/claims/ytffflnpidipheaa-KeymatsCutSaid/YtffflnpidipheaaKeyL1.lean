/- A part of the proofs of this claim: KeyL1. No conditions. -/
import Derived.Test.YtffflnpidipheaaKeyW2
import Derived.Test.YtffflnpidipheaaKeyPure
import Derived.Test.YtffflnpidipheaaSameW
open Go Go.Ab Go.Proofs
namespace Go.Proofs.X
theorem callable_30 : Callable Try.prog 30 := ⟨_, Try.func30, by kernel_rfl, rfl⟩
theorem build0_44 (w : World) : (Instr.build 44 #[]).run Try.prog w = .ok (.agg (Array.replicate 32 (Value.int .u8 0))) w := by kernel_rfl
theorem build0_42 (w : World) : (Instr.build 42 #[]).run Try.prog w = .ok (.agg (Array.replicate 4 (Value.int .u64 0))) w := by kernel_rfl
set_option maxRecDepth 100000 in
set_option maxHeartbeats 2000000 in
theorem lives10 (H : Heap) : ACall Try.prog 30 H [] (.s (.bool true)) [] := by
  obtain ⟨L, hL⟩ : ∃ L : List Int, [5, 0, 0, 0] = L := ⟨_, rfl⟩
  obtain ⟨Z, hZ⟩ : ∃ Z : List Int, z 32 = Z := ⟨_, rfl⟩
  have hLl : L.length = 4 := by rw [← hL]; rfl
  have hZl : Z.length = 32 := by rw [← hZ]; exact z_len _
  have hHM : kl (kmK Z L) (0 + 1) = (((hmO (kmK Z L) (tk (hmI (kmK Z L)) [108, 97, 110, 101, 1]) (64 + 5))).drop 0).take 32 := by
    rw [kl_one, List.drop_zero, List.take_of_length_le (Nat.le_of_eq (hmO_len _ _ _)), ← tk_append]
    rfl
  refine acall_gen2 (args0 := []) (H0 := []) (Hf := []) (v0 := .s (.bool true)) [] [] Try.func30 rfl Try.ntmps30 (by simp) rfl
    (fun k id sh b0 h1 h2 => by simp at h1) (fun W ρ vals w hH ha k id' sh' hk => by simp at hk) rfl rfl rfl (by decide) rfl rfl rfl (fun W w ρ0 hW hdom => ?_)
  refine w_seq ?_
  refine c_reg (by kernel_rfl) rfl ?_
  refine s_p (by first | exact h_assign (v := .s _) rfl | exact h_assign (v := .agg _) rfl | exact h_assign (v := .tup _) rfl) ?_
  refine s_nil ?_
  refine n_wp ?_
  refine w_seq ?_
  refine c_reg (by kernel_rfl) rfl ?_
  refine s_p (show HOk _ _ _ _ (.agg [.ints .u64 4 L]) [] by rw [← hL]; exact h_build_ints (n := 4) (l := [(0, 5)]) (xs := [5, 0, 0, 0]) rfl (fun w => by kernel_rfl) rfl) ?_
  refine s_p (show HOk _ _ _ _ (.agg [.ints .u8 32 Z]) [] by rw [← hZ]; exact h_build0 (segs := [.ints .u8 32 (z 32)]) build0_44 (by kernel_rfl)) ?_
  refine s_a (h_call callable_29 rfl (kOf_c _ L Z 32 hLl hZl (by omega))) rfl ?_
  refine s_p (by first | exact h_move (v := .s _) rfl | exact h_move (v := .agg _) rfl | exact h_move (v := .tup _) rfl) ?_
  refine s_p (h_extract rfl rfl (by simp)) ?_
  refine s_p (h_extract rfl rfl (by simp)) ?_
  refine s_p (by first | exact h_assign (v := .s _) rfl | exact h_assign (v := .agg _) rfl | exact h_assign (v := .tup _) rfl) ?_
  refine s_p (by first | exact h_assign (v := .s _) rfl | exact h_assign (v := .agg _) rfl | exact h_assign (v := .tup _) rfl) ?_
  refine s_nil ?_
  refine n_wp ?_
  refine w_seq ?_
  refine c_reg (by kernel_rfl) rfl ?_
  refine s_p (h_build0 (segs := [.ints .u64 4 (z 4)]) build0_42 (by kernel_rfl)) ?_
  refine s_p (show HOk _ _ _ _ (.agg [.ints .u8 32 Z]) [] by rw [← hZ]; exact h_build0 (segs := [.ints .u8 32 (z 32)]) build0_44 (by kernel_rfl)) ?_
  refine s_p (h_call callable_29 rfl (kOf_big _ (z 4) Z 8161 (by omega))) ?_
  refine s_p (by first | exact h_move (v := .s _) rfl | exact h_move (v := .agg _) rfl | exact h_move (v := .tup _) rfl) ?_
  refine s_p (h_extract rfl rfl (by simp)) ?_
  refine s_p (h_extract rfl rfl (by simp)) ?_
  refine s_p (by first | exact h_assign (v := .s _) rfl | exact h_assign (v := .agg _) rfl | exact h_assign (v := .tup _) rfl) ?_
  refine s_p (by first | exact h_assign (v := .s _) rfl | exact h_assign (v := .agg _) rfl | exact h_assign (v := .tup _) rfl) ?_
  refine s_nil ?_
  refine n_wp ?_
  refine w_seq ?_
  refine c_reg (by kernel_rfl) rfl ?_
  refine s_a (h_make (l := 48) (c := 48) rfl rfl (Nat.le_refl _) (by rw [show Try.t5.bytes = 1 from rfl]; omega) (by omega) Try.underlying29 infoB5 rfl rfl rfl) rfl ?_
  refine s_p (h_call callable_33 rfl (Cut_no _ 1 0 48 48 1 (List.replicate 48 0) _ List.length_replicate (Nat.le_refl _) (by omega) rfl (fun i y hy => by rw [Nat.zero_add i]; exact hy) (by omega))) ?_
  refine s_p (by first | exact h_move (v := .s _) rfl | exact h_move (v := .agg _) rfl | exact h_move (v := .tup _) rfl) ?_
  refine s_p (h_extract rfl rfl (by simp)) ?_
  refine s_p (h_extract rfl rfl (by simp)) ?_
  refine s_a (h_alloc (segs := [.ints .u8 32 (z 32), .ints .u8 16 (z 16)]) Try.zeroValue56 (by kernel_rfl) rfl) rfl ?_
  refine s_st (m_store_agg (n := 48) (segs := [.ints .u8 32 (z 32), .ints .u8 16 (z 16)]) (sub := [.ints .u8 32 (z 32), .ints .u8 16 (z 16)]) (id := 2) (base := 0) (idx := 0) rfl rfl rfl (.whole (Nat.le_of_ble_eq_true rfl) rfl rfl) Try.sizeOf56 rfl) ?_
  refine s_p (by first | exact h_assign (v := .s _) rfl | exact h_assign (v := .agg _) rfl | exact h_assign (v := .tup _) rfl) ?_
  refine s_nil ?_
  refine n_wp ?_
  refine w_seq ?_
  refine c_reg (by kernel_rfl) rfl ?_
  refine s_a (h_make (l := 48) (c := 48) rfl rfl (Nat.le_refl _) (by rw [show Try.t5.bytes = 1 from rfl]; omega) (by omega) Try.underlying29 infoB5 rfl rfl rfl) rfl ?_
  refine s_p (h_call callable_33 rfl (Cut_ok _ 3 0 48 48 0 (List.replicate 48 0) _ List.length_replicate (Nat.le_refl _) (by omega) rfl (fun i y hy => by rw [Nat.zero_add i]; exact hy) (by omega))) ?_
  refine s_p (by first | exact h_move (v := .s _) rfl | exact h_move (v := .agg _) rfl | exact h_move (v := .tup _) rfl) ?_
  refine s_p (h_extract rfl rfl (by simp)) ?_
  refine s_p (h_extract rfl rfl (by simp)) ?_
  refine s_a (h_alloc (segs := [.ints .u8 32 (z 32), .ints .u8 16 (z 16)]) Try.zeroValue56 (by kernel_rfl) rfl) rfl ?_
  refine s_st (m_store_agg (n := 48) (segs := [.ints .u8 32 (z 32), .ints .u8 16 (z 16)]) (sub := [.ints .u8 32 (cutM (List.replicate 48 0) 0), .ints .u8 16 (cutC (List.replicate 48 0) 0)]) (id := 4) (base := 0) (idx := 0) rfl rfl rfl (.whole (Nat.le_of_ble_eq_true rfl) rfl rfl) Try.sizeOf56 rfl) ?_
  refine s_p (by first | exact h_assign (v := .s _) rfl | exact h_assign (v := .agg _) rfl | exact h_assign (v := .tup _) rfl) ?_
  refine s_nil ?_
  refine n_wp ?_
  refine w_seq ?_
  refine c_reg (by kernel_rfl) rfl ?_
  refine s_p (show HOk _ _ _ _ (.agg [.ints .u8 32 Z]) [] by rw [← hZ]; exact h_build0 (segs := [.ints .u8 32 (z 32)]) build0_44 (by kernel_rfl)) ?_
  refine s_a (h_alloc (segs := [.ints .u8 32 (z 32)]) Try.zeroValue44 (by kernel_rfl) rfl) rfl ?_
  refine s_st (m_store_agg (n := 32) (segs := [.ints .u8 32 (z 32)]) (sub := [.ints .u8 32 Z]) (id := 5) (base := 0) (idx := 0) rfl rfl rfl (.whole (Nat.le_of_ble_eq_true rfl) rfl rfl) Try.sizeOf44 rfl) ?_
  refine s_nil ?_
  refine n_wp ?_
  refine w_seq ?_
  refine c_any 6 mix (by kernel_rfl) (by kernel_rfl) rfl rfl rfl ?_
  refine t_p (h_asl_0 rfl Try.underlying44 Try.sizeOf5 (by omega)) ?_
  refine t_p (show HOk _ _ _ _ (.agg [.ints .u64 4 L]) [] by rw [← hL]; exact h_build_ints (n := 4) (l := [(0, 5)]) (xs := [5, 0, 0, 0]) rfl (fun w => by kernel_rfl) rfl) ?_
  refine t_a (h_call callable_32 rfl (PutLong_n _ L hLl)) rfl ?_
  refine t_a (h_bsls1 rfl (by simp) Try.underlying92 Try.sizeOf29 Try.zeroValue29 rfl rfl) rfl ?_
  refine t_p (h_call callable_31 rfl (mac1 _ 5 0 32 7 Z _ _ (PL L) 32 32 hZl (Nat.le_refl _) rfl (fun i y hy => by rw [Nat.zero_add i]; exact hy) rfl 6 0 _ (PL_len L) (Nat.le_refl _) (by omega) rfl (fun i y hy => by rw [Nat.zero_add i]; exact hy) rfl)) ?_
  refine t_a (h_alloc (segs := [.ints .u8 32 (z 32)]) Try.zeroValue44 (by kernel_rfl) rfl) rfl ?_
  refine t_nil ?_
  refine s_st (m_store_agg (n := 32) (segs := [.ints .u8 32 (z 32)]) (sub := [.ints .u8 32 (kmK Z L)]) (id := 8) (base := 0) (idx := 0) rfl rfl rfl (.whole (Nat.le_of_ble_eq_true rfl) rfl rfl) Try.sizeOf44 rfl) ?_
  refine s_heap (H' := [some ⟨true, [.ints .u8 (32 + 32) (kmOf Z L 32)]⟩, some ⟨true, [.ints .u8 48 (List.replicate 48 0)]⟩, some ⟨true, [.ints .u8 32 (z 32), .ints .u8 16 (z 16)]⟩, some ⟨true, [.ints .u8 48 (List.replicate 48 0)]⟩, some ⟨true, [.ints .u8 32 (cutM (List.replicate 48 0) 0), .ints .u8 16 (cutC (List.replicate 48 0) 0)]⟩, some ⟨true, [.ints .u8 32 Z]⟩, some ⟨true, [.ints .u8 32 (PL L)]⟩, some ⟨true, [.one (.slice 6 0 0 32 32)]⟩, some ⟨true, [.ints .u8 32 (kmK Z L)]⟩]) (by kernel_rfl) ?_
  refine s_nil ?_
  refine n_wp ?_
  refine w_seq ?_
  refine c_reg (by kernel_rfl) rfl ?_
  refine s_p (h_asl_0 rfl Try.underlying44 Try.sizeOf5 (by omega)) ?_
  refine s_a (h_bsli5 rfl rfl rfl rfl rfl Try.underlying29 Try.sizeOf5 Try.zeroValue5 rfl rfl) rfl ?_
  refine s_m (m_conv rfl rfl Try.underlying29 Try.underlying5) ?_
  refine s_a (h_bsls1 rfl (by simp) Try.underlying92 Try.sizeOf29 Try.zeroValue29 rfl rfl) rfl ?_
  refine s_p (h_call callable_31 rfl (mac1 _ 8 0 32 10 (kmK Z L) _ _ [108, 97, 110, 101, 1] 5 5 (kmK_len _ _) (Nat.le_refl _) rfl (fun i y hy => by rw [Nat.zero_add i]; exact hy) rfl 9 0 _ rfl (Nat.le_refl _) (by omega) rfl (fun i y hy => by rw [Nat.zero_add i]; exact hy) rfl)) ?_
  refine s_a (h_alloc (segs := [.ints .u8 32 (z 32)]) Try.zeroValue44 (by kernel_rfl) rfl) rfl ?_
  refine s_st (m_store_agg (n := 32) (segs := [.ints .u8 32 (z 32)]) (sub := [.ints .u8 32 (hmO (kmK Z L) (tk (hmI (kmK Z L)) [108, 97, 110, 101, 1]) (64 + 5))]) (id := 11) (base := 0) (idx := 0) rfl rfl rfl (.whole (Nat.le_of_ble_eq_true rfl) rfl rfl) Try.sizeOf44 rfl) ?_
  refine s_heap (H' := [some ⟨true, [.ints .u8 (32 + 32) (kmOf Z L 32)]⟩, some ⟨true, [.ints .u8 48 (List.replicate 48 0)]⟩, some ⟨true, [.ints .u8 32 (z 32), .ints .u8 16 (z 16)]⟩, some ⟨true, [.ints .u8 48 (List.replicate 48 0)]⟩, some ⟨true, [.ints .u8 32 (cutM (List.replicate 48 0) 0), .ints .u8 16 (cutC (List.replicate 48 0) 0)]⟩, some ⟨true, [.ints .u8 32 Z]⟩, some ⟨true, [.ints .u8 32 (PL L)]⟩, some ⟨true, [.one (.slice 6 0 0 32 32)]⟩, some ⟨true, [.ints .u8 32 (kmK Z L)]⟩, some ⟨false, [.ints .u8 5 [108, 97, 110, 101, 1]]⟩, some ⟨true, [.one (.slice 9 0 0 5 5)]⟩, some ⟨true, [.ints .u8 32 (hmO (kmK Z L) (tk (hmI (kmK Z L)) [108, 97, 110, 101, 1]) (64 + 5))]⟩]) (by kernel_rfl) ?_
  refine s_nil ?_
  refine n_wp ?_
  refine w_seq ?_
  refine c_reg (by kernel_rfl) rfl ?_
  refine s_p (by first | exact h_move (v := .s _) rfl | exact h_move (v := .agg _) rfl | exact h_move (v := .tup _) rfl) ?_
  refine s_p (h_bin rfl rfl (b_eql rfl)) ?_
  refine s_p (by first | exact h_move (v := .s _) rfl | exact h_move (v := .agg _) rfl | exact h_move (v := .tup _) rfl) ?_
  first | refine s_on rfl rfl (by first | rfl | assumption) (by first | exact h_move (v := .s _) rfl | exact h_move (v := .agg _) rfl | exact h_move (v := .tup _) rfl) ?_ | refine s_off rfl rfl (by first | rfl | assumption) ?_
  first | refine s_on rfl rfl (by first | rfl | assumption) (h_asl_0 rfl Try.underlying44 Try.sizeOf5 (by omega)) ?_ | refine s_off rfl rfl (by first | rfl | assumption) ?_
  first | refine s_on rfl rfl (by first | rfl | assumption) (h_call callable_27 rfl (same_ss (kl (kmK Z L) (0 + 1)) 32 _ _ (by omega) _ 0 0 0 (32 + 32) _ (kmOf Z L 32) rfl rfl (by omega) (kmOf_block Z L 32 0 (by omega)).symm 11 0 0 32 _ (hmO (kmK Z L) (tk (hmI (kmK Z L)) [108, 97, 110, 101, 1]) (64 + 5)) rfl rfl (by omega) hHM)) ?_ | refine s_off rfl rfl (by first | rfl | assumption) ?_
  refine s_p (by first | exact h_pick_t rfl (by first | rfl | assumption) rfl | exact h_pick_f rfl (by first | rfl | assumption) rfl) ?_
  refine s_p (by first | exact h_move (v := .s _) rfl | exact h_move (v := .agg _) rfl | exact h_move (v := .tup _) rfl) ?_
  first | refine s_on rfl rfl (by first | rfl | assumption) (by first | exact h_move (v := .s _) rfl | exact h_move (v := .agg _) rfl | exact h_move (v := .tup _) rfl) ?_ | refine s_off rfl rfl (by first | rfl | assumption) ?_
  first | refine s_on rfl rfl (by first | rfl | assumption) (h_bin rfl rfl (b_eql rfl)) ?_ | refine s_off rfl rfl (by first | rfl | assumption) ?_
  refine s_p (by first | exact h_pick_t rfl (by first | rfl | assumption) rfl | exact h_pick_f rfl (by first | rfl | assumption) rfl) ?_
  refine s_p (by first | exact h_move (v := .s _) rfl | exact h_move (v := .agg _) rfl | exact h_move (v := .tup _) rfl) ?_
  first | refine s_on rfl rfl (by first | rfl | assumption) (by first | exact h_move (v := .s _) rfl | exact h_move (v := .agg _) rfl | exact h_move (v := .tup _) rfl) ?_ | refine s_off rfl rfl (by first | rfl | assumption) ?_
  first | refine s_on rfl rfl (by first | rfl | assumption) (h_bin rfl rfl (b_eql rfl)) ?_ | refine s_off rfl rfl (by first | rfl | assumption) ?_
  refine s_p (by first | exact h_pick_t rfl (by first | rfl | assumption) rfl | exact h_pick_f rfl (by first | rfl | assumption) rfl) ?_
  refine s_p (by first | exact h_move (v := .s _) rfl | exact h_move (v := .agg _) rfl | exact h_move (v := .tup _) rfl) ?_
  first | refine s_on rfl rfl (by first | rfl | assumption) (by first | exact h_move (v := .s _) rfl | exact h_move (v := .agg _) rfl | exact h_move (v := .tup _) rfl) ?_ | refine s_off rfl rfl (by first | rfl | assumption) ?_
  first | refine s_on rfl rfl (by first | rfl | assumption) (h_bin rfl rfl (b_eql rfl)) ?_ | refine s_off rfl rfl (by first | rfl | assumption) ?_
  refine s_p (by first | exact h_pick_t rfl (by first | rfl | assumption) rfl | exact h_pick_f rfl (by first | rfl | assumption) rfl) ?_
  refine s_p (by first | exact h_assign (v := .s _) rfl | exact h_assign (v := .agg _) rfl | exact h_assign (v := .tup _) rfl) ?_
  refine s_nil ?_
  refine n_wp ?_
  refine w_ret ?_
  exact doneM (by repeat (first | exact trivial | refine ⟨rfl, ?_⟩)) (ret_tmp Try.results30 rfl)
end Go.Proofs.X
