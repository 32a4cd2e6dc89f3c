/- A part of the proofs of this claim: LaneL1 (LaneL1). No conditions. -/
import Derived.Test.YtffflnpidipheaaLaneW3
import Derived.Test.YtffflnpidipheaaSealL1
set_option linter.unusedVariables false
set_option linter.unusedSimpArgs false
open Go Go.Ab Go.Proofs
namespace Go.Proofs.X
theorem callable_44 : Callable Try.prog 44 := ⟨_, Try.func44, by kernel_rfl, rfl⟩
set_option maxRecDepth 100000 in
set_option maxHeartbeats 2000000 in
theorem alive20 (H : Heap) : ACall Try.prog 44 H [] (.s (.bool true)) [] := by
  obtain ⟨K1, hK⟩ : ∃ L : List Int, [1, 0, 0, 0, 0, 0, 0, 0, 0, 0, 0, 0, 0, 0, 0, 0, 0, 0, 0, 0, 0, 0, 0, 0, 0, 0, 0, 0, 0, 0, 0, 0] = L := ⟨_, rfl⟩
  obtain ⟨C1, hC⟩ : ∃ L : List Int, [2, 0, 0, 0, 0, 0, 0, 0, 0, 0, 0, 0, 0, 0, 0, 0] = L := ⟨_, rfl⟩
  have hKl : K1.length = 32 := by rw [← hK]; rfl
  have hCl : C1.length = 16 := by rw [← hC]; rfl
  have hC8 : U8 C1 := by rw [← hC]; exact u8B_U8 (by decide)
  obtain ⟨X, hX⟩ : ∃ L : List Int, (sealL K1 C1 ((7 : Nat) : Int) ((0 + 1 : Nat) : Int) [97, 98] 2) = L := ⟨_, rfl⟩
  have hXl : X.length = 29 + 2 := by rw [← hX]; exact sealL_len _ _ _ _ _ _
  have hX8 : U8 X := by rw [← hX]; exact U8_seal _ _ _ _ _ _
  have hX9 : X.getD 0 0 = 9 := by rw [← hX]; exact seal_nine _ _ _ _ _ _
  have hXg : getI ((X.drop (0 + 1)).take (29 + 2 - 1)) 4 = ((7 : Nat) : Int) := by rw [← hX]; exact seal_lane _ _ 7 _ _ 2 (by omega)
  have hXn : getI ((X.drop (0 + 5)).take (29 + 2 - 5)) 8 = ((0 + 1 : Nat) : Int) := by rw [← hX]; exact seal_num _ _ _ (0 + 1) _ 2 (by omega)
  have hXm : mo (((sMac K1 X (13 + 2)).drop 0).take 16) ((X.drop (13 + 2)).take 16) 16 = 0 := by rw [← hX]; exact seal_mo _ _ _ _ _ _
  have hS : [97, 98] = ((streamN C1 (fiL X) ((X.drop (0 + 13)).take 2) 2).drop 0).take 2 := by
    have h := seal_back' K1 C1 ((7 : Nat) : Int) ((0 + 1 : Nat) : Int) [97, 98] 2 rfl (u8B_U8 (by decide))
    rw [← hX, h]; rfl
  refine acall_gen2 (args0 := []) (H0 := []) (Hf := []) (v0 := .s (.bool true)) [] [] Try.func44 rfl Try.ntmps44 (by simp) rfl
    (fun k id sh b0 h1 h2 => by simp at h1) (fun W ρ vals w hH ha k id' sh' hk => by simp at hk) rfl rfl rfl (by decide) rfl rfl rfl (fun W w ρ0 hW hdom => ?_)
  refine w_seq ?_
  refine c_reg (by kernel_rfl) rfl ?_
  refine s_p (by first | exact h_assign (v := .s _) rfl | exact h_assign (v := .agg _) rfl | exact h_assign (v := .tup _) rfl) ?_
  refine s_nil ?_
  refine n_wp ?_
  refine w_seq ?_
  refine c_reg (by kernel_rfl) rfl ?_
  refine s_p (show HOk _ _ _ _ (.agg [.ints .u8 32 K1]) [] by rw [← hK]; exact h_build_ints (n := 32) (l := [(0, 1)]) (xs := [1, 0, 0, 0, 0, 0, 0, 0, 0, 0, 0, 0, 0, 0, 0, 0, 0, 0, 0, 0, 0, 0, 0, 0, 0, 0, 0, 0, 0, 0, 0, 0]) rfl (fun w => by kernel_rfl) rfl) ?_
  refine s_p (show HOk _ _ _ _ (.agg [.ints .u8 16 C1]) [] by rw [← hC]; exact h_build_ints (n := 16) (l := [(0, 2)]) (xs := [2, 0, 0, 0, 0, 0, 0, 0, 0, 0, 0, 0, 0, 0, 0, 0]) rfl (fun w => by kernel_rfl) rfl) ?_
  refine s_p (show HOk _ _ _ _ (.agg [.ints .u8 32 K1, .ints .u8 16 C1]) [] by rw [← hK, ← hC]; exact h_build_two rfl rfl rfl rfl (fun w => by kernel_rfl)) ?_
  refine s_a (h_alloc (segs := [.ints .u8 32 (z 32), .ints .u8 16 (z 16)]) Try.zeroValue56 (by kernel_rfl) rfl) rfl ?_
  refine s_st (m_store_agg (n := 48) (segs := [.ints .u8 32 (z 32), .ints .u8 16 (z 16)]) (sub := [.ints .u8 32 K1, .ints .u8 16 C1]) (id := 0) (base := 0) (idx := 0) rfl rfl rfl (.whole (Nat.le_of_ble_eq_true rfl) rfl rfl) Try.sizeOf56 rfl) ?_
  refine s_nil ?_
  refine n_wp ?_
  refine w_seq ?_
  refine c_reg (by kernel_rfl) rfl ?_
  refine s_p (h_load_agg rfl rfl (.whole rfl) Try.isAgg56 Try.sizeOf56) ?_
  refine s_a (h_call callable_46 rfl (NewOut_c _ K1 C1 7)) rfl ?_
  refine s_p (by first | exact h_assign (v := .s _) rfl | exact h_assign (v := .agg _) rfl | exact h_assign (v := .tup _) rfl) ?_
  refine s_nil ?_
  refine n_wp ?_
  refine w_seq ?_
  refine c_reg (by kernel_rfl) rfl ?_
  refine s_p (h_load_agg rfl rfl (.whole rfl) Try.isAgg56 Try.sizeOf56) ?_
  refine s_nb (h_call callable_47 rfl (NewIn_c _ K1 C1 7)) rfl ?_
  refine s_p (by first | exact h_assign (v := .s _) rfl | exact h_assign (v := .agg _) rfl | exact h_assign (v := .tup _) rfl) ?_
  refine s_nil ?_
  refine n_wp ?_
  refine w_seq ?_
  refine c_reg (by kernel_rfl) rfl ?_
  refine s_p (by first | exact h_move (v := .s _) rfl | exact h_move (v := .agg _) rfl | exact h_move (v := .tup _) rfl) ?_
  refine s_a (h_bsli2 rfl rfl Try.underlying29 Try.sizeOf5 Try.zeroValue5 rfl rfl) rfl ?_
  refine s_m (m_conv rfl rfl Try.underlying29 Try.underlying5) ?_
  refine s_heap (H' := [some ⟨true, [.ints .u8 32 K1, .ints .u8 16 C1]⟩, some ⟨true, [.ints .u8 32 K1, .ints .u8 16 C1, .one (.int .u32 ((7 : Nat) : Int)), .one (.int .i64 1), .one (.int .i64 ((0 : Nat) : Int))]⟩, some ⟨true, [.ints .i64 1 [1], .ints .u64 64 (z 64), .one (.int .u64 ((0 : Nat) : Int)), .one (.int .u64 ((0 : Nat) : Int))]⟩, some ⟨true, [.ints .u8 32 K1, .ints .u8 16 C1, .one (.int .u32 ((7 : Nat) : Int)), .one (.int .i64 1), .one (.ptr 2 0 0)]⟩, some ⟨false, [.ints .u8 2 [97, 98]]⟩]) (by kernel_rfl) ?_
  refine s_m (m_call callable_39 rfl ((by have h := put_s [some ⟨true, [.ints .u8 32 K1, .ints .u8 16 C1]⟩, some ⟨true, [.ints .u8 32 K1, .ints .u8 16 C1, .one (.int .u32 ((7 : Nat) : Int)), .one (.int .i64 1), .one (.int .i64 ((0 : Nat) : Int))]⟩, some ⟨true, [.ints .i64 1 [1], .ints .u64 64 (z 64), .one (.int .u64 ((0 : Nat) : Int)), .one (.int .u64 ((0 : Nat) : Int))]⟩, some ⟨true, [.ints .u8 32 K1, .ints .u8 16 C1, .one (.int .u32 ((7 : Nat) : Int)), .one (.int .i64 1), .one (.ptr 2 0 0)]⟩, some ⟨false, [.ints .u8 2 [97, 98]]⟩] 1 K1 C1 7 0 rfl hKl hCl hC8 (by omega) (by omega) 4 0 2 2 [97, 98] _ rfl (Nat.le_refl _) (by omega) rfl (fun i y hy => by rw [Nat.zero_add i]; exact hy) (by omega) (by omega) (by decide); rw [hX] at h; exact h))) ?_
  refine s_heap (H' := [some ⟨true, [.ints .u8 32 K1, .ints .u8 16 C1]⟩, some ⟨true, [.ints .u8 32 K1, .ints .u8 16 C1, .one (.int .u32 ((7 : Nat) : Int)), .one (.int .i64 1), .one (.int .i64 (((0 + 1) : Nat) : Int))]⟩, some ⟨true, [.ints .i64 1 [1], .ints .u64 64 (z 64), .one (.int .u64 ((0 : Nat) : Int)), .one (.int .u64 ((0 : Nat) : Int))]⟩, some ⟨true, [.ints .u8 32 K1, .ints .u8 16 C1, .one (.int .u32 ((7 : Nat) : Int)), .one (.int .i64 1), .one (.ptr 2 0 0)]⟩, some ⟨false, [.ints .u8 2 [97, 98]]⟩, some ⟨true, [.ints .u8 (29 + 2) X]⟩]) (by kernel_rfl) ?_
  refine s_p (by first | exact h_move (v := .s _) rfl | exact h_move (v := .agg _) rfl | exact h_move (v := .tup _) rfl) ?_
  refine s_p (h_extract rfl rfl (by simp)) ?_
  refine s_p (h_extract rfl rfl (by simp)) ?_
  refine s_p (h_extract rfl rfl (by simp)) ?_
  refine s_p (by first | exact h_assign (v := .s _) rfl | exact h_assign (v := .agg _) rfl | exact h_assign (v := .tup _) rfl) ?_
  refine s_p (by first | exact h_assign (v := .s _) rfl | exact h_assign (v := .agg _) rfl | exact h_assign (v := .tup _) rfl) ?_
  refine s_p (by first | exact h_assign (v := .s _) rfl | exact h_assign (v := .agg _) rfl | exact h_assign (v := .tup _) rfl) ?_
  refine s_nil ?_
  refine n_wp ?_
  refine w_seq ?_
  refine c_reg (by kernel_rfl) rfl ?_
  refine s_p (by first | exact h_move (v := .s _) rfl | exact h_move (v := .agg _) rfl | exact h_move (v := .tup _) rfl) ?_
  refine s_p (by first | exact h_move (v := .s _) rfl | exact h_move (v := .agg _) rfl | exact h_move (v := .tup _) rfl) ?_
  refine s_m (m_call callable_40 rfl ((take_ok [some ⟨true, [.ints .u8 32 K1, .ints .u8 16 C1]⟩, some ⟨true, [.ints .u8 32 K1, .ints .u8 16 C1, .one (.int .u32 ((7 : Nat) : Int)), .one (.int .i64 1), .one (.int .i64 (((0 + 1) : Nat) : Int))]⟩, some ⟨true, [.ints .i64 1 [1], .ints .u64 64 (z 64), .one (.int .u64 ((0 : Nat) : Int)), .one (.int .u64 ((0 : Nat) : Int))]⟩, some ⟨true, [.ints .u8 32 K1, .ints .u8 16 C1, .one (.int .u32 ((7 : Nat) : Int)), .one (.int .i64 1), .one (.ptr 2 0 0)]⟩, some ⟨false, [.ints .u8 2 [97, 98]]⟩, some ⟨true, [.ints .u8 (29 + 2) X]⟩] 3 2 K1 C1 7 _ rfl rfl (z 64) 0 0 rfl 5 0 2 (29 + 2) X _ hXl (Nat.le_refl _) (by omega) rfl (fun i y hy => by rw [Nat.zero_add i]; exact hy) (0 + 1) hKl hCl hC8 hX8 (by omega) hX9 (by omega) hXg hXm hXn (by omega) (by omega) (by omega) (by omega) (z_len _) (by omega) (by decide) (by decide) (by decide) (by omega)))) ?_
  refine s_heap (H' := [some ⟨true, [.ints .u8 32 K1, .ints .u8 16 C1]⟩, some ⟨true, [.ints .u8 32 K1, .ints .u8 16 C1, .one (.int .u32 ((7 : Nat) : Int)), .one (.int .i64 1), .one (.int .i64 (((0 + 1) : Nat) : Int))]⟩, some ⟨true, [.ints .i64 1 [1], .ints .u64 64 ((z 64).set ((0 + 1) % 64) (((0 + 1 : Nat)) : Int)), .one (.int .u64 (((max 0 (0 + 1)) : Nat) : Int)), .one (.int .u64 (((0 + 1) : Nat) : Int))]⟩, some ⟨true, [.ints .u8 32 K1, .ints .u8 16 C1, .one (.int .u32 ((7 : Nat) : Int)), .one (.int .i64 1), .one (.ptr 2 0 0)]⟩, some ⟨false, [.ints .u8 2 [97, 98]]⟩, some ⟨true, [.ints .u8 (29 + 2) X]⟩, some ⟨true, [.ints .u8 2 (streamN C1 (fiL X) ((X.drop (0 + 13)).take 2) 2)]⟩]) (by kernel_rfl) ?_
  refine s_p (by first | exact h_move (v := .s _) rfl | exact h_move (v := .agg _) rfl | exact h_move (v := .tup _) rfl) ?_
  refine s_p (h_extract rfl rfl (by simp)) ?_
  refine s_p (h_extract rfl rfl (by simp)) ?_
  refine s_p (h_extract rfl rfl (by simp)) ?_
  refine s_p (by first | exact h_assign (v := .s _) rfl | exact h_assign (v := .agg _) rfl | exact h_assign (v := .tup _) rfl) ?_
  refine s_p (by first | exact h_assign (v := .s _) rfl | exact h_assign (v := .agg _) rfl | exact h_assign (v := .tup _) rfl) ?_
  refine s_p (by first | exact h_assign (v := .s _) rfl | exact h_assign (v := .agg _) rfl | exact h_assign (v := .tup _) rfl) ?_
  refine s_nil ?_
  refine n_wp ?_
  refine w_seq ?_
  refine c_reg (by kernel_rfl) rfl ?_
  refine s_p (by first | exact h_move (v := .s _) rfl | exact h_move (v := .agg _) rfl | exact h_move (v := .tup _) rfl) ?_
  refine s_p (by first | exact h_move (v := .s _) rfl | exact h_move (v := .agg _) rfl | exact h_move (v := .tup _) rfl) ?_
  refine s_p (h_call callable_40 rfl ((take_there _ 3 2 K1 C1 7 _ rfl rfl ((z 64).set ((0 + 1) % 64) (((0 + 1 : Nat)) : Int)) (max 0 (0 + 1)) (0 + 1) _ rfl rfl 5 0 2 (29 + 2) X _ hXl (Nat.le_refl _) (by omega) rfl (fun i y hy => by rw [Nat.zero_add i]; exact hy) (0 + 1) hKl hCl hC8 hX8 (by omega) hX9 (by omega) hXg hXm hXn (by omega) (by omega) (by omega) (by omega) (by decide) (by omega)))) ?_
  refine s_p (by first | exact h_move (v := .s _) rfl | exact h_move (v := .agg _) rfl | exact h_move (v := .tup _) rfl) ?_
  refine s_p (h_extract rfl rfl (by simp)) ?_
  refine s_p (h_extract rfl rfl (by simp)) ?_
  refine s_p (h_extract rfl rfl (by simp)) ?_
  refine s_p (by first | exact h_assign (v := .s _) rfl | exact h_assign (v := .agg _) rfl | exact h_assign (v := .tup _) rfl) ?_
  refine s_p (by first | exact h_assign (v := .s _) rfl | exact h_assign (v := .agg _) rfl | exact h_assign (v := .tup _) rfl) ?_
  refine s_p (by first | exact h_assign (v := .s _) rfl | exact h_assign (v := .agg _) rfl | exact h_assign (v := .tup _) rfl) ?_
  refine s_nil ?_
  refine n_wp ?_
  refine w_seq ?_
  refine c_reg (by kernel_rfl) rfl ?_
  refine s_p (h_load_agg rfl rfl (.whole rfl) Try.isAgg56 Try.sizeOf56) ?_
  refine s_nb (h_call callable_47 rfl (NewIn_c _ K1 C1 8)) rfl ?_
  refine s_heap (H' := [some ⟨true, [.ints .u8 32 K1, .ints .u8 16 C1]⟩, some ⟨true, [.ints .u8 32 K1, .ints .u8 16 C1, .one (.int .u32 ((7 : Nat) : Int)), .one (.int .i64 1), .one (.int .i64 (((0 + 1) : Nat) : Int))]⟩, some ⟨true, [.ints .i64 1 [1], .ints .u64 64 ((z 64).set ((0 + 1) % 64) (((0 + 1 : Nat)) : Int)), .one (.int .u64 (((max 0 (0 + 1)) : Nat) : Int)), .one (.int .u64 (((0 + 1) : Nat) : Int))]⟩, some ⟨true, [.ints .u8 32 K1, .ints .u8 16 C1, .one (.int .u32 ((7 : Nat) : Int)), .one (.int .i64 1), .one (.ptr 2 0 0)]⟩, some ⟨false, [.ints .u8 2 [97, 98]]⟩, some ⟨true, [.ints .u8 (29 + 2) X]⟩, some ⟨true, [.ints .u8 2 (streamN C1 (fiL X) ((X.drop (0 + 13)).take 2) 2)]⟩, some ⟨true, [.ints .i64 1 [1], .ints .u64 64 (z 64), .one (.int .u64 ((0 : Nat) : Int)), .one (.int .u64 ((0 : Nat) : Int))]⟩, some ⟨true, [.ints .u8 32 K1, .ints .u8 16 C1, .one (.int .u32 ((8 : Nat) : Int)), .one (.int .i64 1), .one (.ptr 7 0 0)]⟩]) (by kernel_rfl) ?_
  refine s_p (by first | exact h_move (v := .s _) rfl | exact h_move (v := .agg _) rfl | exact h_move (v := .tup _) rfl) ?_
  refine s_p (h_call callable_40 rfl ((take_none _ 8 7 K1 C1 8 _ rfl rfl (z 64) 0 0 _ rfl rfl 5 0 2 (29 + 2) X _ hXl (Nat.le_refl _) (by omega) rfl (fun i y hy => by rw [Nat.zero_add i]; exact hy) 7 (by omega) hX9 (by omega) hXg (by omega)))) ?_
  refine s_p (by first | exact h_move (v := .s _) rfl | exact h_move (v := .agg _) rfl | exact h_move (v := .tup _) rfl) ?_
  refine s_p (h_extract rfl rfl (by simp)) ?_
  refine s_p (h_extract rfl rfl (by simp)) ?_
  refine s_p (h_extract rfl rfl (by simp)) ?_
  refine s_p (by first | exact h_assign (v := .s _) rfl | exact h_assign (v := .agg _) rfl | exact h_assign (v := .tup _) rfl) ?_
  refine s_p (by first | exact h_assign (v := .s _) rfl | exact h_assign (v := .agg _) rfl | exact h_assign (v := .tup _) rfl) ?_
  refine s_p (by first | exact h_assign (v := .s _) rfl | exact h_assign (v := .agg _) rfl | exact h_assign (v := .tup _) rfl) ?_
  refine s_nil ?_
  refine n_wp ?_
  refine w_seq ?_
  refine c_reg (by kernel_rfl) rfl ?_
  refine s_p (by first | exact h_move (v := .s _) rfl | exact h_move (v := .agg _) rfl | exact h_move (v := .tup _) rfl) ?_
  refine s_p (h_bin rfl rfl (b_eql (decide_eq_true rfl))) ?_
  refine s_p (by first | exact h_move (v := .s _) rfl | exact h_move (v := .agg _) rfl | exact h_move (v := .tup _) rfl) ?_
  first | refine s_on rfl rfl (by first | rfl | assumption) (by first | exact h_move (v := .s _) rfl | exact h_move (v := .agg _) rfl | exact h_move (v := .tup _) rfl) ?_ | refine s_off rfl rfl (by first | rfl | assumption) ?_
  first | refine s_on rfl rfl (by first | rfl | assumption) (h_bin rfl rfl (b_eql (decide_eq_true rfl))) ?_ | refine s_off rfl rfl (by first | rfl | assumption) ?_
  refine s_p (by first | exact h_pick_t rfl (by first | rfl | assumption) rfl | exact h_pick_f rfl (by first | rfl | assumption) rfl) ?_
  refine s_p (by first | exact h_move (v := .s _) rfl | exact h_move (v := .agg _) rfl | exact h_move (v := .tup _) rfl) ?_
  first | refine s_on rfl rfl (by first | rfl | assumption) (by first | exact h_move (v := .s _) rfl | exact h_move (v := .agg _) rfl | exact h_move (v := .tup _) rfl) ?_ | refine s_off rfl rfl (by first | rfl | assumption) ?_
  first | refine s_on rfl rfl (by first | rfl | assumption) (h_bin rfl rfl (b_eql (decide_eq_true rfl))) ?_ | refine s_off rfl rfl (by first | rfl | assumption) ?_
  refine s_p (by first | exact h_pick_t rfl (by first | rfl | assumption) rfl | exact h_pick_f rfl (by first | rfl | assumption) rfl) ?_
  refine s_p (by first | exact h_move (v := .s _) rfl | exact h_move (v := .agg _) rfl | exact h_move (v := .tup _) rfl) ?_
  first | refine s_on rfl rfl (by first | rfl | assumption) (by first | exact h_move (v := .s _) rfl | exact h_move (v := .agg _) rfl | exact h_move (v := .tup _) rfl) ?_ | refine s_off rfl rfl (by first | rfl | assumption) ?_
  first | refine s_on rfl rfl (by first | rfl | assumption) (h_bin rfl rfl (b_eql (decide_eq_true rfl))) ?_ | refine s_off rfl rfl (by first | rfl | assumption) ?_
  refine s_p (by first | exact h_pick_t rfl (by first | rfl | assumption) rfl | exact h_pick_f rfl (by first | rfl | assumption) rfl) ?_
  refine s_p (by first | exact h_move (v := .s _) rfl | exact h_move (v := .agg _) rfl | exact h_move (v := .tup _) rfl) ?_
  first | refine s_on rfl rfl (by first | rfl | assumption) (by first | exact h_move (v := .s _) rfl | exact h_move (v := .agg _) rfl | exact h_move (v := .tup _) rfl) ?_ | refine s_off rfl rfl (by first | rfl | assumption) ?_
  first | refine s_on rfl rfl (by first | rfl | assumption) (h_str (A := [97, 98]) rfl rfl rfl (by omega) hS rfl Try.underlying29 Try.underlying5 Try.underlying9) ?_ | refine s_off rfl rfl (by first | rfl | assumption) ?_
  first | refine s_on rfl rfl (by first | rfl | assumption) (h_seqs rfl rfl (by kernel_rfl)) ?_ | refine s_off rfl rfl (by first | rfl | assumption) ?_
  refine s_p (by first | exact h_pick_t rfl (by first | rfl | assumption) rfl | exact h_pick_f rfl (by first | rfl | assumption) rfl) ?_
  refine s_p (by first | exact h_move (v := .s _) rfl | exact h_move (v := .agg _) rfl | exact h_move (v := .tup _) rfl) ?_
  first | refine s_on rfl rfl (by first | rfl | assumption) (by first | exact h_move (v := .s _) rfl | exact h_move (v := .agg _) rfl | exact h_move (v := .tup _) rfl) ?_ | refine s_off rfl rfl (by first | rfl | assumption) ?_
  first | refine s_on rfl rfl (by first | rfl | assumption) (h_bin rfl rfl (b_eql (decide_eq_true rfl))) ?_ | refine s_off rfl rfl (by first | rfl | assumption) ?_
  refine s_p (by first | exact h_pick_t rfl (by first | rfl | assumption) rfl | exact h_pick_f rfl (by first | rfl | assumption) rfl) ?_
  refine s_p (by first | exact h_move (v := .s _) rfl | exact h_move (v := .agg _) rfl | exact h_move (v := .tup _) rfl) ?_
  first | refine s_on rfl rfl (by first | rfl | assumption) (by first | exact h_move (v := .s _) rfl | exact h_move (v := .agg _) rfl | exact h_move (v := .tup _) rfl) ?_ | refine s_off rfl rfl (by first | rfl | assumption) ?_
  first | refine s_on rfl rfl (by first | rfl | assumption) (h_bin rfl rfl (b_eql (decide_eq_true rfl))) ?_ | refine s_off rfl rfl (by first | rfl | assumption) ?_
  refine s_p (by first | exact h_pick_t rfl (by first | rfl | assumption) rfl | exact h_pick_f rfl (by first | rfl | assumption) rfl) ?_
  refine s_p (by first | exact h_move (v := .s _) rfl | exact h_move (v := .agg _) rfl | exact h_move (v := .tup _) rfl) ?_
  first | refine s_on rfl rfl (by first | rfl | assumption) (by first | exact h_move (v := .s _) rfl | exact h_move (v := .agg _) rfl | exact h_move (v := .tup _) rfl) ?_ | refine s_off rfl rfl (by first | rfl | assumption) ?_
  first | refine s_on rfl rfl (by first | rfl | assumption) (h_call callable_41 rfl (Used_c _ 1 K1 C1 7 (0 + 1) _ rfl rfl)) ?_ | refine s_off rfl rfl (by first | rfl | assumption) ?_
  first | refine s_on rfl rfl (by first | rfl | assumption) (h_bin rfl rfl (b_eql (decide_eq_true rfl))) ?_ | refine s_off rfl rfl (by first | rfl | assumption) ?_
  refine s_p (by first | exact h_pick_t rfl (by first | rfl | assumption) rfl | exact h_pick_f rfl (by first | rfl | assumption) rfl) ?_
  refine s_p (by first | exact h_move (v := .s _) rfl | exact h_move (v := .agg _) rfl | exact h_move (v := .tup _) rfl) ?_
  first | refine s_on rfl rfl (by first | rfl | assumption) (by first | exact h_move (v := .s _) rfl | exact h_move (v := .agg _) rfl | exact h_move (v := .tup _) rfl) ?_ | refine s_off rfl rfl (by first | rfl | assumption) ?_
  first | refine s_on rfl rfl (by first | rfl | assumption) (h_call callable_42 rfl (Came_c _ 3 2 K1 C1 7 _ rfl rfl _ _ (0 + 1) _ rfl rfl)) ?_ | refine s_off rfl rfl (by first | rfl | assumption) ?_
  first | refine s_on rfl rfl (by first | rfl | assumption) (h_bin rfl rfl (b_eql (decide_eq_true rfl))) ?_ | refine s_off rfl rfl (by first | rfl | assumption) ?_
  refine s_p (by first | exact h_pick_t rfl (by first | rfl | assumption) rfl | exact h_pick_f rfl (by first | rfl | assumption) rfl) ?_
  refine s_p (by first | exact h_move (v := .s _) rfl | exact h_move (v := .agg _) rfl | exact h_move (v := .tup _) rfl) ?_
  first | refine s_on rfl rfl (by first | rfl | assumption) (by first | exact h_move (v := .s _) rfl | exact h_move (v := .agg _) rfl | exact h_move (v := .tup _) rfl) ?_ | refine s_off rfl rfl (by first | rfl | assumption) ?_
  first | refine s_on rfl rfl (by first | rfl | assumption) (h_call callable_43 rfl (InLane_c _ 3 2 K1 C1 7 _ rfl rfl (by simp))) ?_ | refine s_off rfl rfl (by first | rfl | assumption) ?_
  first | refine s_on rfl rfl (by first | rfl | assumption) (h_bin rfl rfl (b_eql (decide_eq_true rfl))) ?_ | refine s_off rfl rfl (by first | rfl | assumption) ?_
  refine s_p (by first | exact h_pick_t rfl (by first | rfl | assumption) rfl | exact h_pick_f rfl (by first | rfl | assumption) rfl) ?_
  refine s_p (by first | exact h_assign (v := .s _) rfl | exact h_assign (v := .agg _) rfl | exact h_assign (v := .tup _) rfl) ?_
  refine s_nil ?_
  refine n_wp ?_
  refine w_ret ?_
  exact doneM (by repeat (first | exact trivial | refine ⟨rfl, ?_⟩)) (ret_tmp Try.results44 rfl)
end Go.Proofs.X
