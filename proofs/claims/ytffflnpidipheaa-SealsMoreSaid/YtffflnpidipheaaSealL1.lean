/- A part of the proofs of this claim: SealL1 (SealL1). No conditions. -/
import Derived.Test.YtffflnpidipheaaSealW3
import Derived.Test.YtffflnpidipheaaSealA
set_option linter.unusedVariables false
set_option linter.unusedSimpArgs false
open Go Go.Ab Go.Proofs
namespace Go.Proofs.X
theorem callable_36 : Callable Try.prog 36 := ⟨_, Try.func36, by kernel_rfl, rfl⟩
set_option maxRecDepth 100000 in
set_option maxHeartbeats 2000000 in
theorem alive19 (H : Heap) : ACall Try.prog 36 H [] (.s (.bool true)) [] := by
  obtain ⟨K1, hK⟩ : ∃ L : List Int, [1, 0, 0, 0, 0, 0, 0, 0, 0, 0, 0, 0, 0, 0, 0, 0, 0, 0, 0, 0, 0, 0, 0, 0, 0, 0, 0, 0, 0, 0, 0, 0] = L := ⟨_, rfl⟩
  obtain ⟨C1, hC⟩ : ∃ L : List Int, [2, 0, 0, 0, 0, 0, 0, 0, 0, 0, 0, 0, 0, 0, 0, 0] = L := ⟨_, rfl⟩
  have hKl : K1.length = 32 := by rw [← hK]; rfl
  have hCl : C1.length = 16 := by rw [← hC]; rfl
  have hC8 : U8 C1 := by rw [← hC]; exact u8B_U8 (by decide)
  obtain ⟨X, hX⟩ : ∃ L : List Int, (sealL K1 C1 ((7 : Nat) : Int) ((1 : Nat) : Int) [97, 98, 99] 3) = L := ⟨_, rfl⟩
  have hXl : X.length = 32 := by rw [← hX]; exact sealL_len _ _ _ _ _ _
  have hX8 : U8 X := by rw [← hX]; exact U8_seal _ _ _ _ _ _
  have hX9 : X.getD 0 0 = 9 := by rw [← hX]; exact seal_nine _ _ _ _ _ _
  have hXg : getI ((X.drop (0 + 1)).take (32 - 1)) 4 = ((7 : Nat) : Int) := by rw [← hX]; exact seal_lane _ _ 7 _ _ 3 (by omega)
  have hXn : getI ((X.drop (0 + 5)).take (32 - 5)) 8 = ((1 : Nat) : Int) := by rw [← hX]; exact seal_num _ _ _ 1 _ 3 (by omega)
  have hXm : mo (((sMac K1 X (13 + 3)).drop 0).take 16) ((X.drop (13 + 3)).take 16) 16 = 0 := by rw [← hX]; exact seal_mo _ _ _ _ _ _
  have hS : [97, 98, 99] = ((streamN C1 (fiL X) ((X.drop (0 + 13)).take 3) 3).drop 0).take 3 := by
    have h := seal_back' K1 C1 ((7 : Nat) : Int) ((1 : Nat) : Int) [97, 98, 99] 3 rfl (u8B_U8 (by decide))
    rw [← hX, h]; rfl
  refine acall_gen2 (args0 := []) (H0 := []) (Hf := []) (v0 := .s (.bool true)) [] [] Try.func36 rfl Try.ntmps36 (by simp) rfl
    (fun k id sh b0 h1 h2 => by simp at h1) (fun W ρ vals w hH ha k id' sh' hk => by simp at hk) rfl rfl rfl (by decide) rfl rfl rfl (fun W w ρ0 hW hdom => ?_)
  refine w_seq ?_
  refine c_reg (by kernel_rfl) rfl ?_
  refine s_p (by first | exact h_assign (v := .s _) rfl | exact h_assign (v := .agg _) rfl | exact h_assign (v := .tup _) rfl) ?_
  refine s_nil ?_
  refine n_wp ?_
  refine w_seq ?_
  refine c_reg (by kernel_rfl) rfl ?_
  refine s_p (show HOk _ _ _ _ (.agg [.ints .u8 32 K1]) [] by rw [← hK]; exact h_build_ints (n := 32) (l := [(0, 1)]) (xs := [1, 0, 0, 0, 0, 0, 0, 0, 0, 0, 0, 0, 0, 0, 0, 0, 0, 0, 0, 0, 0, 0, 0, 0, 0, 0, 0, 0, 0, 0, 0, 0]) rfl (fun w => by kernel_rfl) rfl) ?_
  refine s_p (show HOk _ _ _ _ (.agg [.ints .u8 16 C1]) [] by rw [← hC]; exact h_build_ints (n := 16) (l := [(0, 2)]) (xs := [2, 0, 0, 0, 0, 0, 0, 0, 0, 0, 0, 0, 0, 0, 0, 0]) rfl (fun w => by kernel_rfl) rfl) ?_
  refine s_p (show HOk _ _ _ _ (.agg [.ints .u8 32 K1, .ints .u8 16 C1]) [] by rw [← hK, ← hC]; exact h_build_two rfl rfl rfl rfl (fun w => by kernel_rfl)) ?_
  refine s_a (h_alloc (segs := [.ints .u8 32 (z 32), .ints .u8 16 (z 16)]) Try.zeroValue56 (by kernel_rfl) rfl) rfl ?_
  refine s_st (m_store_agg (n := 48) (segs := [.ints .u8 32 (z 32), .ints .u8 16 (z 16)]) (sub := [.ints .u8 32 K1, .ints .u8 16 C1]) (id := 0) (base := 0) (idx := 0) rfl rfl rfl (.whole (Nat.le_of_ble_eq_true rfl) rfl rfl) Try.sizeOf56 rfl) ?_
  refine s_nil ?_
  refine n_wp ?_
  refine w_seq ?_
  refine c_reg (by kernel_rfl) rfl ?_
  refine s_p (by first | exact h_load_agg rfl rfl (.whole rfl) Try.isAgg56 Try.sizeOf56 | exact h_load_agg rfl rfl (.seg rfl rfl) Try.isAgg56 Try.sizeOf56 | exact h_load_agg rfl rfl (.ints rfl (by omega)) Try.isAgg56 Try.sizeOf56) ?_
  refine s_a (h_bsli3 rfl rfl rfl Try.underlying29 Try.sizeOf5 Try.zeroValue5 rfl rfl) rfl ?_
  refine s_m (m_conv rfl rfl Try.underlying29 Try.underlying5) ?_
  refine s_a (h_call callable_35 rfl ((show ACall _ _ _ _ _ [⟨true, [.ints .u8 32 X]⟩] by rw [← hX]; exact seal_s _ K1 C1 7 1 hKl hCl hC8 (by omega) 1 0 3 3 [97, 98, 99] _ rfl (Nat.le_refl _) (by omega) rfl (fun i y hy => by rw [Nat.zero_add i]; exact hy) (by omega) (by omega)))) rfl ?_
  refine s_heap (H' := [some ⟨true, [.ints .u8 32 K1, .ints .u8 16 C1]⟩, some ⟨false, [.ints .u8 3 [97, 98, 99]]⟩, some ⟨true, [.ints .u8 32 X]⟩]) (by kernel_rfl) ?_
  refine s_p (by first | exact h_move (v := .s _) rfl | exact h_move (v := .agg _) rfl | exact h_move (v := .tup _) rfl) ?_
  refine s_p (h_extract rfl rfl (by simp)) ?_
  refine s_p (h_extract rfl rfl (by simp)) ?_
  refine s_heap (H' := [some ⟨true, [.ints .u8 32 K1, .ints .u8 16 C1]⟩, some ⟨false, [.ints .u8 3 [97, 98, 99]]⟩, some ⟨true, [.ints .u8 32 X]⟩]) (by kernel_rfl) ?_
  refine s_p (by first | exact h_assign (v := .s _) rfl | exact h_assign (v := .agg _) rfl | exact h_assign (v := .tup _) rfl) ?_
  refine s_p (by first | exact h_assign (v := .s _) rfl | exact h_assign (v := .agg _) rfl | exact h_assign (v := .tup _) rfl) ?_
  refine s_nil ?_
  refine n_wp ?_
  refine w_seq ?_
  refine c_reg (by kernel_rfl) rfl ?_
  refine s_p (by first | exact h_load_agg rfl rfl (.whole rfl) Try.isAgg56 Try.sizeOf56 | exact h_load_agg rfl rfl (.seg rfl rfl) Try.isAgg56 Try.sizeOf56 | exact h_load_agg rfl rfl (.ints rfl (by omega)) Try.isAgg56 Try.sizeOf56) ?_
  refine s_p (by first | exact h_move (v := .s _) rfl | exact h_move (v := .agg _) rfl | exact h_move (v := .tup _) rfl) ?_
  refine s_a (h_call callable_37 rfl ((show ACall _ _ _ _ (.tup [.s (.int .u32 7), .s (.int .u64 1), _, _]) _ by have h := open_ok [some ⟨true, [.ints .u8 32 K1, .ints .u8 16 C1]⟩, some ⟨false, [.ints .u8 3 [97, 98, 99]]⟩, some ⟨true, [.ints .u8 32 X]⟩] K1 C1 3 hKl hCl hC8 2 0 32 32 X _ hXl (Nat.le_refl _) (by omega) rfl (fun i y hy => by rw [Nat.zero_add i]; exact hy) hX8 rfl (by omega) hX9 7 (by omega) hXg hXm (by omega); rw [hXn] at h; exact h))) rfl ?_
  refine s_p (by first | exact h_move (v := .s _) rfl | exact h_move (v := .agg _) rfl | exact h_move (v := .tup _) rfl) ?_
  refine s_p (h_extract rfl rfl (by simp)) ?_
  refine s_p (h_extract rfl rfl (by simp)) ?_
  refine s_p (h_extract rfl rfl (by simp)) ?_
  refine s_p (h_extract rfl rfl (by simp)) ?_
  refine s_p (by first | exact h_assign (v := .s _) rfl | exact h_assign (v := .agg _) rfl | exact h_assign (v := .tup _) rfl) ?_
  refine s_p (by first | exact h_assign (v := .s _) rfl | exact h_assign (v := .agg _) rfl | exact h_assign (v := .tup _) rfl) ?_
  refine s_p (by first | exact h_assign (v := .s _) rfl | exact h_assign (v := .agg _) rfl | exact h_assign (v := .tup _) rfl) ?_
  refine s_p (by first | exact h_assign (v := .s _) rfl | exact h_assign (v := .agg _) rfl | exact h_assign (v := .tup _) rfl) ?_
  refine s_nil ?_
  refine n_wp ?_
  refine w_seq ?_
  refine c_reg (by kernel_rfl) rfl ?_
  refine s_p (by first | exact h_move (v := .s _) rfl | exact h_move (v := .agg _) rfl | exact h_move (v := .tup _) rfl) ?_
  refine s_p (h_call callable_38 rfl (Lane_ok _ 2 0 32 32 X _ hXl (Nat.le_refl _) (by omega) rfl (fun i y hy => by rw [Nat.zero_add i]; exact hy) (by omega) (by omega) hX9 7 (by omega) hXg)) ?_
  refine s_p (by first | exact h_move (v := .s _) rfl | exact h_move (v := .agg _) rfl | exact h_move (v := .tup _) rfl) ?_
  refine s_p (h_extract rfl rfl (by simp)) ?_
  refine s_p (h_extract rfl rfl (by simp)) ?_
  refine s_p (by first | exact h_assign (v := .s _) rfl | exact h_assign (v := .agg _) rfl | exact h_assign (v := .tup _) rfl) ?_
  refine s_p (by first | exact h_assign (v := .s _) rfl | exact h_assign (v := .agg _) rfl | exact h_assign (v := .tup _) rfl) ?_
  refine s_nil ?_
  refine n_wp ?_
  refine w_seq ?_
  refine c_any 11 mix (by kernel_rfl) (by kernel_rfl) rfl rfl rfl ?_
  refine t_p (by first | exact h_load_agg rfl rfl (.whole rfl) Try.isAgg56 Try.sizeOf56 | exact h_load_agg rfl rfl (.seg rfl rfl) Try.isAgg56 Try.sizeOf56 | exact h_load_agg rfl rfl (.ints rfl (by omega)) Try.isAgg56 Try.sizeOf56) ?_
  refine t_a (h_make (l := 28) (c := 28) rfl rfl (Nat.le_refl _) (by rw [show Try.t5.bytes = 1 from rfl]; omega) (by omega) Try.underlying29 infoB5 rfl rfl rfl) rfl ?_
  refine t_p (h_call callable_37 rfl (open_short _ K1 C1 4 0 28 28 (List.replicate 28 0) _ List.length_replicate (Nat.le_refl _) (by omega) rfl (fun i y hy => by rw [Nat.zero_add i]; exact hy) (by omega))) ?_
  refine t_p (by first | exact h_move (v := .s _) rfl | exact h_move (v := .agg _) rfl | exact h_move (v := .tup _) rfl) ?_
  refine t_p (h_extract rfl rfl (by simp)) ?_
  refine t_p (h_extract rfl rfl (by simp)) ?_
  refine t_p (h_extract rfl rfl (by simp)) ?_
  refine t_p (h_extract rfl rfl (by simp)) ?_
  refine t_p (by first | exact h_assign (v := .s _) rfl | exact h_assign (v := .agg _) rfl | exact h_assign (v := .tup _) rfl) ?_
  refine t_p (by first | exact h_assign (v := .s _) rfl | exact h_assign (v := .agg _) rfl | exact h_assign (v := .tup _) rfl) ?_
  refine t_p (by first | exact h_assign (v := .s _) rfl | exact h_assign (v := .agg _) rfl | exact h_assign (v := .tup _) rfl) ?_
  refine t_nil ?_
  refine s_p (by first | exact h_assign (v := .s _) rfl | exact h_assign (v := .agg _) rfl | exact h_assign (v := .tup _) rfl) ?_
  refine s_nil ?_
  refine n_wp ?_
  refine w_seq ?_
  refine c_any 11 mix (by kernel_rfl) (by kernel_rfl) rfl rfl rfl ?_
  refine t_p (by first | exact h_load_agg rfl rfl (.whole rfl) Try.isAgg56 Try.sizeOf56 | exact h_load_agg rfl rfl (.seg rfl rfl) Try.isAgg56 Try.sizeOf56 | exact h_load_agg rfl rfl (.ints rfl (by omega)) Try.isAgg56 Try.sizeOf56) ?_
  refine t_a (h_make (l := 29) (c := 29) rfl rfl (Nat.le_refl _) (by rw [show Try.t5.bytes = 1 from rfl]; omega) (by omega) Try.underlying29 infoB5 rfl rfl rfl) rfl ?_
  refine t_p (h_call callable_37 rfl (open_form _ K1 C1 5 0 29 29 (List.replicate 29 0) _ List.length_replicate (Nat.le_refl _) (by omega) rfl (fun i y hy => by rw [Nat.zero_add i]; exact hy) (by omega) (by omega) (by decide))) ?_
  refine t_p (by first | exact h_move (v := .s _) rfl | exact h_move (v := .agg _) rfl | exact h_move (v := .tup _) rfl) ?_
  refine t_p (h_extract rfl rfl (by simp)) ?_
  refine t_p (h_extract rfl rfl (by simp)) ?_
  refine t_p (h_extract rfl rfl (by simp)) ?_
  refine t_p (h_extract rfl rfl (by simp)) ?_
  refine t_p (by first | exact h_assign (v := .s _) rfl | exact h_assign (v := .agg _) rfl | exact h_assign (v := .tup _) rfl) ?_
  refine t_p (by first | exact h_assign (v := .s _) rfl | exact h_assign (v := .agg _) rfl | exact h_assign (v := .tup _) rfl) ?_
  refine t_p (by first | exact h_assign (v := .s _) rfl | exact h_assign (v := .agg _) rfl | exact h_assign (v := .tup _) rfl) ?_
  refine t_nil ?_
  refine s_p (by first | exact h_assign (v := .s _) rfl | exact h_assign (v := .agg _) rfl | exact h_assign (v := .tup _) rfl) ?_
  refine s_nil ?_
  refine n_wp ?_
  refine w_seq ?_
  refine c_any 7 mix (by kernel_rfl) (by kernel_rfl) rfl rfl rfl ?_
  refine t_p (by first | exact h_load_agg rfl rfl (.whole rfl) Try.isAgg56 Try.sizeOf56 | exact h_load_agg rfl rfl (.seg rfl rfl) Try.isAgg56 Try.sizeOf56 | exact h_load_agg rfl rfl (.ints rfl (by omega)) Try.isAgg56 Try.sizeOf56) ?_
  refine t_a (h_make (l := 2020) (c := 2020) rfl rfl (Nat.le_refl _) (by rw [show Try.t5.bytes = 1 from rfl]; omega) (by omega) Try.underlying29 infoB5 rfl rfl rfl) rfl ?_
  refine t_p (h_call callable_35 rfl (seal_bigs _ K1 C1 7 1 6 0 2020 2020 (List.replicate 2020 0) _ List.length_replicate (Nat.le_refl _) (by omega) rfl (fun i y hy => by rw [Nat.zero_add i]; exact hy) (by omega))) ?_
  refine t_p (by first | exact h_move (v := .s _) rfl | exact h_move (v := .agg _) rfl | exact h_move (v := .tup _) rfl) ?_
  refine t_p (h_extract rfl rfl (by simp)) ?_
  refine t_p (h_extract rfl rfl (by simp)) ?_
  refine t_p (by first | exact h_assign (v := .s _) rfl | exact h_assign (v := .agg _) rfl | exact h_assign (v := .tup _) rfl) ?_
  refine t_nil ?_
  refine s_p (by first | exact h_assign (v := .s _) rfl | exact h_assign (v := .agg _) rfl | exact h_assign (v := .tup _) rfl) ?_
  refine s_nil ?_
  refine n_wp ?_
  refine w_seq ?_
  refine c_reg (by kernel_rfl) rfl ?_
  refine s_p (by first | exact h_move (v := .s _) rfl | exact h_move (v := .agg _) rfl | exact h_move (v := .tup _) rfl) ?_
  refine s_p (h_bin rfl rfl (b_eql (decide_eq_true rfl))) ?_
  refine s_p (by first | exact h_move (v := .s _) rfl | exact h_move (v := .agg _) rfl | exact h_move (v := .tup _) rfl) ?_
  first | refine s_on rfl rfl (by first | rfl | assumption) (by first | exact h_move (v := .s _) rfl | exact h_move (v := .agg _) rfl | exact h_move (v := .tup _) rfl) ?_ | refine s_off rfl rfl (by first | rfl | assumption) ?_
  first | refine s_on rfl rfl (by first | rfl | assumption) (by first | exact h_len rfl Try.underlying29 | exact h_len_nil rfl Try.underlying29 | exact h_len_val rfl Try.underlying29) ?_ | refine s_off rfl rfl (by first | rfl | assumption) ?_
  first | refine s_on rfl rfl (by first | rfl | assumption) (h_bin rfl rfl (b_eql (decide_eq_true rfl))) ?_ | refine s_off rfl rfl (by first | rfl | assumption) ?_
  refine s_p (by first | exact h_pick_t rfl (by first | rfl | assumption) rfl | exact h_pick_f rfl (by first | rfl | assumption) rfl) ?_
  refine s_p (by first | exact h_move (v := .s _) rfl | exact h_move (v := .agg _) rfl | exact h_move (v := .tup _) rfl) ?_
  first | refine s_on rfl rfl (by first | rfl | assumption) (by first | exact h_move (v := .s _) rfl | exact h_move (v := .agg _) rfl | exact h_move (v := .tup _) rfl) ?_ | refine s_off rfl rfl (by first | rfl | assumption) ?_
  first | refine s_on rfl rfl (by first | rfl | assumption) (h_bin rfl rfl (b_eql (decide_eq_true rfl))) ?_ | refine s_off rfl rfl (by first | rfl | assumption) ?_
  refine s_p (by first | exact h_pick_t rfl (by first | rfl | assumption) rfl | exact h_pick_f rfl (by first | rfl | assumption) rfl) ?_
  refine s_p (by first | exact h_move (v := .s _) rfl | exact h_move (v := .agg _) rfl | exact h_move (v := .tup _) rfl) ?_
  first | refine s_on rfl rfl (by first | rfl | assumption) (by first | exact h_move (v := .s _) rfl | exact h_move (v := .agg _) rfl | exact h_move (v := .tup _) rfl) ?_ | refine s_off rfl rfl (by first | rfl | assumption) ?_
  first | refine s_on rfl rfl (by first | rfl | assumption) (h_bin rfl rfl (b_eql (decide_eq_true rfl))) ?_ | refine s_off rfl rfl (by first | rfl | assumption) ?_
  refine s_p (by first | exact h_pick_t rfl (by first | rfl | assumption) rfl | exact h_pick_f rfl (by first | rfl | assumption) rfl) ?_
  refine s_p (by first | exact h_move (v := .s _) rfl | exact h_move (v := .agg _) rfl | exact h_move (v := .tup _) rfl) ?_
  first | refine s_on rfl rfl (by first | rfl | assumption) (by first | exact h_move (v := .s _) rfl | exact h_move (v := .agg _) rfl | exact h_move (v := .tup _) rfl) ?_ | refine s_off rfl rfl (by first | rfl | assumption) ?_
  first | refine s_on rfl rfl (by first | rfl | assumption) (h_bin rfl rfl (b_eql (decide_eq_true rfl))) ?_ | refine s_off rfl rfl (by first | rfl | assumption) ?_
  refine s_p (by first | exact h_pick_t rfl (by first | rfl | assumption) rfl | exact h_pick_f rfl (by first | rfl | assumption) rfl) ?_
  refine s_p (by first | exact h_move (v := .s _) rfl | exact h_move (v := .agg _) rfl | exact h_move (v := .tup _) rfl) ?_
  first | refine s_on rfl rfl (by first | rfl | assumption) (by first | exact h_move (v := .s _) rfl | exact h_move (v := .agg _) rfl | exact h_move (v := .tup _) rfl) ?_ | refine s_off rfl rfl (by first | rfl | assumption) ?_
  first | refine s_on rfl rfl (by first | rfl | assumption) (h_str (A := [97, 98, 99]) rfl rfl rfl (by omega) hS rfl Try.underlying29 Try.underlying5 Try.underlying9) ?_ | refine s_off rfl rfl (by first | rfl | assumption) ?_
  first | refine s_on rfl rfl (by first | rfl | assumption) (h_seqs rfl rfl (by kernel_rfl)) ?_ | refine s_off rfl rfl (by first | rfl | assumption) ?_
  refine s_p (by first | exact h_pick_t rfl (by first | rfl | assumption) rfl | exact h_pick_f rfl (by first | rfl | assumption) rfl) ?_
  refine s_p (by first | exact h_move (v := .s _) rfl | exact h_move (v := .agg _) rfl | exact h_move (v := .tup _) rfl) ?_
  first | refine s_on rfl rfl (by first | rfl | assumption) (by first | exact h_move (v := .s _) rfl | exact h_move (v := .agg _) rfl | exact h_move (v := .tup _) rfl) ?_ | refine s_off rfl rfl (by first | rfl | assumption) ?_
  first | refine s_on rfl rfl (by first | rfl | assumption) (h_bin rfl rfl (b_eql (decide_eq_true rfl))) ?_ | refine s_off rfl rfl (by first | rfl | assumption) ?_
  refine s_p (by first | exact h_pick_t rfl (by first | rfl | assumption) rfl | exact h_pick_f rfl (by first | rfl | assumption) rfl) ?_
  refine s_p (by first | exact h_move (v := .s _) rfl | exact h_move (v := .agg _) rfl | exact h_move (v := .tup _) rfl) ?_
  first | refine s_on rfl rfl (by first | rfl | assumption) (by first | exact h_move (v := .s _) rfl | exact h_move (v := .agg _) rfl | exact h_move (v := .tup _) rfl) ?_ | refine s_off rfl rfl (by first | rfl | assumption) ?_
  first | refine s_on rfl rfl (by first | rfl | assumption) (h_bin rfl rfl (b_eql (decide_eq_true rfl))) ?_ | refine s_off rfl rfl (by first | rfl | assumption) ?_
  refine s_p (by first | exact h_pick_t rfl (by first | rfl | assumption) rfl | exact h_pick_f rfl (by first | rfl | assumption) rfl) ?_
  refine s_p (by first | exact h_move (v := .s _) rfl | exact h_move (v := .agg _) rfl | exact h_move (v := .tup _) rfl) ?_
  first | refine s_on rfl rfl (by first | rfl | assumption) (by first | exact h_move (v := .s _) rfl | exact h_move (v := .agg _) rfl | exact h_move (v := .tup _) rfl) ?_ | refine s_off rfl rfl (by first | rfl | assumption) ?_
  first | refine s_on rfl rfl (by first | rfl | assumption) (h_bin rfl rfl (b_eql (decide_eq_true rfl))) ?_ | refine s_off rfl rfl (by first | rfl | assumption) ?_
  refine s_p (by first | exact h_pick_t rfl (by first | rfl | assumption) rfl | exact h_pick_f rfl (by first | rfl | assumption) rfl) ?_
  refine s_p (by first | exact h_move (v := .s _) rfl | exact h_move (v := .agg _) rfl | exact h_move (v := .tup _) rfl) ?_
  first | refine s_on rfl rfl (by first | rfl | assumption) (by first | exact h_move (v := .s _) rfl | exact h_move (v := .agg _) rfl | exact h_move (v := .tup _) rfl) ?_ | refine s_off rfl rfl (by first | rfl | assumption) ?_
  first | refine s_on rfl rfl (by first | rfl | assumption) (h_bin rfl rfl (b_eql (decide_eq_true rfl))) ?_ | refine s_off rfl rfl (by first | rfl | assumption) ?_
  refine s_p (by first | exact h_pick_t rfl (by first | rfl | assumption) rfl | exact h_pick_f rfl (by first | rfl | assumption) rfl) ?_
  refine s_p (by first | exact h_move (v := .s _) rfl | exact h_move (v := .agg _) rfl | exact h_move (v := .tup _) rfl) ?_
  first | refine s_on rfl rfl (by first | rfl | assumption) (by first | exact h_move (v := .s _) rfl | exact h_move (v := .agg _) rfl | exact h_move (v := .tup _) rfl) ?_ | refine s_off rfl rfl (by first | rfl | assumption) ?_
  first | refine s_on rfl rfl (by first | rfl | assumption) (h_bin rfl rfl (b_eql (decide_eq_true rfl))) ?_ | refine s_off rfl rfl (by first | rfl | assumption) ?_
  refine s_p (by first | exact h_pick_t rfl (by first | rfl | assumption) rfl | exact h_pick_f rfl (by first | rfl | assumption) rfl) ?_
  refine s_p (by first | exact h_assign (v := .s _) rfl | exact h_assign (v := .agg _) rfl | exact h_assign (v := .tup _) rfl) ?_
  refine s_nil ?_
  refine n_wp ?_
  refine w_ret ?_
  exact doneM (by repeat (first | exact trivial | refine ⟨rfl, ?_⟩)) (ret_tmp Try.results36 rfl)
end Go.Proofs.X
