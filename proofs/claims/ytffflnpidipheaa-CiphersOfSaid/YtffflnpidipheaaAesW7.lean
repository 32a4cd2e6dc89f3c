/- A part of the proofs of this claim: AesW7. No conditions. -/
import Derived.Test.YtffflnpidipheaaAesW6
import Derived.Test.YtffflnpidipheaaAb10
open Go Go.Ab Go.Proofs
namespace Go.Proofs.X
theorem callable_25 : Callable Try.prog 25 := ⟨_, Try.func25, by kernel_rfl, rfl⟩
set_option maxRecDepth 100000 in
set_option maxHeartbeats 1000000 in
theorem stream_nil (key first : List Int) (H : Heap) : ACall Try.prog 26 H [.agg [.ints .u8 16 key], .agg [.ints .u8 16 first], .s .nils] (.s .nils) [] := by
  refine acall_free Try.func26 rfl Try.ntmps26 (by simp) rfl rfl (fun W w hW => ?_) H
  refine w_seq ?_
  refine c_reg (by kernel_rfl) rfl ?_
  refine s_a (by first | exact h_box_agg rfl rfl | exact h_box rfl (by simp) rfl) rfl ?_
  refine s_a (by first | exact h_box_agg rfl rfl | exact h_box rfl (by simp) rfl) rfl ?_
  refine s_p (by first | exact h_assign (v := .s _) rfl | exact h_assign (v := .agg _) rfl | exact h_assign (v := .tup _) rfl) ?_
  refine s_nil ?_
  refine n_wp ?_
  refine w_seq ?_
  refine w_seq ?_
  refine c_reg (by kernel_rfl) rfl ?_
  refine s_p (by first | exact h_move (v := .s _) rfl | exact h_move (v := .agg _) rfl | exact h_move (v := .tup _) rfl) ?_
  refine s_p (by first | exact h_len rfl Try.underlying29 | exact h_len_slx rfl Try.underlying29 | exact h_len_nil rfl Try.underlying29) ?_
  refine s_p (h_bin rfl rfl (b_eql rfl)) ?_
  refine s_nil ?_
  refine n_wp ?_
  refine w_cond rfl (fun hc_t15 => ?_) (fun hc_t15 => ?_)
  rotate_left
  · exact absurd hc_t15 (by simp)
  refine w_seq ?_
  refine c_reg (by kernel_rfl) rfl ?_
  refine s_p (by first | exact h_assign (v := .s _) rfl | exact h_assign (v := .agg _) rfl | exact h_assign (v := .tup _) rfl) ?_
  refine s_nil ?_
  refine n_wp ?_
  refine w_ret ?_
  refine r_thn ?_
  exact ⟨.inl rfl, ret_tmp Try.results26 rfl⟩

def livA : Nat → List Int
  | 0 => z 16
  | k + 1 => (livA k).set k k
def livB : Nat → List Int
  | 0 => z 16
  | k + 1 => (livB k).set k (17 * (k : Int))
theorem livA_len (k : Nat) : (livA k).length = 16 := by
  induction k with
  | zero => exact z_len _
  | succ k ih => simp [livA, ih]
theorem livB_len (k : Nat) : (livB k).length = 16 := by
  induction k with
  | zero => exact z_len _
  | succ k ih => simp [livB, ih]
theorem livA_eq : livA 16 = [0, 1, 2, 3, 4, 5, 6, 7, 8, 9, 10, 11, 12, 13, 14, 15] := by decide +kernel
theorem livB_eq : livB 16 = [0, 17, 34, 51, 68, 85, 102, 119, 136, 153, 170, 187, 204, 221, 238, 255] := by decide +kernel
def LA : List Int := [0, 1, 2, 3, 4, 5, 6, 7, 8, 9, 10, 11, 12, 13, 14, 15]
def LB : List Int := [0, 17, 34, 51, 68, 85, 102, 119, 136, 153, 170, 187, 204, 221, 238, 255]
def LW : List Int := [105, 196, 224, 216, 106, 123, 4, 48, 216, 205, 183, 128, 112, 180, 197, 90]
theorem U8_LA : U8 LA := u8B_U8 (by decide)
theorem U8_LB : U8 LB := u8B_U8 (by decide)
theorem U8_LW : U8 LW := u8B_U8 (by decide)
theorem live_block : blockI LA LB = LW := by decide +kernel
theorem live_back : backI LA LW = LB := by decide +kernel
def I25 (n : Nat) (T : Tm) (H : Heap) : Prop := ∃ k : Nat, k ≤ 16 ∧ n = 16 - k ∧
  T = [(1, .s (.ptr 0 0 0)), (2, .s (.ptr 1 0 0)), (3, .s (.int .i64 k))] ∧ H = [some ⟨true, [.ints .u8 16 (livA k)]⟩, some ⟨true, [.ints .u8 16 (livB k)]⟩]
set_option maxRecDepth 100000 in
set_option maxHeartbeats 1000000 in
theorem lives_c (H : Heap) : ACall Try.prog 25 H [] (.s (.bool true)) [] := by
  refine acall_free Try.func25 rfl Try.ntmps25 (by simp) rfl rfl (fun W w hW => ?_) H
  refine w_seq ?_
  refine c_reg (by kernel_rfl) rfl ?_
  refine s_p (by first | exact h_assign (v := .s _) rfl | exact h_assign (v := .agg _) rfl | exact h_assign (v := .tup _) rfl) ?_
  refine s_nil ?_
  refine n_wp ?_
  refine w_seq ?_
  refine c_reg (by kernel_rfl) rfl ?_
  refine s_a (h_alloc (segs := [.ints .u8 16 (z 16)]) Try.zeroValue22 (by kernel_rfl) rfl) rfl ?_
  refine s_a (h_alloc (segs := [.ints .u8 16 (z 16)]) Try.zeroValue22 (by kernel_rfl) rfl) rfl ?_
  refine s_nil ?_
  refine n_wp ?_
  refine w_seq ?_
  refine w_seq ?_
  refine c_reg (by kernel_rfl) rfl ?_
  refine s_p (by first | exact h_assign (v := .s _) rfl | exact h_assign (v := .agg _) rfl | exact h_assign (v := .tup _) rfl) ?_
  refine s_nil ?_
  refine n_wp ?_
  refine w_block ?_
  refine c_loop (I25) 16 ⟨0, by omega, rfl, rfl, rfl⟩ (weak' (by repeat (first | exact trivial | refine ⟨rfl, ?_⟩)) rfl rfl (Nat.le_of_ble_eq_true rfl)) ?_
  rintro n T H ⟨k, hk, rfl, rfl, rfl⟩
  refine w_seq ?_
  refine w_seq ?_
  refine c_reg (by kernel_rfl) rfl ?_
  refine s_p (by first | exact h_move (v := .s _) rfl | exact h_move (v := .agg _) rfl | exact h_move (v := .tup _) rfl) ?_
  refine s_p (h_bin rfl rfl (b_lss rfl)) ?_
  refine s_nil ?_
  refine n_wp ?_
  refine w_cond rfl (fun hc_t6 => ?_) (fun hc_t6 => ?_)
  · skip
    have hlt : k < 16 := by have := of_decide_eq_true hc_t6; omega
    refine w_skip ?_
    refine n_wp ?_
    refine w_seq ?_
    refine w_block ?_
    refine w_seq ?_
    refine c_reg (by kernel_rfl) rfl ?_
    refine s_p (by first | exact h_move (v := .s _) rfl | exact h_move (v := .agg _) rfl | exact h_move (v := .tup _) rfl) ?_
    refine s_p (by first | exact h_move (v := .s _) rfl | exact h_move (v := .agg _) rfl | exact h_move (v := .tup _) rfl) ?_
    refine s_p (by first | exact h_conv rfl Try.underlying3 Try.underlying5 (Go.IntWalk.i64_in _ (by omega)) | exact h_conv rfl Try.underlying3 Try.underlying5 (wrap_u8 (by omega) (by omega)) | exact h_conv rfl Try.underlying3 Try.underlying5 rfl) ?_
    refine s_p (by first | exact h_ix rfl rfl Try.underlying22 Try.sizeOf5 (by omega) | exact h_ixa rfl rfl Try.underlying22 Try.sizeOf5 (by omega) | exact h_ixl (Int.toNat _) rfl rfl (Int.toNat_of_nonneg (by omega)).symm Try.underlying22 Try.sizeOf5 (by omega)) ?_
    refine s_st (by first | exact m_store_int rfl rfl rfl rfl (by omega) (by (first | exact livA_len _ | exact livB_len _)) Try.sizeOf5 rfl | exact m_store_one rfl rfl (by simp) rfl rfl Try.sizeOf5 rfl) ?_
    refine s_nil ?_
    refine n_wp ?_
    refine c_reg (by kernel_rfl) rfl ?_
    refine s_p (by first | exact h_move (v := .s _) rfl | exact h_move (v := .agg _) rfl | exact h_move (v := .tup _) rfl) ?_
    refine s_p (by first | exact h_move (v := .s _) rfl | exact h_move (v := .agg _) rfl | exact h_move (v := .tup _) rfl) ?_
    refine s_p (by first | exact h_bin rfl rfl (b_mul (Go.IntWalk.i64_in _ (by omega))) | exact h_bin rfl rfl (b_mul rfl)) ?_
    refine s_p (by first | exact h_conv rfl Try.underlying3 Try.underlying5 (Go.IntWalk.i64_in _ (by omega)) | exact h_conv rfl Try.underlying3 Try.underlying5 (wrap_u8 (by omega) (by omega)) | exact h_conv rfl Try.underlying3 Try.underlying5 rfl) ?_
    refine s_p (by first | exact h_ix rfl rfl Try.underlying22 Try.sizeOf5 (by omega) | exact h_ixa rfl rfl Try.underlying22 Try.sizeOf5 (by omega) | exact h_ixl (Int.toNat _) rfl rfl (Int.toNat_of_nonneg (by omega)).symm Try.underlying22 Try.sizeOf5 (by omega)) ?_
    refine s_st (by first | exact m_store_int rfl rfl rfl rfl (by omega) (by (first | exact livA_len _ | exact livB_len _)) Try.sizeOf5 rfl | exact m_store_one rfl rfl (by simp) rfl rfl Try.sizeOf5 rfl) ?_
    refine s_nil ?_
    refine n_blo ?_
    refine n_wp ?_
    refine c_reg (by kernel_rfl) rfl ?_
    refine s_p (by first | exact h_move (v := .s _) rfl | exact h_move (v := .agg _) rfl | exact h_move (v := .tup _) rfl) ?_
    refine s_p (by first | exact h_bin rfl rfl (b_add (Go.IntWalk.i64_in _ (by omega))) | exact h_bin rfl rfl (b_add rfl)) ?_
    refine s_p (by first | exact h_assign (v := .s _) rfl | exact h_assign (v := .agg _) rfl | exact h_assign (v := .tup _) rfl) ?_
    refine s_nil ?_
    exact n_round (16 - (k + 1)) (by omega) ⟨k + 1, by omega, rfl, rfl, rfl⟩ (weak' (by repeat (first | exact trivial | refine ⟨rfl, ?_⟩)) rfl rfl (Nat.le_of_ble_eq_true rfl))
  · skip
    obtain rfl : k = 16 := by have := of_decide_eq_false hc_t6; omega
    rw [show livA 16 = LA from livA_eq, show livB 16 = LB from livB_eq]
    refine w_exit ?_
    refine x_thn ?_
    refine x_thn ?_
    refine x_eq ?_
    refine n_wp ?_
    refine w_seq ?_
    refine c_reg (by kernel_rfl) rfl ?_
    refine s_p (h_build_ints (l := [(0, 105), (1, 196), (2, 224), (3, 216), (4, 106), (5, 123), (6, 4), (7, 48), (8, 216), (9, 205), (10, 183), (11, 128), (12, 112), (13, 180), (14, 197), (15, 90)]) (xs := LW) rfl (fun w => by kernel_rfl) rfl) ?_
    refine s_a (h_alloc (segs := [.ints .u8 16 (z 16)]) Try.zeroValue22 (by kernel_rfl) rfl) rfl ?_
    refine s_st (by first | exact m_store_agg rfl rfl rfl (.whole (Nat.le_of_ble_eq_true rfl) rfl rfl) Try.sizeOf22 rfl | exact m_store_agg rfl rfl rfl (.seg (Nat.le_of_ble_eq_true rfl) rfl rfl rfl) Try.sizeOf22 rfl | exact m_store_agg rfl rfl rfl (.ints (Nat.le_of_ble_eq_true rfl) rfl (by omega)) Try.sizeOf22 rfl) ?_
    refine s_nil ?_
    refine n_wp ?_
    refine w_seq ?_
    refine c_any 15 mix (by kernel_rfl) (by kernel_rfl) rfl rfl rfl ?_
    refine t_p (by first | exact h_load_agg rfl rfl (.whole rfl) Try.isAgg22 Try.sizeOf22 | exact h_load_agg rfl rfl (.seg rfl rfl) Try.isAgg22 Try.sizeOf22 | exact h_load_agg rfl rfl (.ints rfl (by omega)) Try.isAgg22 Try.sizeOf22) ?_
    refine t_p (by first | exact h_load_agg rfl rfl (.whole rfl) Try.isAgg22 Try.sizeOf22 | exact h_load_agg rfl rfl (.seg rfl rfl) Try.isAgg22 Try.sizeOf22 | exact h_load_agg rfl rfl (.ints rfl (by omega)) Try.isAgg22 Try.sizeOf22) ?_
    refine t_p (h_call callable_21 rfl (Block_c LA LB rfl U8_LA rfl U8_LB _)) ?_
    refine t_p (by first | exact h_load_agg rfl rfl (.whole rfl) Try.isAgg22 Try.sizeOf22 | exact h_load_agg rfl rfl (.seg rfl rfl) Try.isAgg22 Try.sizeOf22 | exact h_load_agg rfl rfl (.ints rfl (by omega)) Try.isAgg22 Try.sizeOf22) ?_
    refine t_p (h_eql_ints (r := true) rfl rfl Try.underlying22 Try.underlying5 Try.sizeOf5 Try.isAgg5 Try.eqGuardType22 (decide_eq_true (fun i _ => by rw [live_block]))) ?_
    refine t_p (by first | exact h_move (v := .s _) rfl | exact h_move (v := .agg _) rfl | exact h_move (v := .tup _) rfl) ?_
    first | refine t_on rfl rfl (by first | rfl | assumption) (by first | exact h_load_agg rfl rfl (.whole rfl) Try.isAgg22 Try.sizeOf22 | exact h_load_agg rfl rfl (.seg rfl rfl) Try.isAgg22 Try.sizeOf22 | exact h_load_agg rfl rfl (.ints rfl (by omega)) Try.isAgg22 Try.sizeOf22) ?_ | refine t_off rfl rfl (by first | rfl | assumption) ?_
    first | refine t_on rfl rfl (by first | rfl | assumption) (by first | exact h_load_agg rfl rfl (.whole rfl) Try.isAgg22 Try.sizeOf22 | exact h_load_agg rfl rfl (.seg rfl rfl) Try.isAgg22 Try.sizeOf22 | exact h_load_agg rfl rfl (.ints rfl (by omega)) Try.isAgg22 Try.sizeOf22) ?_ | refine t_off rfl rfl (by first | rfl | assumption) ?_
    first | refine t_on rfl rfl (by first | rfl | assumption) (h_call callable_23 rfl (Back_c LA LW rfl U8_LA rfl U8_LW _)) ?_ | refine t_off rfl rfl (by first | rfl | assumption) ?_
    first | refine t_on rfl rfl (by first | rfl | assumption) (by first | exact h_load_agg rfl rfl (.whole rfl) Try.isAgg22 Try.sizeOf22 | exact h_load_agg rfl rfl (.seg rfl rfl) Try.isAgg22 Try.sizeOf22 | exact h_load_agg rfl rfl (.ints rfl (by omega)) Try.isAgg22 Try.sizeOf22) ?_ | refine t_off rfl rfl (by first | rfl | assumption) ?_
    first | refine t_on rfl rfl (by first | rfl | assumption) (h_eql_ints (r := true) rfl rfl Try.underlying22 Try.underlying5 Try.sizeOf5 Try.isAgg5 Try.eqGuardType22 (decide_eq_true (fun i _ => by rw [live_back]))) ?_ | refine t_off rfl rfl (by first | rfl | assumption) ?_
    refine t_p (by first | exact h_pick_t rfl (by first | rfl | assumption) rfl | exact h_pick_f rfl (by first | rfl | assumption) rfl) ?_
    refine t_p (by first | exact h_move (v := .s _) rfl | exact h_move (v := .agg _) rfl | exact h_move (v := .tup _) rfl) ?_
    first | refine t_on rfl rfl (by first | rfl | assumption) (by first | exact h_load_agg rfl rfl (.whole rfl) Try.isAgg22 Try.sizeOf22 | exact h_load_agg rfl rfl (.seg rfl rfl) Try.isAgg22 Try.sizeOf22 | exact h_load_agg rfl rfl (.ints rfl (by omega)) Try.isAgg22 Try.sizeOf22) ?_ | refine t_off rfl rfl (by first | rfl | assumption) ?_
    first | refine t_on rfl rfl (by first | rfl | assumption) (by first | exact h_load_agg rfl rfl (.whole rfl) Try.isAgg22 Try.sizeOf22 | exact h_load_agg rfl rfl (.seg rfl rfl) Try.isAgg22 Try.sizeOf22 | exact h_load_agg rfl rfl (.ints rfl (by omega)) Try.isAgg22 Try.sizeOf22) ?_ | refine t_off rfl rfl (by first | rfl | assumption) ?_
    refine t_nil ?_
    first | refine s_on rfl rfl (by first | rfl | assumption) (h_call callable_26 rfl (stream_nil LA LB _)) ?_ | refine s_off rfl rfl (by first | rfl | assumption) ?_
    first | refine s_on rfl rfl (by first | rfl | assumption) (by first | exact h_len rfl Try.underlying29 | exact h_len_slx rfl Try.underlying29 | exact h_len_nil rfl Try.underlying29) ?_ | refine s_off rfl rfl (by first | rfl | assumption) ?_
    first | refine s_on rfl rfl (by first | rfl | assumption) (h_bin rfl rfl (b_eql rfl)) ?_ | refine s_off rfl rfl (by first | rfl | assumption) ?_
    refine s_p (by first | exact h_pick_t rfl (by first | rfl | assumption) rfl | exact h_pick_f rfl (by first | rfl | assumption) rfl) ?_
    refine s_p (by first | exact h_assign (v := .s _) rfl | exact h_assign (v := .agg _) rfl | exact h_assign (v := .tup _) rfl) ?_
    refine s_nil ?_
    refine n_wp ?_
    refine w_ret ?_
    exact ⟨.inl rfl, ret_tmp Try.results25 rfl⟩

end Go.Proofs.X
