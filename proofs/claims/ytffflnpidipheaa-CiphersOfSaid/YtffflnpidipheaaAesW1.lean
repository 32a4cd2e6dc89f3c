/- A part of the proofs of this claim: AesW1. No conditions. -/
import Derived.Test.YtffflnpidipheaaAesSpec
import Derived.Test.YtffflnpidipheaaProg
import Derived.KernelRfl
open Go Go.Ab Go.Proofs
namespace Go.Proofs.X
theorem callable_69 : Callable Try.prog 69 := ⟨_, Try.func69, by kernel_rfl, rfl⟩
theorem callable_70 : Callable Try.prog 70 := ⟨_, Try.func70, by kernel_rfl, rfl⟩
theorem callable_71 : Callable Try.prog 71 := ⟨_, Try.func71, by kernel_rfl, rfl⟩
theorem callable_72 : Callable Try.prog 72 := ⟨_, Try.func72, by kernel_rfl, rfl⟩
theorem callable_73 : Callable Try.prog 73 := ⟨_, Try.func73, by kernel_rfl, rfl⟩
theorem callable_49 : Callable Try.prog 49 := ⟨_, Try.func49, by kernel_rfl, rfl⟩
theorem callable_50 : Callable Try.prog 50 := ⟨_, Try.func50, by kernel_rfl, rfl⟩
theorem callable_21 : Callable Try.prog 21 := ⟨_, Try.func21, by kernel_rfl, rfl⟩
theorem mix : Try.prog.follows .mixedOrders = true := by kernel_rfl
set_option maxRecDepth 100000 in
set_option maxHeartbeats 1000000 in
theorem twice_c (x : Int) (H : Heap) : ACall Try.prog 70 H [.s (.int .u8 x)] (.s (.int .u8 (twiceI x))) [] := by
  refine acall_free Try.func70 rfl Try.ntmps70 (by simp) rfl rfl (fun W w hW => ?_) H
  refine w_seq ?_
  refine c_reg (by kernel_rfl) rfl ?_
  refine s_p (by first | exact h_assign (v := .s _) rfl | exact h_assign (v := .agg _) rfl | exact h_assign (v := .tup _) rfl) ?_
  refine s_nil ?_
  refine n_wp ?_
  refine w_seq ?_
  refine w_seq ?_
  refine c_reg (by kernel_rfl) rfl ?_
  refine s_p (by first | exact h_move (v := .s _) rfl | exact h_move (v := .agg _) rfl | exact h_move (v := .tup _) rfl) ?_
  refine s_p (h_bin rfl rfl (b_shr (by omega) rfl)) ?_
  refine s_p (h_bin rfl rfl (b_eql rfl)) ?_
  refine s_nil ?_
  refine n_wp ?_
  refine w_cond rfl (fun hc_t5 => ?_) (fun hc_t5 => ?_)
  · skip
    refine w_seq ?_
    refine c_reg (by kernel_rfl) rfl ?_
    refine s_p (by first | exact h_move (v := .s _) rfl | exact h_move (v := .agg _) rfl | exact h_move (v := .tup _) rfl) ?_
    refine s_p (h_bin rfl rfl (b_shl (by omega) rfl)) ?_
    refine s_p (h_bin rfl rfl (b_xor rfl)) ?_
    refine s_p (by first | exact h_assign (v := .s _) rfl | exact h_assign (v := .agg _) rfl | exact h_assign (v := .tup _) rfl) ?_
    refine s_nil ?_
    refine n_wp ?_
    refine w_ret ?_
    refine r_thn ?_
    exact ⟨.inl rfl, ret_tmp Try.results70 (by first | (rw [twiceI, if_pos (of_decide_eq_true hc_t5)]; rfl) | (rw [twiceI, if_neg (of_decide_eq_false hc_t5)]; rfl))⟩
  · skip
    refine w_skip ?_
    refine n_wp ?_
    refine w_seq ?_
    refine c_reg (by kernel_rfl) rfl ?_
    refine s_p (by first | exact h_move (v := .s _) rfl | exact h_move (v := .agg _) rfl | exact h_move (v := .tup _) rfl) ?_
    refine s_p (h_bin rfl rfl (b_shl (by omega) rfl)) ?_
    refine s_p (by first | exact h_assign (v := .s _) rfl | exact h_assign (v := .agg _) rfl | exact h_assign (v := .tup _) rfl) ?_
    refine s_nil ?_
    refine n_wp ?_
    refine w_ret ?_
    exact ⟨.inl rfl, ret_tmp Try.results70 (by first | (rw [twiceI, if_pos (of_decide_eq_true hc_t5)]; rfl) | (rw [twiceI, if_neg (of_decide_eq_false hc_t5)]; rfl))⟩

set_option maxRecDepth 100000 in
set_option maxHeartbeats 1000000 in
theorem place_c (i : Nat) (hi : i < 16) (H : Heap) : ACall Try.prog 72 H [.s (.int .i64 i)] (.s (.int .i64 ((i + 4 * (i % 4)) % 16 : Nat))) [] := by
  refine acall_free Try.func72 rfl Try.ntmps72 (by simp) rfl rfl (fun W w hW => ?_) H
  refine w_seq ?_
  refine c_reg (by kernel_rfl) rfl ?_
  refine s_p (by first | exact h_assign (v := .s _) rfl | exact h_assign (v := .agg _) rfl | exact h_assign (v := .tup _) rfl) ?_
  refine s_nil ?_
  refine n_wp ?_
  refine w_seq ?_
  refine c_reg (by kernel_rfl) rfl ?_
  refine s_p (by first | exact h_move (v := .s _) rfl | exact h_move (v := .agg _) rfl | exact h_move (v := .tup _) rfl) ?_
  refine s_p (by first | exact h_move (v := .s _) rfl | exact h_move (v := .agg _) rfl | exact h_move (v := .tup _) rfl) ?_
  refine s_p (by first | exact h_bin rfl rfl (b_rem (by omega) (Int.tmod_eq_emod_of_nonneg (by omega))) | exact h_bin rfl rfl (b_rem (by omega) rfl)) ?_
  refine s_p (by first | exact h_bin rfl rfl (b_mul (Go.IntWalk.i64_in _ (by omega))) | exact h_bin rfl rfl (b_mul rfl)) ?_
  refine s_p (by first | exact h_bin rfl rfl (b_add (Go.IntWalk.i64_in _ (by omega))) | exact h_bin rfl rfl (b_add rfl)) ?_
  refine s_p (by first | exact h_bin rfl rfl (b_rem (by omega) (Int.tmod_eq_emod_of_nonneg (by omega))) | exact h_bin rfl rfl (b_rem (by omega) rfl)) ?_
  refine s_p (by first | exact h_assign (v := .s _) rfl | exact h_assign (v := .agg _) rfl | exact h_assign (v := .tup _) rfl) ?_
  refine s_nil ?_
  refine n_wp ?_
  refine w_ret ?_
  exact ⟨.inl rfl, ret_tmp Try.results72 rfl⟩

def I71 (a b : List Int) (n : Nat) (T : Tm) (H : Heap) : Prop := ∃ k : Nat, k ≤ 16 ∧ n = 16 - k ∧
  T = [(2, .s (.ptr 0 0 0)), (3, .s (.ptr 1 0 0)), (4, .s (.ptr 2 0 0)), (6, .s (.int .i64 k))] ∧
  H = [some ⟨true, [.ints .u8 16 (xorTo a b k)]⟩, some ⟨true, [.ints .u8 16 b]⟩, some ⟨true, [.ints .u8 16 (z 16)]⟩]
set_option maxRecDepth 100000 in
set_option maxHeartbeats 1000000 in
theorem against_c (a b : List Int) (ha : a.length = 16) (H : Heap) : ACall Try.prog 71 H [.agg [.ints .u8 16 a], .agg [.ints .u8 16 b]] (.agg [.ints .u8 16 (xor16 a b)]) [] := by
  refine acall_free Try.func71 rfl Try.ntmps71 (by simp) rfl rfl (fun W w hW => ?_) H
  refine w_seq ?_
  refine c_reg (by kernel_rfl) rfl ?_
  refine s_a (by first | exact h_box_agg rfl rfl | exact h_box rfl (by simp) rfl) rfl ?_
  refine s_a (by first | exact h_box_agg rfl rfl | exact h_box rfl (by simp) rfl) rfl ?_
  refine s_a (h_alloc (segs := [.ints .u8 16 (z 16)]) Try.zeroValue22 (by kernel_rfl) rfl) rfl ?_
  refine s_nil ?_
  refine n_wp ?_
  refine w_seq ?_
  refine w_seq ?_
  refine c_reg (by kernel_rfl) rfl ?_
  refine s_p (by first | exact h_move (v := .s _) rfl | exact h_move (v := .agg _) rfl | exact h_move (v := .tup _) rfl) ?_
  refine s_nil ?_
  refine n_wp ?_
  refine w_block ?_
  refine c_loop (I71 a b) 16 ⟨0, by omega, rfl, rfl, rfl⟩ (weak' (by repeat (first | exact trivial | refine ⟨rfl, ?_⟩)) rfl rfl (Nat.le_of_ble_eq_true rfl)) ?_
  rintro n T H ⟨k, hk, rfl, rfl, rfl⟩
  refine w_seq ?_
  refine c_reg (by kernel_rfl) rfl ?_
  refine s_p (h_bin rfl rfl (b_lss rfl)) ?_
  refine s_nil ?_
  refine n_wp ?_
  refine w_seq ?_
  refine w_cond rfl (fun hc_t7 => ?_) (fun hc_t7 => ?_)
  · skip
    have hlt : k < 16 := by have := of_decide_eq_true hc_t7; omega
    refine w_skip ?_
    refine n_wp ?_
    refine w_seq ?_
    refine w_block ?_
    refine w_seq ?_
    refine c_reg (by kernel_rfl) rfl ?_
    refine s_p (by first | exact h_move (v := .s _) rfl | exact h_move (v := .agg _) rfl | exact h_move (v := .tup _) rfl) ?_
    refine s_p (by first | exact h_assign (v := .s _) rfl | exact h_assign (v := .agg _) rfl | exact h_assign (v := .tup _) rfl) ?_
    refine s_nil ?_
    refine n_wp ?_
    refine c_any 6 mix (by kernel_rfl) (by kernel_rfl) rfl rfl rfl ?_
    refine t_p (by first | exact h_move (v := .s _) rfl | exact h_move (v := .agg _) rfl | exact h_move (v := .tup _) rfl) ?_
    refine t_p (by first | exact h_ix rfl rfl Try.underlying22 Try.sizeOf5 (by omega) | exact h_ixa rfl rfl Try.underlying22 Try.sizeOf5 (by omega) | exact h_ixl (Int.toNat _) rfl rfl (Int.toNat_of_nonneg (by omega)).symm Try.underlying22 Try.sizeOf5 (by omega)) ?_
    refine t_p (by first | exact h_load_ints rfl rfl rfl (by omega) rfl Try.isAgg5 | exact h_load_one rfl rfl rfl Try.isAgg5) ?_
    refine t_p (by first | exact h_move (v := .s _) rfl | exact h_move (v := .agg _) rfl | exact h_move (v := .tup _) rfl) ?_
    refine t_p (by first | exact h_ix rfl rfl Try.underlying22 Try.sizeOf5 (by omega) | exact h_ixa rfl rfl Try.underlying22 Try.sizeOf5 (by omega) | exact h_ixl (Int.toNat _) rfl rfl (Int.toNat_of_nonneg (by omega)).symm Try.underlying22 Try.sizeOf5 (by omega)) ?_
    refine t_p (by first | exact h_load_ints rfl rfl rfl (by omega) rfl Try.isAgg5 | exact h_load_one rfl rfl rfl Try.isAgg5) ?_
    refine t_nil ?_
    refine s_p (h_bin rfl rfl (b_xor rfl)) ?_
    refine s_p (by first | exact h_ix rfl rfl Try.underlying22 Try.sizeOf5 (by omega) | exact h_ixa rfl rfl Try.underlying22 Try.sizeOf5 (by omega) | exact h_ixl (Int.toNat _) rfl rfl (Int.toNat_of_nonneg (by omega)).symm Try.underlying22 Try.sizeOf5 (by omega)) ?_
    refine s_st (by first | exact m_store_int rfl rfl rfl rfl (by omega) (by (rw [xorTo_len, ha])) Try.sizeOf5 rfl | exact m_store_one rfl rfl (by simp) rfl rfl Try.sizeOf5 rfl) ?_
    refine s_nil ?_
    refine n_blo ?_
    refine n_wp ?_
    refine c_reg (by kernel_rfl) rfl ?_
    refine s_p (by first | exact h_bin rfl rfl (b_add (Go.IntWalk.i64_in _ (by omega))) | exact h_bin rfl rfl (b_add rfl)) ?_
    refine s_p (by first | exact h_move (v := .s _) rfl | exact h_move (v := .agg _) rfl | exact h_move (v := .tup _) rfl) ?_
    refine s_nil ?_
    exact n_round (16 - (k + 1)) (by omega) ⟨k + 1, by omega, rfl, rfl, rfl⟩ (weak' (by repeat (first | exact trivial | refine ⟨rfl, ?_⟩)) rfl rfl (Nat.le_of_ble_eq_true rfl))
  · skip
    obtain rfl : k = 16 := by have := of_decide_eq_false hc_t7; omega
    unfold xor16
    generalize xorTo a b 16 = y
    refine w_exit ?_
    refine x_thn ?_
    refine x_thn ?_
    refine x_eq ?_
    refine n_wp ?_
    refine w_seq ?_
    refine c_reg (by kernel_rfl) rfl ?_
    refine s_p (by first | exact h_load_agg rfl rfl (.whole rfl) Try.isAgg22 Try.sizeOf22 | exact h_load_agg rfl rfl (.seg rfl rfl) Try.isAgg22 Try.sizeOf22 | exact h_load_agg rfl rfl (.ints rfl (by omega)) Try.isAgg22 Try.sizeOf22) ?_
    refine s_st (by first | exact m_store_agg rfl rfl rfl (.whole (Nat.le_of_ble_eq_true rfl) rfl rfl) Try.sizeOf22 rfl | exact m_store_agg rfl rfl rfl (.seg (Nat.le_of_ble_eq_true rfl) rfl rfl rfl) Try.sizeOf22 rfl | exact m_store_agg rfl rfl rfl (.ints (Nat.le_of_ble_eq_true rfl) rfl (by omega)) Try.sizeOf22 rfl) ?_
    refine s_nil ?_
    refine n_wp ?_
    refine w_ret ?_
    exact ⟨.inl rfl, ret_cell_agg Try.results71 rfl rfl (.whole rfl) Try.isAgg22 Try.sizeOf22⟩

def I69a (n : Nat) (T : Tm) (H : Heap) : Prop := ∃ k : Nat, k ≤ 255 ∧ n = 255 - k ∧
  T = [(0, .s (.ptr 0 0 0)), (1, .s (.ptr 1 0 0)), (2, .s (.ptr 2 0 0)), (3, .s (.ptr 3 0 0)), (4, .s (.int .u8 (p1 k).1)), (10, .s (.int .i64 k))] ∧
  H = [some ⟨true, [.ints .u8 256 (z 256)]⟩, some ⟨true, [.ints .u8 256 (z 256)]⟩, some ⟨true, [.ints .u8 256 (p1 k).2.1]⟩, some ⟨true, [.ints .u8 256 (p1 k).2.2]⟩]
def I69b (P L : List Int) (n : Nat) (T : Tm) (H : Heap) : Prop := ∃ k : Nat, k ≤ 256 ∧ n = 256 - k ∧
  T = [(0, .s (.ptr 0 0 0)), (1, .s (.ptr 1 0 0)), (2, .s (.ptr 2 0 0)), (3, .s (.ptr 3 0 0)), (25, .s (.int .i64 k))] ∧
  H = [some ⟨true, [.ints .u8 256 (p2 P L k).1]⟩, some ⟨true, [.ints .u8 256 (p2 P L k).2]⟩, some ⟨true, [.ints .u8 256 P]⟩, some ⟨true, [.ints .u8 256 L]⟩]
def J69 (P L : List Int) (k : Nat) (T : Tm) (H : Heap) : Prop := ∃ y, y = boxY P L k ∧
  T = [(0, .s (.ptr 0 0 0)), (1, .s (.ptr 1 0 0)), (2, .s (.ptr 2 0 0)), (3, .s (.ptr 3 0 0)), (25, .s (.int .i64 k)), (6, .s (.int .i64 k)), (7, .s (.int .u8 y))] ∧
  H = [some ⟨true, [.ints .u8 256 (p2 P L k).1]⟩, some ⟨true, [.ints .u8 256 (p2 P L k).2]⟩, some ⟨true, [.ints .u8 256 P]⟩, some ⟨true, [.ints .u8 256 L]⟩]
def I69c (P L : List Int) (k : Nat) (y : Int) (n : Nat) (T : Tm) (H : Heap) : Prop := ∃ m : Nat, m ≤ 5 ∧ n = 5 - m ∧
  T = [(0, .s (.ptr 0 0 0)), (1, .s (.ptr 1 0 0)), (2, .s (.ptr 2 0 0)), (3, .s (.ptr 3 0 0)), (25, .s (.int .i64 k)), (6, .s (.int .i64 k)), (7, .s (.int .u8 y)), (8, .s (.int .u8 (boxO y m))), (38, .s (.int .i64 m))] ∧
  H = [some ⟨true, [.ints .u8 256 (p2 P L k).1]⟩, some ⟨true, [.ints .u8 256 (p2 P L k).2]⟩, some ⟨true, [.ints .u8 256 P]⟩, some ⟨true, [.ints .u8 256 L]⟩]
set_option maxRecDepth 100000 in
set_option maxHeartbeats 1000000 in
theorem boxes_c (H : Heap) : ACall Try.prog 69 H [] (.tup [.agg [.ints .u8 256 SB], .agg [.ints .u8 256 BK]]) [] := by
  refine acall_free Try.func69 rfl Try.ntmps69 (by simp) rfl rfl (fun W w hW => ?_) H
  refine w_seq ?_
  refine c_reg (by kernel_rfl) rfl ?_
  refine s_a (h_alloc (segs := [.ints .u8 256 (z 256)]) Try.zeroValue102 (by kernel_rfl) rfl) rfl ?_
  refine s_a (h_alloc (segs := [.ints .u8 256 (z 256)]) Try.zeroValue102 (by kernel_rfl) rfl) rfl ?_
  refine s_nil ?_
  refine n_wp ?_
  refine w_seq ?_
  refine c_reg (by kernel_rfl) rfl ?_
  refine s_a (h_alloc (segs := [.ints .u8 256 (z 256)]) Try.zeroValue102 (by kernel_rfl) rfl) rfl ?_
  refine s_a (h_alloc (segs := [.ints .u8 256 (z 256)]) Try.zeroValue102 (by kernel_rfl) rfl) rfl ?_
  refine s_nil ?_
  refine n_wp ?_
  refine w_seq ?_
  refine c_reg (by kernel_rfl) rfl ?_
  refine s_p (by first | exact h_assign (v := .s _) rfl | exact h_assign (v := .agg _) rfl | exact h_assign (v := .tup _) rfl) ?_
  refine s_nil ?_
  refine n_wp ?_
  refine w_seq ?_
  refine w_seq ?_
  refine c_reg (by kernel_rfl) rfl ?_
  refine s_p (by first | exact h_move (v := .s _) rfl | exact h_move (v := .agg _) rfl | exact h_move (v := .tup _) rfl) ?_
  refine s_nil ?_
  refine n_wp ?_
  refine w_block ?_
  refine c_loop (I69a) 255 ⟨0, by omega, rfl, rfl, rfl⟩ (weak' (by repeat (first | exact trivial | refine ⟨rfl, ?_⟩)) rfl rfl (Nat.le_of_ble_eq_true rfl)) ?_
  rintro n T H ⟨k, hk, rfl, rfl, rfl⟩
  refine w_seq ?_
  refine c_reg (by kernel_rfl) rfl ?_
  refine s_p (h_bin rfl rfl (b_lss rfl)) ?_
  refine s_nil ?_
  refine n_wp ?_
  refine w_seq ?_
  refine w_cond rfl (fun hc_t11 => ?_) (fun hc_t11 => ?_)
  · skip
    have hlt : k < 255 := by have := of_decide_eq_true hc_t11; omega
    have hx0 := (p1_range k).1
    have hx1 := (p1_range k).2
    refine w_skip ?_
    refine n_wp ?_
    refine w_seq ?_
    refine w_block ?_
    refine w_seq ?_
    refine c_reg (by kernel_rfl) rfl ?_
    refine s_p (by first | exact h_move (v := .s _) rfl | exact h_move (v := .agg _) rfl | exact h_move (v := .tup _) rfl) ?_
    refine s_p (by first | exact h_assign (v := .s _) rfl | exact h_assign (v := .agg _) rfl | exact h_assign (v := .tup _) rfl) ?_
    refine s_nil ?_
    refine n_wp ?_
    refine w_seq ?_
    refine c_reg (by kernel_rfl) rfl ?_
    refine s_p (by first | exact h_move (v := .s _) rfl | exact h_move (v := .agg _) rfl | exact h_move (v := .tup _) rfl) ?_
    refine s_p (by first | exact h_move (v := .s _) rfl | exact h_move (v := .agg _) rfl | exact h_move (v := .tup _) rfl) ?_
    refine s_p (by first | exact h_move (v := .s _) rfl | exact h_move (v := .agg _) rfl | exact h_move (v := .tup _) rfl) ?_
    refine s_p (by first | exact h_move (v := .s _) rfl | exact h_move (v := .agg _) rfl | exact h_move (v := .tup _) rfl) ?_
    refine s_p (by first | exact h_conv rfl Try.underlying3 Try.underlying5 (Go.IntWalk.i64_in _ (by omega)) | exact h_conv rfl Try.underlying3 Try.underlying5 (wrap_u8 (by omega) (by omega)) | exact h_conv rfl Try.underlying3 Try.underlying5 rfl) ?_
    refine s_p (by first | exact h_ix rfl rfl Try.underlying102 Try.sizeOf5 (by omega) | exact h_ixa rfl rfl Try.underlying102 Try.sizeOf5 (by omega) | exact h_ixl (Int.toNat _) rfl rfl (Int.toNat_of_nonneg (by omega)).symm Try.underlying102 Try.sizeOf5 (by omega)) ?_
    refine s_st (by first | exact m_store_int rfl rfl rfl rfl (by omega) (by (first | exact (p1_len _).1 | exact (p1_len _).2 | exact (p2_len _ _ _).1 | exact (p2_len _ _ _).2)) Try.sizeOf5 rfl | exact m_store_one rfl rfl (by simp) rfl rfl Try.sizeOf5 rfl) ?_
    refine s_p (by first | exact h_ix rfl rfl Try.underlying102 Try.sizeOf5 (by omega) | exact h_ixa rfl rfl Try.underlying102 Try.sizeOf5 (by omega) | exact h_ixl (Int.toNat _) rfl rfl (Int.toNat_of_nonneg (by omega)).symm Try.underlying102 Try.sizeOf5 (by omega)) ?_
    refine s_st (by first | exact m_store_int rfl rfl rfl rfl (by omega) (by (first | exact (p1_len _).1 | exact (p1_len _).2 | exact (p2_len _ _ _).1 | exact (p2_len _ _ _).2)) Try.sizeOf5 rfl | exact m_store_one rfl rfl (by simp) rfl rfl Try.sizeOf5 rfl) ?_
    refine s_nil ?_
    refine n_wp ?_
    refine c_reg (by kernel_rfl) rfl ?_
    refine s_p (by first | exact h_move (v := .s _) rfl | exact h_move (v := .agg _) rfl | exact h_move (v := .tup _) rfl) ?_
    refine s_p (by first | exact h_move (v := .s _) rfl | exact h_move (v := .agg _) rfl | exact h_move (v := .tup _) rfl) ?_
    refine s_p (h_call callable_70 rfl (twice_c _ _)) ?_
    refine s_p (h_bin rfl rfl (b_xor rfl)) ?_
    refine s_p (by first | exact h_assign (v := .s _) rfl | exact h_assign (v := .agg _) rfl | exact h_assign (v := .tup _) rfl) ?_
    refine s_nil ?_
    refine n_blo ?_
    refine n_wp ?_
    refine c_reg (by kernel_rfl) rfl ?_
    refine s_p (by first | exact h_bin rfl rfl (b_add (Go.IntWalk.i64_in _ (by omega))) | exact h_bin rfl rfl (b_add rfl)) ?_
    refine s_p (by first | exact h_move (v := .s _) rfl | exact h_move (v := .agg _) rfl | exact h_move (v := .tup _) rfl) ?_
    refine s_nil ?_
    exact n_round (255 - (k + 1)) (by omega) ⟨k + 1, by omega, rfl, rfl, rfl⟩ (weak' (by repeat (first | exact trivial | refine ⟨rfl, ?_⟩)) rfl rfl (Nat.le_of_ble_eq_true rfl))
  · skip
    obtain rfl : k = 255 := by have := of_decide_eq_false hc_t11; omega
    have hbox := boxes_eq
    have hlogs := logs_ok
    generalize p1 255 = q at *
    obtain ⟨qx, P, L⟩ := q
    dsimp only at *
    refine w_exit ?_
    refine x_thn ?_
    refine x_thn ?_
    refine x_eq ?_
    refine n_wp ?_
    refine w_seq ?_
    refine w_seq ?_
    refine c_reg (by kernel_rfl) rfl ?_
    refine s_p (by first | exact h_move (v := .s _) rfl | exact h_move (v := .agg _) rfl | exact h_move (v := .tup _) rfl) ?_
    refine s_nil ?_
    refine n_wp ?_
    refine w_block ?_
    refine c_loop (I69b P L) 256 ⟨0, by omega, rfl, rfl, rfl⟩ (weak' (by repeat (first | exact trivial | refine ⟨rfl, ?_⟩)) rfl rfl (Nat.le_of_ble_eq_true rfl)) ?_
    rintro n T H ⟨k, hk, rfl, rfl, rfl⟩
    refine w_seq ?_
    refine c_reg (by kernel_rfl) rfl ?_
    refine s_p (h_bin rfl rfl (b_lss rfl)) ?_
    refine s_nil ?_
    refine n_wp ?_
    refine w_seq ?_
    refine w_cond rfl (fun hc_t26 => ?_) (fun hc_t26 => ?_)
    · skip
      have hlt : k < 256 := by have := of_decide_eq_true hc_t26; omega
      have hl0 := (logsOk_at hlogs hlt).1
      have hl1 := (logsOk_at hlogs hlt).2
      refine w_skip ?_
      refine n_wp ?_
      refine w_seq ?_
      refine w_block ?_
      refine w_seq ?_
      refine c_reg (by kernel_rfl) rfl ?_
      refine s_p (by first | exact h_move (v := .s _) rfl | exact h_move (v := .agg _) rfl | exact h_move (v := .tup _) rfl) ?_
      refine s_p (by first | exact h_assign (v := .s _) rfl | exact h_assign (v := .agg _) rfl | exact h_assign (v := .tup _) rfl) ?_
      refine s_nil ?_
      refine n_wp ?_
      refine w_seq ?_
      refine c_reg (by kernel_rfl) rfl ?_
      refine s_p (by first | exact h_assign (v := .s _) rfl | exact h_assign (v := .agg _) rfl | exact h_assign (v := .tup _) rfl) ?_
      refine s_nil ?_
      refine n_wp ?_
      refine w_seq ?_
      refine w_seq ?_
      refine c_reg (by kernel_rfl) rfl ?_
      refine s_p (by first | exact h_move (v := .s _) rfl | exact h_move (v := .agg _) rfl | exact h_move (v := .tup _) rfl) ?_
      refine s_p (h_bin rfl rfl (b_gtr rfl)) ?_
      refine s_nil ?_
      refine n_wp ?_
      refine w_cut' (J69 P L k) ?_ ?_
      · skip
        refine w_cond rfl (fun hc_t29 => ?_) (fun hc_t29 => ?_)
        · skip
          have hk0 : 0 < k := by have := of_decide_eq_true hc_t29; omega
          have hy : P.getD ((255 - L.getD k 0) % 255).toNat 0 = boxY P L k := (if_pos hk0).symm
          refine c_reg (by kernel_rfl) rfl ?_
          refine s_p (by first | exact h_move (v := .s _) rfl | exact h_move (v := .agg _) rfl | exact h_move (v := .tup _) rfl) ?_
          refine s_p (by first | exact h_ix rfl rfl Try.underlying102 Try.sizeOf5 (by omega) | exact h_ixa rfl rfl Try.underlying102 Try.sizeOf5 (by omega) | exact h_ixl (Int.toNat _) rfl rfl (Int.toNat_of_nonneg (by omega)).symm Try.underlying102 Try.sizeOf5 (by omega)) ?_
          refine s_p (by first | exact h_load_ints rfl rfl rfl (by omega) rfl Try.isAgg5 | exact h_load_one rfl rfl rfl Try.isAgg5) ?_
          refine s_p (by first | exact h_conv rfl Try.underlying5 Try.underlying3 (Go.IntWalk.i64_in _ (by omega)) | exact h_conv rfl Try.underlying5 Try.underlying3 (wrap_u8 (by omega) (by omega)) | exact h_conv rfl Try.underlying5 Try.underlying3 rfl) ?_
          refine s_p (by first | exact h_bin rfl rfl (b_sub (Go.IntWalk.i64_in _ (by omega))) | exact h_bin rfl rfl (b_sub rfl)) ?_
          refine s_p (by first | exact h_bin rfl rfl (b_rem (by omega) (Int.tmod_eq_emod_of_nonneg (by omega))) | exact h_bin rfl rfl (b_rem (by omega) rfl)) ?_
          refine s_p (by first | exact h_ix rfl rfl Try.underlying102 Try.sizeOf5 (by omega) | exact h_ixa rfl rfl Try.underlying102 Try.sizeOf5 (by omega) | exact h_ixl (Int.toNat _) rfl rfl (Int.toNat_of_nonneg (by omega)).symm Try.underlying102 Try.sizeOf5 (by omega)) ?_
          refine s_p (by first | exact h_load_ints rfl rfl rfl (by omega) rfl Try.isAgg5 | exact h_load_one rfl rfl rfl Try.isAgg5) ?_
          refine s_p (by first | exact h_assign (v := .s _) rfl | exact h_assign (v := .agg _) rfl | exact h_assign (v := .tup _) rfl) ?_
          refine s_nil ?_
          exact n_cut ⟨_, hy, rfl, rfl⟩ (weak' (by repeat (first | exact trivial | refine ⟨rfl, ?_⟩)) rfl rfl (Nat.le_of_ble_eq_true rfl))
        · skip
          have hk0 : k = 0 := by have := of_decide_eq_false hc_t29; omega
          have hy : (0 : Int) = boxY P L k := by rw [hk0]; rfl
          refine w_skip ?_
          exact n_cut ⟨_, hy, rfl, rfl⟩ (weak' (by repeat (first | exact trivial | refine ⟨rfl, ?_⟩)) rfl rfl (Nat.le_of_ble_eq_true rfl))
      rintro T H ⟨_, rfl, rfl, rfl⟩
      refine w_seq ?_
      refine c_reg (by kernel_rfl) rfl ?_
      refine s_p (by first | exact h_assign (v := .s _) rfl | exact h_assign (v := .agg _) rfl | exact h_assign (v := .tup _) rfl) ?_
      refine s_nil ?_
      refine n_wp ?_
      refine w_seq ?_
      refine w_seq ?_
      refine c_reg (by kernel_rfl) rfl ?_
      refine s_p (by first | exact h_move (v := .s _) rfl | exact h_move (v := .agg _) rfl | exact h_move (v := .tup _) rfl) ?_
      refine s_nil ?_
      refine n_wp ?_
      refine w_block ?_
      refine c_loop (I69c P L k (boxY P L k)) 5 ⟨0, by omega, rfl, rfl, rfl⟩ (weak' (by repeat (first | exact trivial | refine ⟨rfl, ?_⟩)) rfl rfl (Nat.le_of_ble_eq_true rfl)) ?_
      rintro n T H ⟨m, hm, rfl, rfl, rfl⟩
      refine w_seq ?_
      refine c_reg (by kernel_rfl) rfl ?_
      refine s_p (h_bin rfl rfl (b_lss rfl)) ?_
      refine s_nil ?_
      refine n_wp ?_
      refine w_seq ?_
      refine w_cond rfl (fun hc_t39 => ?_) (fun hc_t39 => ?_)
      · skip
        have hlt2 : m < 5 := by have := of_decide_eq_true hc_t39; omega
        refine w_skip ?_
        refine n_wp ?_
        refine w_seq ?_
        refine w_block ?_
        refine w_seq ?_
        refine c_reg (by kernel_rfl) rfl ?_
        refine s_p (by first | exact h_move (v := .s _) rfl | exact h_move (v := .agg _) rfl | exact h_move (v := .tup _) rfl) ?_
        refine s_p (by first | exact h_assign (v := .s _) rfl | exact h_assign (v := .agg _) rfl | exact h_assign (v := .tup _) rfl) ?_
        refine s_nil ?_
        refine n_wp ?_
        refine c_any 9 mix (by kernel_rfl) (by kernel_rfl) rfl rfl rfl ?_
        refine t_p (by first | exact h_move (v := .s _) rfl | exact h_move (v := .agg _) rfl | exact h_move (v := .tup _) rfl) ?_
        refine t_p (by first | exact h_move (v := .s _) rfl | exact h_move (v := .agg _) rfl | exact h_move (v := .tup _) rfl) ?_
        refine t_p (by first | exact h_move (v := .s _) rfl | exact h_move (v := .agg _) rfl | exact h_move (v := .tup _) rfl) ?_
        refine t_p (h_bin rfl rfl (b_shl (by omega) rfl)) ?_
        refine t_p (by first | exact h_move (v := .s _) rfl | exact h_move (v := .agg _) rfl | exact h_move (v := .tup _) rfl) ?_
        refine t_p (by first | exact h_move (v := .s _) rfl | exact h_move (v := .agg _) rfl | exact h_move (v := .tup _) rfl) ?_
        refine t_p (by first | exact h_bin rfl rfl (b_sub (Go.IntWalk.i64_in _ (by omega))) | exact h_bin rfl rfl (b_sub rfl)) ?_
        refine t_p (h_bin rfl rfl (b_shr (by omega) rfl)) ?_
        refine t_p (h_bin rfl rfl (b_or rfl)) ?_
        refine t_nil ?_
        refine s_p (h_bin rfl rfl (b_xor rfl)) ?_
        refine s_p (by first | exact h_assign (v := .s _) rfl | exact h_assign (v := .agg _) rfl | exact h_assign (v := .tup _) rfl) ?_
        refine s_nil ?_
        refine n_blo ?_
        refine n_wp ?_
        refine c_reg (by kernel_rfl) rfl ?_
        refine s_p (by first | exact h_bin rfl rfl (b_add (Go.IntWalk.i64_in _ (by omega))) | exact h_bin rfl rfl (b_add rfl)) ?_
        refine s_p (by first | exact h_move (v := .s _) rfl | exact h_move (v := .agg _) rfl | exact h_move (v := .tup _) rfl) ?_
        refine s_nil ?_
        exact n_round (5 - (m + 1)) (by omega) ⟨m + 1, by omega, rfl, rfl, rfl⟩ (weak' (by repeat (first | exact trivial | refine ⟨rfl, ?_⟩)) rfl rfl (Nat.le_of_ble_eq_true rfl))
      · skip
        obtain rfl : m = 5 := by have := of_decide_eq_false hc_t39; omega
        have ho0 := (boxO_range (boxY P L k) 5).1
        have ho1 := (boxO_range (boxY P L k) 5).2
        have hp2 : p2 P L (k + 1) = ((p2 P L k).1.set k (boxO (boxY P L k) 5), (p2 P L k).2.set (boxO (boxY P L k) 5).toNat k) := rfl
        generalize boxO (boxY P L k) 5 = ov at *
        refine w_exit ?_
        refine x_thn ?_
        refine x_thn ?_
        refine x_eq ?_
        refine n_wp ?_
        refine c_reg (by kernel_rfl) rfl ?_
        refine s_p (by first | exact h_move (v := .s _) rfl | exact h_move (v := .agg _) rfl | exact h_move (v := .tup _) rfl) ?_
        refine s_p (by first | exact h_move (v := .s _) rfl | exact h_move (v := .agg _) rfl | exact h_move (v := .tup _) rfl) ?_
        refine s_p (by first | exact h_move (v := .s _) rfl | exact h_move (v := .agg _) rfl | exact h_move (v := .tup _) rfl) ?_
        refine s_p (by first | exact h_move (v := .s _) rfl | exact h_move (v := .agg _) rfl | exact h_move (v := .tup _) rfl) ?_
        refine s_p (by first | exact h_conv rfl Try.underlying3 Try.underlying5 (Go.IntWalk.i64_in _ (by omega)) | exact h_conv rfl Try.underlying3 Try.underlying5 (wrap_u8 (by omega) (by omega)) | exact h_conv rfl Try.underlying3 Try.underlying5 rfl) ?_
        refine s_p (by first | exact h_ix rfl rfl Try.underlying102 Try.sizeOf5 (by omega) | exact h_ixa rfl rfl Try.underlying102 Try.sizeOf5 (by omega) | exact h_ixl (Int.toNat _) rfl rfl (Int.toNat_of_nonneg (by omega)).symm Try.underlying102 Try.sizeOf5 (by omega)) ?_
        refine s_st (by first | exact m_store_int rfl rfl rfl rfl (by omega) (by (first | exact (p1_len _).1 | exact (p1_len _).2 | exact (p2_len _ _ _).1 | exact (p2_len _ _ _).2)) Try.sizeOf5 rfl | exact m_store_one rfl rfl (by simp) rfl rfl Try.sizeOf5 rfl) ?_
        refine s_p (by first | exact h_ix rfl rfl Try.underlying102 Try.sizeOf5 (by omega) | exact h_ixa rfl rfl Try.underlying102 Try.sizeOf5 (by omega) | exact h_ixl (Int.toNat _) rfl rfl (Int.toNat_of_nonneg (by omega)).symm Try.underlying102 Try.sizeOf5 (by omega)) ?_
        refine s_st (by first | exact m_store_int rfl rfl rfl rfl (by omega) (by (first | exact (p1_len _).1 | exact (p1_len _).2 | exact (p2_len _ _ _).1 | exact (p2_len _ _ _).2)) Try.sizeOf5 rfl | exact m_store_one rfl rfl (by simp) rfl rfl Try.sizeOf5 rfl) ?_
        refine s_nil ?_
        refine n_blo ?_
        refine n_wp ?_
        refine c_reg (by kernel_rfl) rfl ?_
        refine s_p (by first | exact h_bin rfl rfl (b_add (Go.IntWalk.i64_in _ (by omega))) | exact h_bin rfl rfl (b_add rfl)) ?_
        refine s_p (by first | exact h_move (v := .s _) rfl | exact h_move (v := .agg _) rfl | exact h_move (v := .tup _) rfl) ?_
        refine s_nil ?_
        exact n_round (256 - (k + 1)) (by omega) ⟨k + 1, by omega, rfl, rfl, by rw [hp2]⟩ (weak' (by repeat (first | exact trivial | refine ⟨rfl, ?_⟩)) rfl rfl (Nat.le_of_ble_eq_true rfl))
    · skip
      obtain rfl : k = 256 := by have := of_decide_eq_false hc_t26; omega
      rw [← show (p2 P L 256).1 = SB from by rw [hbox], ← show (p2 P L 256).2 = BK from by rw [hbox]]
      generalize p2 P L 256 = y
      refine w_exit ?_
      refine x_thn ?_
      refine x_thn ?_
      refine x_eq ?_
      refine n_wp ?_
      refine w_seq ?_
      refine c_all mix rfl ?_
      have fin : ∀ (T : Tm) (H : Heap), (Ab.look T 0 = .s (.ptr 0 0 0) ∧ Ab.look T 1 = .s (.ptr 1 0 0) ∧ H[0]? = some (some ⟨true, [.ints .u8 256 y.1]⟩) ∧ H[1]? = some (some ⟨true, [.ints .u8 256 y.2]⟩)) → Wp (E0 Try.prog 62 W w hW) .ret T H (DoneF (E0 Try.prog 62 W w hW) Try.f69 (.tup [.agg [.ints .u8 256 y.1], .agg [.ints .u8 256 y.2]])) := fun T H hh => w_ret ⟨.inl rfl, ret_cells2 Try.results69 hh.1 hh.2.2.1 (.whole rfl) Try.isAgg102 Try.sizeOf102 hh.2.1 hh.2.2.2 (.whole rfl) Try.isAgg102 Try.sizeOf102⟩
      refine ak_two (i := 0) (j := 1) (by kernel_rfl) (ak_op rfl (by kernel_rfl) rfl (HOk.m0 (h_load_agg rfl rfl (.whole rfl) Try.isAgg102 Try.sizeOf102)) ?_) (ak_op rfl (by kernel_rfl) rfl (HOk.m0 (h_load_agg rfl rfl (.whole rfl) Try.isAgg102 Try.sizeOf102)) ?_)
      · refine ak_two (i := 1) (j := 2) (by kernel_rfl) (ak_op rfl (by kernel_rfl) rfl (HOk.m0 (h_load_agg rfl rfl (.whole rfl) Try.isAgg102 Try.sizeOf102)) ?_) (ak_op rfl (by kernel_rfl) rfl (m_store_agg rfl rfl rfl (.whole (Nat.le_of_ble_eq_true rfl) rfl rfl) Try.sizeOf102 rfl) ?_)
        · exact ak_one (i := 2) (by kernel_rfl) (ak_op rfl (by kernel_rfl) rfl (m_store_agg rfl rfl rfl (.whole (Nat.le_of_ble_eq_true rfl) rfl rfl) Try.sizeOf102 rfl) (ak_one (i := 3) (by kernel_rfl) (ak_op rfl (by kernel_rfl) rfl (m_store_agg rfl rfl rfl (.whole (Nat.le_of_ble_eq_true rfl) rfl rfl) Try.sizeOf102 rfl) (ak_done (by kernel_rfl) (n_wp (fin _ _ ⟨rfl, rfl, rfl, rfl⟩))))))
        · exact ak_one (i := 1) (by kernel_rfl) (ak_op rfl (by kernel_rfl) rfl (HOk.m0 (h_load_agg rfl rfl (.whole rfl) Try.isAgg102 Try.sizeOf102)) (ak_one (i := 3) (by kernel_rfl) (ak_op rfl (by kernel_rfl) rfl (m_store_agg rfl rfl rfl (.whole (Nat.le_of_ble_eq_true rfl) rfl rfl) Try.sizeOf102 rfl) (ak_done (by kernel_rfl) (n_wp (fin _ _ ⟨rfl, rfl, rfl, rfl⟩))))))
      · exact ak_one (i := 0) (by kernel_rfl) (ak_op rfl (by kernel_rfl) rfl (HOk.m0 (h_load_agg rfl rfl (.whole rfl) Try.isAgg102 Try.sizeOf102)) (ak_one (i := 2) (by kernel_rfl) (ak_op rfl (by kernel_rfl) rfl (m_store_agg rfl rfl rfl (.whole (Nat.le_of_ble_eq_true rfl) rfl rfl) Try.sizeOf102 rfl) (ak_one (i := 3) (by kernel_rfl) (ak_op rfl (by kernel_rfl) rfl (m_store_agg rfl rfl rfl (.whole (Nat.le_of_ble_eq_true rfl) rfl rfl) Try.sizeOf102 rfl) (ak_done (by kernel_rfl) (n_wp (fin _ _ ⟨rfl, rfl, rfl, rfl⟩))))))))
      done -- STOP

end Go.Proofs.X
