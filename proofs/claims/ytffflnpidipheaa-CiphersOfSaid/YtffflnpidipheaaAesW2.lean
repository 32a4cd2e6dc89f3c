/- A part of the proofs of this claim: AesW2. No conditions. -/
import Derived.Test.YtffflnpidipheaaAesW1
open Go Go.Ab Go.Proofs
namespace Go.Proofs.X
def I73 (b : List Int) (n : Nat) (T : Tm) (H : Heap) : Prop := ∃ j : Nat, j ≤ 4 ∧ n = 4 - j ∧
  T = [(1, .s (.ptr 0 0 0)), (2, .s (.ptr 1 0 0)), (3, .s (.int .i64 ((4 * j : Nat) : Int)))] ∧ H = [some ⟨true, [.ints .u8 16 (mixN b j)]⟩, some ⟨true, [.ints .u8 16 (z 16)]⟩]
def I73b (b : List Int) (j : Nat) (all first : Int) (n : Nat) (T : Tm) (H : Heap) : Prop := ∃ i : Nat, i ≤ 4 ∧ n = 4 - i ∧
  T = [(1, .s (.ptr 0 0 0)), (2, .s (.ptr 1 0 0)), (3, .s (.int .i64 ((4 * j : Nat) : Int))), (4, .s (.int .u8 all)), (5, .s (.int .u8 first)), (33, .s (.int .i64 i))] ∧
  H = [some ⟨true, [.ints .u8 16 (mixR b (4 * j) all first i)]⟩, some ⟨true, [.ints .u8 16 (z 16)]⟩]
def J73 (b : List Int) (j : Nat) (all first : Int) (i : Nat) (T : Tm) (H : Heap) : Prop := ∃ y, y = (if i < 3 then (mixR b (4 * j) all first i).getD (4 * j + i + 1) 0 else first) ∧
  T = [(1, .s (.ptr 0 0 0)), (2, .s (.ptr 1 0 0)), (3, .s (.int .i64 ((4 * j : Nat) : Int))), (4, .s (.int .u8 all)), (5, .s (.int .u8 first)), (33, .s (.int .i64 i)), (6, .s (.int .i64 i)), (7, .s (.int .u8 y))] ∧
  H = [some ⟨true, [.ints .u8 16 (mixR b (4 * j) all first i)]⟩, some ⟨true, [.ints .u8 16 (z 16)]⟩]
theorem mixR_s (b : List Int) (k : Nat) (all first : Int) (i : Nat) : mixR b k all first (i + 1) = (mixR b k all first i).set (k + i) (xorK .u8 ((mixR b k all first i).getD (k + i) 0) (xorK .u8 all (twiceI (xorK .u8 ((mixR b k all first i).getD (k + i) 0) (if i < 3 then (mixR b k all first i).getD (k + i + 1) 0 else first))))) := rfl
set_option maxRecDepth 100000 in
set_option maxHeartbeats 1000000 in
theorem mixed_c (b : List Int) (hb : b.length = 16) (H : Heap) : ACall Try.prog 73 H [.agg [.ints .u8 16 b]] (.agg [.ints .u8 16 (mixI b)]) [] := by
  refine acall_free Try.func73 rfl Try.ntmps73 (by simp) rfl rfl (fun W w hW => ?_) H
  refine w_seq ?_
  refine c_reg (by kernel_rfl) rfl ?_
  refine s_a (by first | exact h_box_agg rfl rfl | exact h_box rfl (by simp) rfl) rfl ?_
  refine s_a (h_alloc (segs := [.ints .u8 16 (z 16)]) Try.zeroValue22 (by kernel_rfl) rfl) rfl ?_
  refine s_nil ?_
  refine n_wp ?_
  refine w_seq ?_
  refine w_seq ?_
  refine c_reg (by kernel_rfl) rfl ?_
  refine s_p (by first | exact h_assign (v := .s _) rfl | exact h_assign (v := .agg _) rfl | exact h_assign (v := .tup _) rfl) ?_
  refine s_nil ?_
  refine n_wp ?_
  refine w_block ?_
  refine c_loop (I73 b) 4 ⟨0, by omega, rfl, rfl, rfl⟩ (weak' (by repeat (first | exact trivial | refine ⟨rfl, ?_⟩)) rfl rfl (Nat.le_of_ble_eq_true rfl)) ?_
  rintro n T H ⟨j, hj, rfl, rfl, rfl⟩
  refine w_seq ?_
  refine w_seq ?_
  refine c_reg (by kernel_rfl) rfl ?_
  refine s_p (by first | exact h_move (v := .s _) rfl | exact h_move (v := .agg _) rfl | exact h_move (v := .tup _) rfl) ?_
  refine s_p (h_bin rfl rfl (b_lss rfl)) ?_
  refine s_nil ?_
  refine n_wp ?_
  refine w_cond rfl (fun hc_t9 => ?_) (fun hc_t9 => ?_)
  · skip
    have hlt : j < 4 := by have := of_decide_eq_true hc_t9; omega
    refine w_skip ?_
    refine n_wp ?_
    refine w_seq ?_
    refine w_block ?_
    refine w_seq ?_
    refine c_any 17 mix (by kernel_rfl) (by kernel_rfl) rfl rfl rfl ?_
    refine t_p (by first | exact h_move (v := .s _) rfl | exact h_move (v := .agg _) rfl | exact h_move (v := .tup _) rfl) ?_
    refine t_p (by first | exact h_ix rfl rfl Try.underlying22 Try.sizeOf5 (by omega) | exact h_ixa rfl rfl Try.underlying22 Try.sizeOf5 (by omega) | exact h_ixl (Int.toNat _) rfl rfl (Int.toNat_of_nonneg (by omega)).symm Try.underlying22 Try.sizeOf5 (by omega)) ?_
    refine t_p (by first | exact h_load_ints rfl rfl rfl (by omega) rfl Try.isAgg5 | exact h_load_one rfl rfl rfl Try.isAgg5) ?_
    refine t_p (by first | exact h_move (v := .s _) rfl | exact h_move (v := .agg _) rfl | exact h_move (v := .tup _) rfl) ?_
    refine t_p (by first | exact h_bin rfl rfl (b_add (Go.IntWalk.i64_in _ (by omega))) | exact h_bin rfl rfl (b_add rfl)) ?_
    refine t_p (h_ixl (4 * j + 1) rfl rfl (by omega) Try.underlying22 Try.sizeOf5 (by omega)) ?_
    refine t_p (by first | exact h_load_ints rfl rfl rfl (by omega) rfl Try.isAgg5 | exact h_load_one rfl rfl rfl Try.isAgg5) ?_
    refine t_p (h_bin rfl rfl (b_xor rfl)) ?_
    refine t_p (by first | exact h_move (v := .s _) rfl | exact h_move (v := .agg _) rfl | exact h_move (v := .tup _) rfl) ?_
    refine t_p (by first | exact h_bin rfl rfl (b_add (Go.IntWalk.i64_in _ (by omega))) | exact h_bin rfl rfl (b_add rfl)) ?_
    refine t_p (h_ixl (4 * j + 2) rfl rfl (by omega) Try.underlying22 Try.sizeOf5 (by omega)) ?_
    refine t_p (by first | exact h_load_ints rfl rfl rfl (by omega) rfl Try.isAgg5 | exact h_load_one rfl rfl rfl Try.isAgg5) ?_
    refine t_p (h_bin rfl rfl (b_xor rfl)) ?_
    refine t_p (by first | exact h_move (v := .s _) rfl | exact h_move (v := .agg _) rfl | exact h_move (v := .tup _) rfl) ?_
    refine t_p (by first | exact h_bin rfl rfl (b_add (Go.IntWalk.i64_in _ (by omega))) | exact h_bin rfl rfl (b_add rfl)) ?_
    refine t_p (h_ixl (4 * j + 3) rfl rfl (by omega) Try.underlying22 Try.sizeOf5 (by omega)) ?_
    refine t_p (by first | exact h_load_ints rfl rfl rfl (by omega) rfl Try.isAgg5 | exact h_load_one rfl rfl rfl Try.isAgg5) ?_
    refine t_nil ?_
    refine s_p (h_bin rfl rfl (b_xor rfl)) ?_
    refine s_p (by first | exact h_assign (v := .s _) rfl | exact h_assign (v := .agg _) rfl | exact h_assign (v := .tup _) rfl) ?_
    refine s_nil ?_
    refine n_wp ?_
    refine w_seq ?_
    refine c_reg (by kernel_rfl) rfl ?_
    refine s_p (by first | exact h_move (v := .s _) rfl | exact h_move (v := .agg _) rfl | exact h_move (v := .tup _) rfl) ?_
    refine s_p (by first | exact h_ix rfl rfl Try.underlying22 Try.sizeOf5 (by omega) | exact h_ixa rfl rfl Try.underlying22 Try.sizeOf5 (by omega) | exact h_ixl (Int.toNat _) rfl rfl (Int.toNat_of_nonneg (by omega)).symm Try.underlying22 Try.sizeOf5 (by omega)) ?_
    refine s_p (by first | exact h_load_ints rfl rfl rfl (by omega) rfl Try.isAgg5 | exact h_load_one rfl rfl rfl Try.isAgg5) ?_
    refine s_p (by first | exact h_assign (v := .s _) rfl | exact h_assign (v := .agg _) rfl | exact h_assign (v := .tup _) rfl) ?_
    refine s_nil ?_
    refine n_wp ?_
    refine w_seq ?_
    generalize hall : xorK .u8 (xorK .u8 (xorK .u8 ((mixN b j).getD (4 * j) 0) ((mixN b j).getD (4 * j + 1) 0)) ((mixN b j).getD (4 * j + 2) 0)) ((mixN b j).getD (4 * j + 3) 0) = all
    generalize hfirst : (mixN b j).getD (4 * j) 0 = first at *
    refine c_reg (by kernel_rfl) rfl ?_
    refine s_p (by first | exact h_move (v := .s _) rfl | exact h_move (v := .agg _) rfl | exact h_move (v := .tup _) rfl) ?_
    refine s_nil ?_
    refine n_wp ?_
    refine w_block ?_
    refine c_loop (I73b (mixN b j) j all first) 4 ⟨0, by omega, rfl, rfl, rfl⟩ (weak' (by repeat (first | exact trivial | refine ⟨rfl, ?_⟩)) rfl rfl (Nat.le_of_ble_eq_true rfl)) ?_
    rintro n T H ⟨i, hi, rfl, rfl, rfl⟩
    refine w_seq ?_
    refine c_reg (by kernel_rfl) rfl ?_
    refine s_p (h_bin rfl rfl (b_lss rfl)) ?_
    refine s_nil ?_
    refine n_wp ?_
    refine w_seq ?_
    refine w_cond rfl (fun hc_t34 => ?_) (fun hc_t34 => ?_)
    · skip
      have hlt2 : i < 4 := by have := of_decide_eq_true hc_t34; omega
      refine w_skip ?_
      refine n_wp ?_
      refine w_seq ?_
      refine w_block ?_
      refine w_seq ?_
      refine c_reg (by kernel_rfl) rfl ?_
      refine s_p (by first | exact h_move (v := .s _) rfl | exact h_move (v := .agg _) rfl | exact h_move (v := .tup _) rfl) ?_
      refine s_p (by first | exact h_assign (v := .s _) rfl | exact h_assign (v := .agg _) rfl | exact h_assign (v := .tup _) rfl) ?_
      refine s_nil ?_
      refine n_wp ?_
      refine w_seq ?_
      refine c_reg (by kernel_rfl) rfl ?_
      refine s_p (by first | exact h_move (v := .s _) rfl | exact h_move (v := .agg _) rfl | exact h_move (v := .tup _) rfl) ?_
      refine s_p (by first | exact h_assign (v := .s _) rfl | exact h_assign (v := .agg _) rfl | exact h_assign (v := .tup _) rfl) ?_
      refine s_nil ?_
      refine n_wp ?_
      refine w_seq ?_
      refine w_seq ?_
      refine c_reg (by kernel_rfl) rfl ?_
      refine s_p (by first | exact h_move (v := .s _) rfl | exact h_move (v := .agg _) rfl | exact h_move (v := .tup _) rfl) ?_
      refine s_p (h_bin rfl rfl (b_lss rfl)) ?_
      refine s_nil ?_
      refine n_wp ?_
      refine w_cut' (J73 (mixN b j) j all first i) ?_ ?_
      · skip
        refine w_cond rfl (fun hc_t38 => ?_) (fun hc_t38 => ?_)
        · skip
          have hi3 : i < 3 := by have := of_decide_eq_true hc_t38; omega
          have hy := (if_pos hi3 : (if i < 3 then (mixR (mixN b j) (4 * j) all first i).getD (4 * j + i + 1) 0 else first) = _).symm
          refine c_reg (by kernel_rfl) rfl ?_
          refine s_p (by first | exact h_move (v := .s _) rfl | exact h_move (v := .agg _) rfl | exact h_move (v := .tup _) rfl) ?_
          refine s_p (by first | exact h_move (v := .s _) rfl | exact h_move (v := .agg _) rfl | exact h_move (v := .tup _) rfl) ?_
          refine s_p (by first | exact h_bin rfl rfl (b_add (Go.IntWalk.i64_in _ (by omega))) | exact h_bin rfl rfl (b_add rfl)) ?_
          refine s_p (by first | exact h_bin rfl rfl (b_add (Go.IntWalk.i64_in _ (by omega))) | exact h_bin rfl rfl (b_add rfl)) ?_
          refine s_p (h_ixl (4 * j + i + 1) rfl rfl (by omega) Try.underlying22 Try.sizeOf5 (by omega)) ?_
          refine s_p (by first | exact h_load_ints rfl rfl rfl (by omega) rfl Try.isAgg5 | exact h_load_one rfl rfl rfl Try.isAgg5) ?_
          refine s_p (by first | exact h_assign (v := .s _) rfl | exact h_assign (v := .agg _) rfl | exact h_assign (v := .tup _) rfl) ?_
          refine s_nil ?_
          exact n_cut ⟨_, hy, rfl, rfl⟩ (weak' (by repeat (first | exact trivial | refine ⟨rfl, ?_⟩)) rfl rfl (Nat.le_of_ble_eq_true rfl))
        · skip
          have hi3 : ¬ i < 3 := by have := of_decide_eq_false hc_t38; omega
          have hy := (if_neg hi3 : (if i < 3 then (mixR (mixN b j) (4 * j) all first i).getD (4 * j + i + 1) 0 else first) = _).symm
          refine w_skip ?_
          exact n_cut ⟨_, hy, rfl, rfl⟩ (weak' (by repeat (first | exact trivial | refine ⟨rfl, ?_⟩)) rfl rfl (Nat.le_of_ble_eq_true rfl))
      rintro T H ⟨y, hy, rfl, rfl⟩
      refine c_any 15 mix (by kernel_rfl) (by kernel_rfl) rfl rfl rfl ?_
      refine t_p (by first | exact h_move (v := .s _) rfl | exact h_move (v := .agg _) rfl | exact h_move (v := .tup _) rfl) ?_
      refine t_p (by first | exact h_move (v := .s _) rfl | exact h_move (v := .agg _) rfl | exact h_move (v := .tup _) rfl) ?_
      refine t_p (by first | exact h_bin rfl rfl (b_add (Go.IntWalk.i64_in _ (by omega))) | exact h_bin rfl rfl (b_add rfl)) ?_
      refine t_p (h_ixl (4 * j + i) rfl rfl (by omega) Try.underlying22 Try.sizeOf5 (by omega)) ?_
      refine t_p (by first | exact h_load_ints rfl rfl rfl (by omega) rfl Try.isAgg5 | exact h_load_one rfl rfl rfl Try.isAgg5) ?_
      refine t_p (by first | exact h_move (v := .s _) rfl | exact h_move (v := .agg _) rfl | exact h_move (v := .tup _) rfl) ?_
      refine t_p (by first | exact h_move (v := .s _) rfl | exact h_move (v := .agg _) rfl | exact h_move (v := .tup _) rfl) ?_
      refine t_p (by first | exact h_move (v := .s _) rfl | exact h_move (v := .agg _) rfl | exact h_move (v := .tup _) rfl) ?_
      refine t_p (by first | exact h_bin rfl rfl (b_add (Go.IntWalk.i64_in _ (by omega))) | exact h_bin rfl rfl (b_add rfl)) ?_
      refine t_p (h_ixl (4 * j + i) rfl rfl (by omega) Try.underlying22 Try.sizeOf5 (by omega)) ?_
      refine t_p (by first | exact h_load_ints rfl rfl rfl (by omega) rfl Try.isAgg5 | exact h_load_one rfl rfl rfl Try.isAgg5) ?_
      refine t_p (by first | exact h_move (v := .s _) rfl | exact h_move (v := .agg _) rfl | exact h_move (v := .tup _) rfl) ?_
      refine t_p (h_bin rfl rfl (b_xor rfl)) ?_
      refine t_p (h_call callable_70 rfl (twice_c _ _)) ?_
      refine t_p (h_bin rfl rfl (b_xor rfl)) ?_
      refine t_nil ?_
      refine s_p (h_bin rfl rfl (b_xor rfl)) ?_
      refine s_p (h_ixl (4 * j + i) rfl rfl (by omega) Try.underlying22 Try.sizeOf5 (by omega)) ?_
      refine s_st (by first | exact m_store_int rfl rfl rfl rfl (by omega) (by (first | (rw [mixR_len, mixN_len, hb]) | (rw [mixN_len, hb]))) Try.sizeOf5 rfl | exact m_store_one rfl rfl (by simp) rfl rfl Try.sizeOf5 rfl) ?_
      refine s_nil ?_
      refine n_blo ?_
      refine n_wp ?_
      refine c_reg (by kernel_rfl) rfl ?_
      refine s_p (by first | exact h_bin rfl rfl (b_add (Go.IntWalk.i64_in _ (by omega))) | exact h_bin rfl rfl (b_add rfl)) ?_
      refine s_p (by first | exact h_move (v := .s _) rfl | exact h_move (v := .agg _) rfl | exact h_move (v := .tup _) rfl) ?_
      refine s_nil ?_
      exact n_round (4 - (i + 1)) (by omega) ⟨i + 1, by omega, rfl, rfl, by rw [mixR_s, ← hy]⟩ (weak' (by repeat (first | exact trivial | refine ⟨rfl, ?_⟩)) rfl rfl (Nat.le_of_ble_eq_true rfl))
    · skip
      obtain rfl : i = 4 := by have := of_decide_eq_false hc_t34; omega
      have hm : mixN b (j + 1) = mixR (mixN b j) (4 * j) all first 4 := by rw [← hall, ← hfirst]; rfl
      generalize mixR (mixN b j) (4 * j) all first 4 = q at *
      refine w_exit ?_
      refine x_thn ?_
      refine x_thn ?_
      refine x_eq ?_
      refine n_blo ?_
      refine n_wp ?_
      refine c_reg (by kernel_rfl) rfl ?_
      refine s_p (by first | exact h_move (v := .s _) rfl | exact h_move (v := .agg _) rfl | exact h_move (v := .tup _) rfl) ?_
      refine s_p (by first | exact h_bin rfl rfl (b_add (Go.IntWalk.i64_in _ (by omega))) | exact h_bin rfl rfl (b_add rfl)) ?_
      refine s_p (by first | exact h_assign (v := .s _) rfl | exact h_assign (v := .agg _) rfl | exact h_assign (v := .tup _) rfl) ?_
      refine s_nil ?_
      exact n_round (4 - (j + 1)) (by omega) ⟨j + 1, by omega, rfl, rfl, by rw [hm]⟩ (weak' (by repeat (first | exact trivial | refine ⟨rfl, ?_⟩)) rfl rfl (Nat.le_of_ble_eq_true rfl))
  · skip
    obtain rfl : j = 4 := by have := of_decide_eq_false hc_t9; omega
    unfold mixI
    generalize mixN b 4 = y
    refine w_exit ?_
    refine x_thn ?_
    refine x_thn ?_
    refine x_eq ?_
    refine n_wp ?_
    refine w_seq ?_
    refine c_reg (by kernel_rfl) rfl ?_
    refine s_p (by first | exact h_load_agg rfl rfl (.whole rfl) Try.isAgg22 Try.sizeOf22 | exact h_load_agg rfl rfl (.seg rfl rfl) Try.isAgg22 Try.sizeOf22 | exact h_load_agg rfl rfl (.ints rfl (by omega)) Try.isAgg22 Try.sizeOf22) ?_
    refine s_st (by first | exact m_store_agg rfl rfl rfl (.whole (Nat.le_of_ble_eq_true rfl) rfl rfl) Try.sizeOf22 rfl | exact m_store_agg rfl rfl rfl (.seg (Nat.le_of_ble_eq_true rfl) rfl rfl rfl) Try.sizeOf22 rfl | exact m_store_agg rfl rfl rfl (.ints (Nat.le_of_ble_eq_true rfl) rfl (by omega)) Try.sizeOf22 rfl) ?_
    refine s_nil ?_
    refine n_wp ?_
    refine w_ret ?_
    exact ⟨.inl rfl, ret_cell_agg Try.results73 rfl rfl (.whole rfl) Try.isAgg22 Try.sizeOf22⟩

end Go.Proofs.X
