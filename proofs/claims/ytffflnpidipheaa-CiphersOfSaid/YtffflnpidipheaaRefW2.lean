/- A part of the proofs of this claim: RefW2. No conditions. -/
import Derived.Test.YtffflnpidipheaaRefW1
open Go Go.Ab Go.Proofs
namespace Go.Proofs.X
def I51 (key : List Int) (n : Nat) (T : Tm) (H : Heap) : Prop := ∃ i : Nat, i ≤ 44 ∧ n = 44 - i ∧
  T = [(2, .s (.ptr 0 0 0)), (3, .s (.ptr 1 0 0)), (4, .s (.ptr 2 0 0)), (5, .s (.ptr 3 0 0)), (6, .s (.int .u8 (rows SB key i).1)), (7, .s (.int .i64 i))] ∧ H = [some ⟨true, [.ints .u8 16 key]⟩, some ⟨true, [.ints .u8 256 SB]⟩, some ⟨true, [.ints .u8 176 (z 176)]⟩, some ⟨true, [.ints .u8 176 (rows SB key i).2]⟩]
def J51 (key : List Int) (q : Int × List Int) (j : Nat) (T : Tm) (H : Heap) : Prop := ∃ (b : Int) (x : List Int), (b, x) = rxx SB q.2 j q.1 ∧
  T = [(2, .s (.ptr 0 0 0)), (3, .s (.ptr 1 0 0)), (4, .s (.ptr 2 0 0)), (5, .s (.ptr 3 0 0)), (6, .s (.int .u8 b)), (7, .s (.int .i64 ((j + 4 : Nat) : Int))), (8, .s (.ptr 4 0 0))] ∧ H = [some ⟨true, [.ints .u8 16 key]⟩, some ⟨true, [.ints .u8 256 SB]⟩, some ⟨true, [.ints .u8 176 (z 176)]⟩, some ⟨true, [.ints .u8 176 q.2]⟩, some ⟨true, [.ints .u8 4 x]⟩]
def I51b (key : List Int) (q : Int × List Int) (b : Int) (x : List Int) (j : Nat) (n : Nat) (T : Tm) (H : Heap) : Prop := ∃ k : Nat, k ≤ 4 ∧ n = 4 - k ∧
  T = [(2, .s (.ptr 0 0 0)), (3, .s (.ptr 1 0 0)), (4, .s (.ptr 2 0 0)), (5, .s (.ptr 3 0 0)), (6, .s (.int .u8 b)), (7, .s (.int .i64 ((j + 4 : Nat) : Int))), (8, .s (.ptr 4 0 0)), (9, .s (.int .i64 k))] ∧ H = [some ⟨true, [.ints .u8 16 key]⟩, some ⟨true, [.ints .u8 256 SB]⟩, some ⟨true, [.ints .u8 176 (z 176)]⟩, some ⟨true, [.ints .u8 176 (rkS q.2 x j k)]⟩, some ⟨true, [.ints .u8 4 x]⟩]
set_option maxRecDepth 100000 in
set_option maxHeartbeats 2000000 in
theorem words_c (key : List Int) (hk : key.length = 16) (huk : U8 key) (H : Heap) : ACall Try.prog 51 H [.agg [.ints .u8 16 key], .agg [.ints .u8 256 SB]] (.agg [.ints .u8 176 (keysOf key)]) [] := by
  refine acall_free Try.func51 rfl Try.ntmps51 (by simp) rfl rfl (fun W w hW => ?_) H
  refine w_seq ?_
  refine c_reg (by kernel_rfl) rfl ?_
  refine s_a (by first | exact h_box_agg rfl rfl | exact h_box rfl (by simp) rfl) rfl ?_
  refine s_a (by first | exact h_box_agg rfl rfl | exact h_box rfl (by simp) rfl) rfl ?_
  refine s_a (h_alloc (segs := [.ints .u8 176 (z 176)]) Try.zeroValue109 (by kernel_rfl) rfl) rfl ?_
  refine s_nil ?_
  refine n_wp ?_
  refine w_seq ?_
  refine c_reg (by kernel_rfl) rfl ?_
  refine s_a (h_alloc (segs := [.ints .u8 176 (z 176)]) Try.zeroValue109 (by kernel_rfl) rfl) rfl ?_
  refine s_nil ?_
  refine n_wp ?_
  refine w_seq ?_
  refine c_reg (by kernel_rfl) rfl ?_
  refine s_p (by first | exact h_assign (v := .s _) rfl | exact h_assign (v := .agg _) rfl | exact h_assign (v := .tup _) rfl) ?_
  refine s_nil ?_
  refine n_wp ?_
  refine w_seq ?_
  refine w_seq ?_
  refine c_reg (by kernel_rfl) rfl ?_
  refine s_p (by first | exact h_assign (v := .s _) rfl | exact h_assign (v := .agg _) rfl | exact h_assign (v := .tup _) rfl) ?_
  refine s_nil ?_
  refine n_wp ?_
  refine w_block ?_
  refine c_loop (I51 key) 44 ⟨0, by omega, rfl, rfl, rfl⟩ (weak' (by repeat (first | exact trivial | refine ⟨rfl, ?_⟩)) rfl rfl (Nat.le_of_ble_eq_true rfl)) ?_
  rintro n T H ⟨i, hi, rfl, rfl, rfl⟩
  refine w_seq ?_
  refine w_seq ?_
  refine c_reg (by kernel_rfl) rfl ?_
  refine s_p (by first | exact h_move (v := .s _) rfl | exact h_move (v := .agg _) rfl | exact h_move (v := .tup _) rfl) ?_
  refine s_p (h_bin rfl rfl (b_lss rfl)) ?_
  refine s_nil ?_
  refine n_wp ?_
  refine w_cond rfl (fun hc_t11 => ?_) (fun hc_t11 => ?_)
  · skip
    have hlt : i < 44 := by have := of_decide_eq_true hc_t11; omega
    refine w_skip ?_
    refine n_wp ?_
    refine w_seq ?_
    refine w_block ?_
    refine w_seq ?_
    refine w_seq ?_
    refine c_reg (by kernel_rfl) rfl ?_
    refine s_p (by first | exact h_move (v := .s _) rfl | exact h_move (v := .agg _) rfl | exact h_move (v := .tup _) rfl) ?_
    refine s_p (h_bin rfl rfl (b_lss rfl)) ?_
    refine s_nil ?_
    refine n_wp ?_
    refine w_cond rfl (fun hc_t15 => ?_) (fun hc_t15 => ?_)
    · skip
      have hi4 : i < 4 := by have := of_decide_eq_true hc_t15; omega
      have hrs1 := rows_s1 SB key i hi4
      unfold rkey at hrs1
      refine w_seq ?_
      refine c_any 21 mix (by kernel_rfl) (by kernel_rfl) rfl rfl rfl ?_
      refine t_p (by first | exact h_move (v := .s _) rfl | exact h_move (v := .agg _) rfl | exact h_move (v := .tup _) rfl) ?_
      refine t_p (by first | exact h_move (v := .s _) rfl | exact h_move (v := .agg _) rfl | exact h_move (v := .tup _) rfl) ?_
      refine t_p (by first | exact h_bin rfl rfl (b_mul (Go.IntWalk.i64_in _ (by omega))) | exact h_bin rfl rfl (b_mul rfl)) ?_
      refine t_p (h_ixl (4 * i) rfl rfl (by omega) Try.underlying22 Try.sizeOf5 (by omega)) ?_
      refine t_p (by first | exact h_load_ints rfl rfl rfl (by omega) rfl Try.isAgg5 | exact h_load_one rfl rfl rfl Try.isAgg5) ?_
      refine t_p (by first | exact h_move (v := .s _) rfl | exact h_move (v := .agg _) rfl | exact h_move (v := .tup _) rfl) ?_
      refine t_p (by first | exact h_bin rfl rfl (b_mul (Go.IntWalk.i64_in _ (by omega))) | exact h_bin rfl rfl (b_mul rfl)) ?_
      refine t_p (by first | exact h_bin rfl rfl (b_add (Go.IntWalk.i64_in _ (by omega))) | exact h_bin rfl rfl (b_add rfl)) ?_
      refine t_p (h_ixl (4 * i + 1) rfl rfl (by omega) Try.underlying22 Try.sizeOf5 (by omega)) ?_
      refine t_p (by first | exact h_load_ints rfl rfl rfl (by omega) rfl Try.isAgg5 | exact h_load_one rfl rfl rfl Try.isAgg5) ?_
      refine t_p (by first | exact h_move (v := .s _) rfl | exact h_move (v := .agg _) rfl | exact h_move (v := .tup _) rfl) ?_
      refine t_p (by first | exact h_bin rfl rfl (b_mul (Go.IntWalk.i64_in _ (by omega))) | exact h_bin rfl rfl (b_mul rfl)) ?_
      refine t_p (by first | exact h_bin rfl rfl (b_add (Go.IntWalk.i64_in _ (by omega))) | exact h_bin rfl rfl (b_add rfl)) ?_
      refine t_p (h_ixl (4 * i + 2) rfl rfl (by omega) Try.underlying22 Try.sizeOf5 (by omega)) ?_
      refine t_p (by first | exact h_load_ints rfl rfl rfl (by omega) rfl Try.isAgg5 | exact h_load_one rfl rfl rfl Try.isAgg5) ?_
      refine t_p (by first | exact h_move (v := .s _) rfl | exact h_move (v := .agg _) rfl | exact h_move (v := .tup _) rfl) ?_
      refine t_p (by first | exact h_bin rfl rfl (b_mul (Go.IntWalk.i64_in _ (by omega))) | exact h_bin rfl rfl (b_mul rfl)) ?_
      refine t_p (by first | exact h_bin rfl rfl (b_add (Go.IntWalk.i64_in _ (by omega))) | exact h_bin rfl rfl (b_add rfl)) ?_
      refine t_p (h_ixl (4 * i + 3) rfl rfl (by omega) Try.underlying22 Try.sizeOf5 (by omega)) ?_
      refine t_p (by first | exact h_load_ints rfl rfl rfl (by omega) rfl Try.isAgg5 | exact h_load_one rfl rfl rfl Try.isAgg5) ?_
      refine t_p (h_build4 rfl rfl rfl rfl build4_108) ?_
      refine t_nil ?_
      refine s_p (by first | exact h_ixw rfl rfl Try.underlying109 Try.sizeOf108 (by omega) | exact h_ixg rfl rfl Try.underlying109 Try.sizeOf108 (by omega) | exact h_ixgl (Int.toNat _) rfl rfl (Int.toNat_of_nonneg (by omega)).symm Try.underlying109 Try.sizeOf108 (by omega)) ?_
      refine s_st (by first | exact m_store_agg rfl rfl rfl (.whole (Nat.le_of_ble_eq_true rfl) rfl rfl) Try.sizeOf108 rfl | exact m_store_agg rfl rfl rfl (.seg (Nat.le_of_ble_eq_true rfl) rfl rfl rfl) Try.sizeOf108 rfl | exact m_store_agg rfl rfl rfl (.ints (Nat.le_of_ble_eq_true rfl) rfl (by omega)) Try.sizeOf108 rfl) ?_
      refine s_nil ?_
      refine n_wp ?_
      refine w_exit ?_
      refine x_thn ?_
      refine x_eq ?_
      refine n_wp ?_
      refine c_reg (by kernel_rfl) rfl ?_
      refine s_p (by first | exact h_move (v := .s _) rfl | exact h_move (v := .agg _) rfl | exact h_move (v := .tup _) rfl) ?_
      refine s_p (by first | exact h_bin rfl rfl (b_add (Go.IntWalk.i64_in _ (by omega))) | exact h_bin rfl rfl (b_add rfl)) ?_
      refine s_p (by first | exact h_assign (v := .s _) rfl | exact h_assign (v := .agg _) rfl | exact h_assign (v := .tup _) rfl) ?_
      refine s_nil ?_
      exact n_round (44 - (i + 1)) (by omega) ⟨i + 1, by omega, rfl, by rw [hrs1], by rw [hrs1]⟩ (weak' (by repeat (first | exact trivial | refine ⟨rfl, ?_⟩)) rfl rfl (Nat.le_of_ble_eq_true rfl))
    · skip
      have hi4 : 4 ≤ i := by have := of_decide_eq_false hc_t15; omega
      refine w_skip ?_
      refine n_wp ?_
      refine w_seq ?_
      obtain ⟨j, rfl⟩ : ∃ j, i = j + 4 := ⟨i - 4, by omega⟩
      have hrs := rows_s2 SB key j
      have hql := rows_len SB key (j + 4)
      have hU := U8_rows (S := SB) huk (j + 4)
      generalize rows SB key (j + 4) = q at *
      have hUr : U8 (rrow q.2 j) := hU.cut _ _
      unfold rrow at hUr
      have e0 := (hUr 0).1; have f0 := (hUr 0).2
      have e1 := (hUr 1).1; have f1 := (hUr 1).2
      have e2 := (hUr 2).1; have f2 := (hUr 2).2
      have e3 := (hUr 3).1; have f3 := (hUr 3).2
      refine c_reg (by kernel_rfl) rfl ?_
      refine s_p (by first | exact h_move (v := .s _) rfl | exact h_move (v := .agg _) rfl | exact h_move (v := .tup _) rfl) ?_
      refine s_p (h_bin rfl rfl (b_sub (r := ((j + 3 : Nat) : Int)) (wr_n (by omega) (by omega)))) ?_
      refine s_p (by first | exact h_ixw rfl rfl Try.underlying109 Try.sizeOf108 (by omega) | exact h_ixg rfl rfl Try.underlying109 Try.sizeOf108 (by omega) | exact h_ixgl (Int.toNat _) rfl rfl (Int.toNat_of_nonneg (by omega)).symm Try.underlying109 Try.sizeOf108 (by omega)) ?_
      refine s_p (by first | exact h_load_agg rfl rfl (.whole rfl) Try.isAgg108 Try.sizeOf108 | exact h_load_agg rfl rfl (.seg rfl rfl) Try.isAgg108 Try.sizeOf108 | exact h_load_agg rfl rfl (.ints rfl (by omega)) Try.isAgg108 Try.sizeOf108) ?_
      refine s_a (h_alloc (segs := [.ints .u8 4 (z 4)]) Try.zeroValue108 (by kernel_rfl) rfl) rfl ?_
      refine s_st (by first | exact m_store_agg rfl rfl rfl (.whole (Nat.le_of_ble_eq_true rfl) rfl rfl) Try.sizeOf108 rfl | exact m_store_agg rfl rfl rfl (.seg (Nat.le_of_ble_eq_true rfl) rfl rfl rfl) Try.sizeOf108 rfl | exact m_store_agg rfl rfl rfl (.ints (Nat.le_of_ble_eq_true rfl) rfl (by omega)) Try.sizeOf108 rfl) ?_
      refine s_nil ?_
      refine n_wp ?_
      refine w_seq ?_
      refine w_seq ?_
      refine c_reg (by kernel_rfl) rfl ?_
      refine s_p (by first | exact h_move (v := .s _) rfl | exact h_move (v := .agg _) rfl | exact h_move (v := .tup _) rfl) ?_
      refine s_p (h_bin rfl rfl (b_rem (r := (((j + 4) % 4 : Nat) : Int)) (by omega) rfl)) ?_
      refine s_p (h_bin rfl rfl (b_eql rfl)) ?_
      refine s_nil ?_
      refine n_wp ?_
      refine w_cut' (J51 key q j) ?_ ?_
      · skip
        refine w_cond rfl (fun hc_t44 => ?_) (fun hc_t44 => ?_)
        · skip
          have hx := (rxx_0 SB q.2 j q.1 (by have := of_decide_eq_true hc_t44; omega)).symm
          unfold rsub rrow at hx
          refine w_seq ?_
          refine c_any 18 mix (by kernel_rfl) (by kernel_rfl) rfl rfl rfl ?_
          refine t_p (h_ixl 1 rfl rfl rfl Try.underlying108 Try.sizeOf5 (by omega)) ?_
          refine t_p (by first | exact h_load_ints rfl rfl rfl (by omega) rfl Try.isAgg5 | exact h_load_one rfl rfl rfl Try.isAgg5) ?_
          refine t_p (by first | exact h_ix rfl rfl Try.underlying102 Try.sizeOf5 (by omega) | exact h_ixa rfl rfl Try.underlying102 Try.sizeOf5 (by omega) | exact h_ixl (Int.toNat _) rfl rfl (Int.toNat_of_nonneg (by omega)).symm Try.underlying102 Try.sizeOf5 (by omega)) ?_
          refine t_p (by first | exact h_load_ints rfl rfl rfl (by omega) rfl Try.isAgg5 | exact h_load_one rfl rfl rfl Try.isAgg5) ?_
          refine t_p (by first | exact h_move (v := .s _) rfl | exact h_move (v := .agg _) rfl | exact h_move (v := .tup _) rfl) ?_
          refine t_p (h_bin rfl rfl (b_xor rfl)) ?_
          refine t_p (h_ixl 2 rfl rfl rfl Try.underlying108 Try.sizeOf5 (by omega)) ?_
          refine t_p (by first | exact h_load_ints rfl rfl rfl (by omega) rfl Try.isAgg5 | exact h_load_one rfl rfl rfl Try.isAgg5) ?_
          refine t_p (by first | exact h_ix rfl rfl Try.underlying102 Try.sizeOf5 (by omega) | exact h_ixa rfl rfl Try.underlying102 Try.sizeOf5 (by omega) | exact h_ixl (Int.toNat _) rfl rfl (Int.toNat_of_nonneg (by omega)).symm Try.underlying102 Try.sizeOf5 (by omega)) ?_
          refine t_p (by first | exact h_load_ints rfl rfl rfl (by omega) rfl Try.isAgg5 | exact h_load_one rfl rfl rfl Try.isAgg5) ?_
          refine t_p (h_ixl 3 rfl rfl rfl Try.underlying108 Try.sizeOf5 (by omega)) ?_
          refine t_p (by first | exact h_load_ints rfl rfl rfl (by omega) rfl Try.isAgg5 | exact h_load_one rfl rfl rfl Try.isAgg5) ?_
          refine t_p (by first | exact h_ix rfl rfl Try.underlying102 Try.sizeOf5 (by omega) | exact h_ixa rfl rfl Try.underlying102 Try.sizeOf5 (by omega) | exact h_ixl (Int.toNat _) rfl rfl (Int.toNat_of_nonneg (by omega)).symm Try.underlying102 Try.sizeOf5 (by omega)) ?_
          refine t_p (by first | exact h_load_ints rfl rfl rfl (by omega) rfl Try.isAgg5 | exact h_load_one rfl rfl rfl Try.isAgg5) ?_
          refine t_p (h_ixl 0 rfl rfl rfl Try.underlying108 Try.sizeOf5 (by omega)) ?_
          refine t_p (by first | exact h_load_ints rfl rfl rfl (by omega) rfl Try.isAgg5 | exact h_load_one rfl rfl rfl Try.isAgg5) ?_
          refine t_p (by first | exact h_ix rfl rfl Try.underlying102 Try.sizeOf5 (by omega) | exact h_ixa rfl rfl Try.underlying102 Try.sizeOf5 (by omega) | exact h_ixl (Int.toNat _) rfl rfl (Int.toNat_of_nonneg (by omega)).symm Try.underlying102 Try.sizeOf5 (by omega)) ?_
          refine t_p (by first | exact h_load_ints rfl rfl rfl (by omega) rfl Try.isAgg5 | exact h_load_one rfl rfl rfl Try.isAgg5) ?_
          refine t_nil ?_
          refine s_p (h_build4 rfl rfl rfl rfl build4_108) ?_
          refine s_st (by first | exact m_store_agg rfl rfl rfl (.whole (Nat.le_of_ble_eq_true rfl) rfl rfl) Try.sizeOf108 rfl | exact m_store_agg rfl rfl rfl (.seg (Nat.le_of_ble_eq_true rfl) rfl rfl rfl) Try.sizeOf108 rfl | exact m_store_agg rfl rfl rfl (.ints (Nat.le_of_ble_eq_true rfl) rfl (by omega)) Try.sizeOf108 rfl) ?_
          refine s_nil ?_
          refine n_wp ?_
          refine c_reg (by kernel_rfl) rfl ?_
          refine s_p (by first | exact h_move (v := .s _) rfl | exact h_move (v := .agg _) rfl | exact h_move (v := .tup _) rfl) ?_
          refine s_p (h_call callable_52 rfl (times_c _ _ _)) ?_
          refine s_p (by first | exact h_assign (v := .s _) rfl | exact h_assign (v := .agg _) rfl | exact h_assign (v := .tup _) rfl) ?_
          refine s_nil ?_
          exact n_cut ⟨_, _, hx, rfl, rfl⟩ (weak' (by repeat (first | exact trivial | refine ⟨rfl, ?_⟩)) rfl rfl (Nat.le_of_ble_eq_true rfl))
        · skip
          have hx := (rxx_1 SB q.2 j q.1 (by have := of_decide_eq_false hc_t44; omega)).symm
          unfold rrow at hx
          refine w_skip ?_
          exact n_cut ⟨_, _, hx, rfl, rfl⟩ (weak' (by repeat (first | exact trivial | refine ⟨rfl, ?_⟩)) rfl rfl (Nat.le_of_ble_eq_true rfl))
      rintro T H ⟨b, x, hx, rfl, rfl⟩
      refine w_seq ?_
      refine c_reg (by kernel_rfl) rfl ?_
      refine s_p (by first | exact h_assign (v := .s _) rfl | exact h_assign (v := .agg _) rfl | exact h_assign (v := .tup _) rfl) ?_
      refine s_nil ?_
      refine n_wp ?_
      refine w_block ?_
      refine c_loop (I51b key q b x j) 4 ⟨0, by omega, rfl, rfl, rfl⟩ (weak' (by repeat (first | exact trivial | refine ⟨rfl, ?_⟩)) rfl rfl (Nat.le_of_ble_eq_true rfl)) ?_
      rintro n T H ⟨k, hk, rfl, rfl, rfl⟩
      refine w_seq ?_
      refine w_seq ?_
      refine c_reg (by kernel_rfl) rfl ?_
      refine s_p (by first | exact h_move (v := .s _) rfl | exact h_move (v := .agg _) rfl | exact h_move (v := .tup _) rfl) ?_
      refine s_p (h_bin rfl rfl (b_lss rfl)) ?_
      refine s_nil ?_
      refine n_wp ?_
      refine w_cond rfl (fun hc_t67 => ?_) (fun hc_t67 => ?_)
      · skip
        have hlt2 : k < 4 := by have := of_decide_eq_true hc_t67; omega
        refine w_skip ?_
        refine n_wp ?_
        refine w_seq ?_
        refine w_block ?_
        refine c_any 13 mix (by kernel_rfl) (by kernel_rfl) rfl rfl rfl ?_
        refine t_p (by first | exact h_move (v := .s _) rfl | exact h_move (v := .agg _) rfl | exact h_move (v := .tup _) rfl) ?_
        refine t_p (by first | exact h_move (v := .s _) rfl | exact h_move (v := .agg _) rfl | exact h_move (v := .tup _) rfl) ?_
        refine t_p (by first | exact h_move (v := .s _) rfl | exact h_move (v := .agg _) rfl | exact h_move (v := .tup _) rfl) ?_
        refine t_p (h_bin rfl rfl (b_sub (r := ((j : Nat) : Int)) (wr_n (by omega) (by omega)))) ?_
        refine t_p (by first | exact h_move (v := .s _) rfl | exact h_move (v := .agg _) rfl | exact h_move (v := .tup _) rfl) ?_
        refine t_p (by first | exact h_ixw rfl rfl Try.underlying109 Try.sizeOf108 (by omega) | exact h_ixg rfl rfl Try.underlying109 Try.sizeOf108 (by omega) | exact h_ixgl (Int.toNat _) rfl rfl (Int.toNat_of_nonneg (by omega)).symm Try.underlying109 Try.sizeOf108 (by omega)) ?_
        refine t_p (by first | exact h_ix rfl rfl Try.underlying108 Try.sizeOf5 (by omega) | exact h_ixa rfl rfl Try.underlying108 Try.sizeOf5 (by omega) | exact h_ixl (Int.toNat _) rfl rfl (Int.toNat_of_nonneg (by omega)).symm Try.underlying108 Try.sizeOf5 (by omega)) ?_
        refine t_p (by first | exact h_load_ints rfl rfl rfl (by omega) rfl Try.isAgg5 | exact h_load_one rfl rfl rfl Try.isAgg5) ?_
        refine t_p (by first | exact h_move (v := .s _) rfl | exact h_move (v := .agg _) rfl | exact h_move (v := .tup _) rfl) ?_
        refine t_p (by first | exact h_ix rfl rfl Try.underlying108 Try.sizeOf5 (by omega) | exact h_ixa rfl rfl Try.underlying108 Try.sizeOf5 (by omega) | exact h_ixl (Int.toNat _) rfl rfl (Int.toNat_of_nonneg (by omega)).symm Try.underlying108 Try.sizeOf5 (by omega)) ?_
        refine t_p (by first | exact h_load_ints rfl rfl rfl (by omega) rfl Try.isAgg5 | exact h_load_one rfl rfl rfl Try.isAgg5) ?_
        refine t_p (h_bin rfl rfl (b_xor rfl)) ?_
        refine t_p (by first | exact h_ixw rfl rfl Try.underlying109 Try.sizeOf108 (by omega) | exact h_ixg rfl rfl Try.underlying109 Try.sizeOf108 (by omega) | exact h_ixgl (Int.toNat _) rfl rfl (Int.toNat_of_nonneg (by omega)).symm Try.underlying109 Try.sizeOf108 (by omega)) ?_
        refine t_nil ?_
        refine s_p (by first | exact h_ix rfl rfl Try.underlying108 Try.sizeOf5 (by omega) | exact h_ixa rfl rfl Try.underlying108 Try.sizeOf5 (by omega) | exact h_ixl (Int.toNat _) rfl rfl (Int.toNat_of_nonneg (by omega)).symm Try.underlying108 Try.sizeOf5 (by omega)) ?_
        refine s_st (by first | exact m_store_int rfl rfl rfl rfl (by omega) (by (first | exact (rkS_len _ _ _ _).trans hql | exact hql | exact rows_len _ _ _)) Try.sizeOf5 rfl | exact m_store_one rfl rfl (by simp) rfl rfl Try.sizeOf5 rfl) ?_
        refine s_nil ?_
        refine n_blo ?_
        refine n_wp ?_
        refine c_reg (by kernel_rfl) rfl ?_
        refine s_p (by first | exact h_move (v := .s _) rfl | exact h_move (v := .agg _) rfl | exact h_move (v := .tup _) rfl) ?_
        refine s_p (by first | exact h_bin rfl rfl (b_add (Go.IntWalk.i64_in _ (by omega))) | exact h_bin rfl rfl (b_add rfl)) ?_
        refine s_p (by first | exact h_assign (v := .s _) rfl | exact h_assign (v := .agg _) rfl | exact h_assign (v := .tup _) rfl) ?_
        refine s_nil ?_
        exact n_round (4 - (k + 1)) (by omega) ⟨k + 1, by omega, rfl, rfl, rfl⟩ (weak' (by repeat (first | exact trivial | refine ⟨rfl, ?_⟩)) rfl rfl (Nat.le_of_ble_eq_true rfl))
      · skip
        obtain rfl : k = 4 := by have := of_decide_eq_false hc_t67; omega
        have hrs3 : rows SB key (j + 4 + 1) = (b, rkS q.2 x j 4) := by rw [hrs, ← hx]
        generalize rkS q.2 x j 4 = y at *
        refine w_exit ?_
        refine x_thn ?_
        refine x_thn ?_
        refine x_eq ?_
        refine n_blo ?_
        refine n_wp ?_
        refine c_reg (by kernel_rfl) rfl ?_
        refine s_p (by first | exact h_move (v := .s _) rfl | exact h_move (v := .agg _) rfl | exact h_move (v := .tup _) rfl) ?_
        refine s_p (by first | exact h_bin rfl rfl (b_add (Go.IntWalk.i64_in _ (by omega))) | exact h_bin rfl rfl (b_add rfl)) ?_
        refine s_p (by first | exact h_assign (v := .s _) rfl | exact h_assign (v := .agg _) rfl | exact h_assign (v := .tup _) rfl) ?_
        refine s_nil ?_
        exact n_round (44 - (j + 4 + 1)) (by omega) ⟨j + 4 + 1, by omega, rfl, by rw [hrs3], by rw [hrs3]⟩ (weak' (by repeat (first | exact trivial | refine ⟨rfl, ?_⟩)) rfl rfl (Nat.le_of_ble_eq_true rfl))
  · skip
    obtain rfl : i = 44 := by have := of_decide_eq_false hc_t11; omega
    rw [rows_eq]
    refine w_exit ?_
    refine x_thn ?_
    refine x_thn ?_
    refine x_eq ?_
    refine n_wp ?_
    refine w_seq ?_
    refine c_reg (by kernel_rfl) rfl ?_
    refine s_p (by first | exact h_load_agg rfl rfl (.whole rfl) Try.isAgg109 Try.sizeOf109 | exact h_load_agg rfl rfl (.seg rfl rfl) Try.isAgg109 Try.sizeOf109 | exact h_load_agg rfl rfl (.ints rfl (by omega)) Try.isAgg109 Try.sizeOf109) ?_
    refine s_st (by first | exact m_store_agg rfl rfl rfl (.whole (Nat.le_of_ble_eq_true rfl) rfl rfl) Try.sizeOf109 rfl | exact m_store_agg rfl rfl rfl (.seg (Nat.le_of_ble_eq_true rfl) rfl rfl rfl) Try.sizeOf109 rfl | exact m_store_agg rfl rfl rfl (.ints (Nat.le_of_ble_eq_true rfl) rfl (by omega)) Try.sizeOf109 rfl) ?_
    refine s_nil ?_
    refine n_wp ?_
    refine w_ret ?_
    exact ⟨.inl rfl, ret_cell_agg Try.results51 rfl rfl (.whole rfl) Try.isAgg109 Try.sizeOf109⟩

end Go.Proofs.X
