/- A part of the proofs of this claim: KeyW1. No conditions. -/
import Derived.Test.YtffflnpidipheaaMacW1
import Derived.Test.YtffflnpidipheaaKeySpec
import Derived.Test.YtffflnpidipheaaAb24
open Go Go.Ab Go.Proofs
namespace Go.Proofs.X
theorem callable_29 : Callable Try.prog 29 := ⟨_, Try.func29, by kernel_rfl, rfl⟩
def JK (K : List Int) (m : Nat) (n : Nat) (T : Tm) (H : Heap) : Prop := ∃ i, i ≤ (m + 31) / 32 ∧ n = (m + 31) / 32 - i ∧
  ((i = 0 ∧ T = [(2, .s (.int .i64 ((m : Nat) : Int))), (8, .s (.ptr 0 0 0)), (9, .s (.slice 1 0 0 0 (m + 32))), (10, .s .nils), (11, .s (.int .i64 ((0 + 1 : Nat) : Int)))] ∧ H = [some ⟨true, [.ints .u8 32 K]⟩, some ⟨true, [.ints .u8 (m + 32) (ko K (m + 32) 0)]⟩]) ∨
   (0 < i ∧ T = [(2, .s (.int .i64 ((m : Nat) : Int))), (8, .s (.ptr 0 0 0)), (9, .s (.slice 1 0 0 (32 * i) (m + 32))), (10, .s (.slice 2 0 0 32 32)), (11, .s (.int .i64 ((i + 1 : Nat) : Int)))] ∧ H = [some ⟨true, [.ints .u8 32 K]⟩, some ⟨true, [.ints .u8 (m + 32) (ko K (m + 32) i)]⟩, some ⟨true, [.ints .u8 32 (kl K i)]⟩]))
set_option maxRecDepth 100000 in
set_option maxHeartbeats 2000000 in
theorem kOf_c (H : Heap) (L ID : List Int) (m : Nat) (hL : L.length = 4) (hID : ID.length = 32) (hm : m ≤ 8160) : ACall Try.prog 29 H [.agg [.ints .u64 4 L], .agg [.ints .u8 32 ID], .s (.int .i64 ((m : Nat) : Int))] (.tup [.s (.slice (H.length + 0) (0 + 0) 0 m m), .s (.int .i64 0)]) [⟨true, [.ints .u8 (m + 32) (kmOf ID L m)]⟩] := by
  refine acall_gen2 (args0 := [.agg [.ints .u64 4 L], .agg [.ints .u8 32 ID], .s (.int .i64 ((m : Nat) : Int))]) (H0 := []) (Hf := [none, some ⟨true, [.ints .u8 (m + 32) (kmOf ID L m)]⟩]) (v0 := .tup [.s (.slice 1 0 0 m m), .s (.int .i64 0)]) [] [1] Try.func29 rfl Try.ntmps29 (by simp) rfl
    (fun k id sh b0 h1 h2 => by simp at h1) (fun W ρ vals w hH ha k id' sh' hk => by simp at hk) rfl rfl rfl (by decide) rfl rfl rfl (fun W w ρ0 hW hdom => ?_)
  refine w_seq ?_
  refine c_reg (by kernel_rfl) rfl ?_
  refine s_a (by first | exact h_box_agg rfl rfl | exact h_box rfl (by simp) rfl) rfl ?_
  refine s_a (by first | exact h_box_agg rfl rfl | exact h_box rfl (by simp) rfl) rfl ?_
  refine s_p (by first | exact h_assign (v := .s _) rfl | exact h_assign (v := .agg _) rfl | exact h_assign (v := .tup _) rfl) ?_
  refine s_p (by first | exact h_assign (v := .s _) rfl | exact h_assign (v := .agg _) rfl | exact h_assign (v := .tup _) rfl) ?_
  refine s_nil ?_
  refine n_wp ?_
  refine w_seq ?_
  refine w_block ?_
  refine w_seq ?_
  refine c_reg (by kernel_rfl) rfl ?_
  refine s_p (by first | exact h_move (v := .s _) rfl | exact h_move (v := .agg _) rfl | exact h_move (v := .tup _) rfl) ?_
  refine s_p (h_bin rfl rfl (b_lss rfl)) ?_
  refine s_p (by first | exact h_assign (v := .s _) rfl | exact h_assign (v := .agg _) rfl | exact h_assign (v := .tup _) rfl) ?_
  refine s_nil ?_
  refine n_wp ?_
  refine w_cond rfl (fun hc_t13 => ?_) (fun hc_t13 => ?_)
  · exact absurd hc_t13 (by intro h; have := of_decide_eq_true h; omega)
  refine w_seq ?_
  refine c_reg (by kernel_rfl) rfl ?_
  refine s_p (by first | exact h_move (v := .s _) rfl | exact h_move (v := .agg _) rfl | exact h_move (v := .tup _) rfl) ?_
  refine s_p (h_bin rfl rfl (b_gtr rfl)) ?_
  refine s_p (by first | exact h_assign (v := .s _) rfl | exact h_assign (v := .agg _) rfl | exact h_assign (v := .tup _) rfl) ?_
  refine s_nil ?_
  refine n_wp ?_
  refine w_cond rfl (fun hc_t16 => ?_) (fun hc_t16 => ?_)
  · exact absurd hc_t16 (by intro h; have := of_decide_eq_true h; omega)
  refine w_skip ?_
  refine n_blo ?_
  refine n_wp ?_
  refine w_seq ?_
  refine c_any 6 mix (by kernel_rfl) (by kernel_rfl) rfl rfl rfl ?_
  refine t_p (h_asl_0 rfl Try.underlying44 Try.sizeOf5 (by omega)) ?_
  refine t_p (by first | exact h_load_agg rfl rfl (.whole rfl) Try.isAgg42 Try.sizeOf42 | exact h_load_agg rfl rfl (.seg rfl rfl) Try.isAgg42 Try.sizeOf42 | exact h_load_agg rfl rfl (.ints rfl (by omega)) Try.isAgg42 Try.sizeOf42) ?_
  refine t_a (h_call callable_32 rfl (PutLong_n _ L hL)) rfl ?_
  refine t_a (h_bsls1 rfl (by simp) Try.underlying92 Try.sizeOf29 Try.zeroValue29 rfl rfl) rfl ?_
  refine t_p (h_call callable_31 rfl (mac1 _ 1 0 32 3 ID _ _ (PL L) 32 32 hID (Nat.le_refl _) rfl (fun i y hy => by rw [Nat.zero_add i]; exact hy) rfl 2 0 _ (PL_len L) (Nat.le_refl _) (by omega) rfl (fun i y hy => by rw [Nat.zero_add i]; exact hy) rfl)) ?_
  refine t_a (h_alloc (segs := [.ints .u8 32 (z 32)]) Try.zeroValue44 (by kernel_rfl) rfl) rfl ?_
  refine t_nil ?_
  refine s_st (m_store_agg (n := 32) (segs := [.ints .u8 32 (z 32)]) (sub := [.ints .u8 32 (kmK ID L)]) (id := 4) (base := 0) (idx := 0) rfl rfl rfl (.whole (Nat.le_of_ble_eq_true rfl) rfl rfl) Try.sizeOf44 rfl) ?_
  refine s_nil ?_
  refine n_wp ?_
  refine w_seq ?_
  refine c_reg (by kernel_rfl) rfl ?_
  refine s_p (by first | exact h_move (v := .s _) rfl | exact h_move (v := .agg _) rfl | exact h_move (v := .tup _) rfl) ?_
  refine s_p (h_bin rfl rfl (b_add (r := ((m + 32 : Nat) : Int)) (wr_n (by omega) (by omega)))) ?_
  refine s_a (h_make (l := 0) (c := m + 32) rfl rfl (Nat.zero_le _) (by rw [show Try.t5.bytes = 1 from rfl]; omega) (by omega) Try.underlying29 infoB5 rfl rfl rfl) rfl ?_
  refine s_p (by first | exact h_assign (v := .s _) rfl | exact h_assign (v := .agg _) rfl | exact h_assign (v := .tup _) rfl) ?_
  refine s_nil ?_
  refine n_wp ?_
  refine w_seq ?_
  refine c_reg (by kernel_rfl) rfl ?_
  refine s_p (by first | exact h_assign (v := .s _) rfl | exact h_assign (v := .agg _) rfl | exact h_assign (v := .tup _) rfl) ?_
  refine s_nil ?_
  refine n_wp ?_
  refine w_seq ?_
  refine w_seq ?_
  refine c_reg (by kernel_rfl) rfl ?_
  refine s_p (by first | exact h_assign (v := .s _) rfl | exact h_assign (v := .agg _) rfl | exact h_assign (v := .tup _) rfl) ?_
  refine s_nil ?_
  refine n_wp ?_
  refine w_block ?_
  have hKl : (kmK ID L).length = 32 := kmK_len _ _
  unfold kmOf
  generalize kmK ID L = K at hKl ⊢
  refine c_loop (JK K m) ((m + 31) / 32) ⟨0, Nat.zero_le _, rfl, .inl ⟨rfl, rfl, rfl⟩⟩ (weakR' [4, 5] rfl (by decide) rfl (by repeat (first | exact trivial | refine ⟨⟨_, _, rfl, rfl, rfl, rfl, rfl⟩, ?_⟩)) (by repeat (first | exact trivial | refine ⟨⟨rfl, rfl⟩, ?_⟩))) ?_
  rintro n T H ⟨i, hi, rfl, ⟨rfl, rfl, rfl⟩ | ⟨h0, rfl, rfl⟩⟩
  · skip
    refine w_seq ?_
    refine w_seq ?_
    refine c_reg (by kernel_rfl) rfl ?_
    refine s_p (by first | exact h_move (v := .s _) rfl | exact h_move (v := .agg _) rfl | exact h_move (v := .tup _) rfl) ?_
    refine s_p (by first | exact h_len rfl Try.underlying29 | exact h_len_nil rfl Try.underlying29 | exact h_len_val rfl Try.underlying29) ?_
    refine s_p (by first | exact h_move (v := .s _) rfl | exact h_move (v := .agg _) rfl | exact h_move (v := .tup _) rfl) ?_
    refine s_p (h_bin rfl rfl (b_lss rfl)) ?_
    refine s_nil ?_
    refine n_wp ?_
    refine w_cond rfl (fun hc_t30 => ?_) (fun hc_t30 => ?_)
    · skip
      have hlt : 32 * 0 < m := by have := of_decide_eq_true hc_t30; omega
      refine w_skip ?_
      refine n_wp ?_
      refine w_seq ?_
      refine w_block ?_
      refine w_seq ?_
      refine c_reg (by kernel_rfl) rfl ?_
      refine s_p (h_asl_0 rfl Try.underlying44 Try.sizeOf5 (by omega)) ?_
      refine s_p (by first | exact h_move (v := .s _) rfl | exact h_move (v := .agg _) rfl | exact h_move (v := .tup _) rfl) ?_
      refine s_a (h_bsli4 rfl rfl rfl rfl Try.underlying29 Try.sizeOf5 Try.zeroValue5 rfl rfl) rfl ?_
      refine s_m (m_conv rfl rfl Try.underlying29 Try.underlying5) ?_
      refine s_p (by first | exact h_move (v := .s _) rfl | exact h_move (v := .agg _) rfl | exact h_move (v := .tup _) rfl) ?_
      refine s_p (h_conv (r := ((0 + 1 : Nat) : Int)) rfl Try.underlying3 Try.underlying5 (wrap_u8 (by omega) (by omega))) ?_
      refine s_a (h_bsli1 rfl Try.underlying29 Try.sizeOf5 Try.zeroValue5 rfl rfl) rfl ?_
      refine s_a (h_bsls3 rfl rfl rfl (by simp) (by simp) (by simp) Try.underlying92 Try.sizeOf29 Try.zeroValue29 rfl rfl) rfl ?_
      refine s_p (h_call callable_31 rfl (mac3n _ 0 0 32 4 K _ _ laneL 4 4 [((0 + 1 : Nat) : Int)] 1 1 hKl (Nat.le_refl _) rfl (fun i y hy => by rw [Nat.zero_add i]; exact hy) rfl 2 0 _ rfl (Nat.le_refl _) (by omega) rfl (fun i y hy => by rw [Nat.zero_add i]; exact hy) 3 0 _ rfl (Nat.le_refl _) (by omega) rfl (fun i y hy => by rw [Nat.zero_add i]; exact hy) rfl)) ?_
      refine s_a (h_alloc (segs := [.ints .u8 32 (z 32)]) Try.zeroValue44 (by kernel_rfl) rfl) rfl ?_
      refine s_st (m_store_agg (n := 32) (segs := [.ints .u8 32 (z 32)]) (sub := [.ints .u8 32 (kl K (0 + 1))]) (id := 5) (base := 0) (idx := 0) rfl (by rw [kl_one K]; rfl) rfl (.whole (Nat.le_of_ble_eq_true rfl) rfl rfl) Try.sizeOf44 rfl) ?_
      refine s_heap (H' := [some ⟨true, [.ints .u8 32 K]⟩, some ⟨true, [.ints .u8 (m + 32) (ko K (m + 32) 0)]⟩, some ⟨false, [.ints .u8 4 laneL]⟩, some ⟨true, [.ints .u8 1 [((0 + 1 : Nat) : Int)]]⟩, some ⟨true, [.one .nils, .one (.slice 2 0 0 4 4), .one (.slice 3 0 0 1 1)]⟩, some ⟨true, [.ints .u8 32 (kl K (0 + 1))]⟩]) (by kernel_rfl) ?_
      refine s_nil ?_
      refine n_wp ?_
      refine w_seq ?_
      refine c_reg (by kernel_rfl) rfl ?_
      refine s_p (h_asl_0 rfl Try.underlying44 Try.sizeOf5 (by omega)) ?_
      refine s_p (by first | exact h_assign (v := .s _) rfl | exact h_assign (v := .agg _) rfl | exact h_assign (v := .tup _) rfl) ?_
      refine s_nil ?_
      refine n_wp ?_
      refine c_reg (by kernel_rfl) rfl ?_
      refine s_p (by first | exact h_move (v := .s _) rfl | exact h_move (v := .agg _) rfl | exact h_move (v := .tup _) rfl) ?_
      refine s_p (by first | exact h_move (v := .s _) rfl | exact h_move (v := .agg _) rfl | exact h_move (v := .tup _) rfl) ?_
      refine s_m (m_append rfl rfl rfl rfl rfl (kl_len K (by omega)) (by omega) (by omega) (by omega) Try.underlying29 Try.underlying29 Try.sizeOf5 (.ints (by omega) rfl (by omega))) ?_
      refine s_p (by first | exact h_assign (v := .s _) rfl | exact h_assign (v := .agg _) rfl | exact h_assign (v := .tup _) rfl) ?_
      refine s_nil ?_
      refine n_blo ?_
      refine n_wp ?_
      refine c_reg (by kernel_rfl) rfl ?_
      refine s_p (by first | exact h_move (v := .s _) rfl | exact h_move (v := .agg _) rfl | exact h_move (v := .tup _) rfl) ?_
      refine s_p (by first | exact h_bin rfl rfl (b_add (Go.IntWalk.i64_in _ (by omega))) | exact h_bin rfl rfl (b_add rfl)) ?_
      refine s_p (by first | exact h_assign (v := .s _) rfl | exact h_assign (v := .agg _) rfl | exact h_assign (v := .tup _) rfl) ?_
      refine s_nil ?_
      exact n_round ((m + 31) / 32 - (0 + 1)) (by omega) ⟨0 + 1, by omega, rfl, .inr ⟨by omega, rfl, rfl⟩⟩ (weakR' [0, 1, 5] rfl (by decide) rfl (by repeat (first | exact trivial | refine ⟨⟨_, _, rfl, rfl, rfl, rfl, rfl⟩, ?_⟩)) (by repeat (first | exact trivial | refine ⟨⟨rfl, rfl⟩, ?_⟩)))
    · skip
      have hend : (m + 31) / 32 = 0 := by have := of_decide_eq_false hc_t30; omega
      rw [hend]
      refine w_exit ?_
      refine x_thn ?_
      refine x_thn ?_
      refine x_eq ?_
      refine n_wp ?_
      refine w_seq ?_
      refine c_reg (by kernel_rfl) rfl ?_
      refine s_p (by first | exact h_move (v := .s _) rfl | exact h_move (v := .agg _) rfl | exact h_move (v := .tup _) rfl) ?_
      refine s_p (by first | exact h_move (v := .s _) rfl | exact h_move (v := .agg _) rfl | exact h_move (v := .tup _) rfl) ?_
      refine s_p (by first | exact h_move (v := .s _) rfl | exact h_move (v := .agg _) rfl | exact h_move (v := .tup _) rfl) ?_
      refine s_p (h_slice_hm (h := m) (m := m) rfl rfl rfl rfl rfl Try.underlying29 Try.sizeOf5 (Nat.le_refl _) (by omega)) ?_
      refine s_p (by first | exact h_assign (v := .s _) rfl | exact h_assign (v := .agg _) rfl | exact h_assign (v := .tup _) rfl) ?_
      refine s_p (by first | exact h_assign (v := .s _) rfl | exact h_assign (v := .agg _) rfl | exact h_assign (v := .tup _) rfl) ?_
      refine s_nil ?_
      refine n_wp ?_
      refine w_ret ?_
      exact doneM (by repeat (first | exact trivial | refine ⟨rfl, ?_⟩)) (ret_tmps2 Try.results29 rfl rfl)
  · skip
    refine w_seq ?_
    refine w_seq ?_
    refine c_reg (by kernel_rfl) rfl ?_
    refine s_p (by first | exact h_move (v := .s _) rfl | exact h_move (v := .agg _) rfl | exact h_move (v := .tup _) rfl) ?_
    refine s_p (by first | exact h_len rfl Try.underlying29 | exact h_len_nil rfl Try.underlying29 | exact h_len_val rfl Try.underlying29) ?_
    refine s_p (by first | exact h_move (v := .s _) rfl | exact h_move (v := .agg _) rfl | exact h_move (v := .tup _) rfl) ?_
    refine s_p (h_bin rfl rfl (b_lss rfl)) ?_
    refine s_nil ?_
    refine n_wp ?_
    refine w_cond rfl (fun hc_t30 => ?_) (fun hc_t30 => ?_)
    · skip
      have hlt : 32 * i < m := by have := of_decide_eq_true hc_t30; omega
      refine w_skip ?_
      refine n_wp ?_
      refine w_seq ?_
      refine w_block ?_
      refine w_seq ?_
      refine c_reg (by kernel_rfl) rfl ?_
      refine s_p (h_asl_0 rfl Try.underlying44 Try.sizeOf5 (by omega)) ?_
      refine s_p (by first | exact h_move (v := .s _) rfl | exact h_move (v := .agg _) rfl | exact h_move (v := .tup _) rfl) ?_
      refine s_a (h_bsli4 rfl rfl rfl rfl Try.underlying29 Try.sizeOf5 Try.zeroValue5 rfl rfl) rfl ?_
      refine s_m (m_conv rfl rfl Try.underlying29 Try.underlying5) ?_
      refine s_p (by first | exact h_move (v := .s _) rfl | exact h_move (v := .agg _) rfl | exact h_move (v := .tup _) rfl) ?_
      refine s_p (h_conv (r := ((i + 1 : Nat) : Int)) rfl Try.underlying3 Try.underlying5 (wrap_u8 (by omega) (by omega))) ?_
      refine s_a (h_bsli1 rfl Try.underlying29 Try.sizeOf5 Try.zeroValue5 rfl rfl) rfl ?_
      refine s_a (h_bsls3 rfl rfl rfl (by simp) (by simp) (by simp) Try.underlying92 Try.sizeOf29 Try.zeroValue29 rfl rfl) rfl ?_
      refine s_p (h_call callable_31 rfl (mac3 _ 0 0 32 5 K _ _ (kl K i) 32 32 laneL 4 4 [((i + 1 : Nat) : Int)] 1 1 hKl (Nat.le_refl _) rfl (fun i y hy => by rw [Nat.zero_add i]; exact hy) rfl 2 0 _ (kl_len K h0) (Nat.le_refl _) (by omega) rfl (fun i y hy => by rw [Nat.zero_add i]; exact hy) 3 0 _ rfl (Nat.le_refl _) (by omega) rfl (fun i y hy => by rw [Nat.zero_add i]; exact hy) 4 0 _ rfl (Nat.le_refl _) (by omega) rfl (fun i y hy => by rw [Nat.zero_add i]; exact hy) rfl)) ?_
      refine s_a (h_alloc (segs := [.ints .u8 32 (z 32)]) Try.zeroValue44 (by kernel_rfl) rfl) rfl ?_
      refine s_st (m_store_agg (n := 32) (segs := [.ints .u8 32 (z 32)]) (sub := [.ints .u8 32 (kl K (i + 1))]) (id := 6) (base := 0) (idx := 0) rfl (by rw [kl_succ K h0]; rfl) rfl (.whole (Nat.le_of_ble_eq_true rfl) rfl rfl) Try.sizeOf44 rfl) ?_
      refine s_heap (H' := [some ⟨true, [.ints .u8 32 K]⟩, some ⟨true, [.ints .u8 (m + 32) (ko K (m + 32) i)]⟩, some ⟨true, [.ints .u8 32 (kl K i)]⟩, some ⟨false, [.ints .u8 4 laneL]⟩, some ⟨true, [.ints .u8 1 [((i + 1 : Nat) : Int)]]⟩, some ⟨true, [.one (.slice 2 0 0 32 32), .one (.slice 3 0 0 4 4), .one (.slice 4 0 0 1 1)]⟩, some ⟨true, [.ints .u8 32 (kl K (i + 1))]⟩]) (by kernel_rfl) ?_
      refine s_nil ?_
      refine n_wp ?_
      refine w_seq ?_
      refine c_reg (by kernel_rfl) rfl ?_
      refine s_p (h_asl_0 rfl Try.underlying44 Try.sizeOf5 (by omega)) ?_
      refine s_p (by first | exact h_assign (v := .s _) rfl | exact h_assign (v := .agg _) rfl | exact h_assign (v := .tup _) rfl) ?_
      refine s_nil ?_
      refine n_wp ?_
      refine c_reg (by kernel_rfl) rfl ?_
      refine s_p (by first | exact h_move (v := .s _) rfl | exact h_move (v := .agg _) rfl | exact h_move (v := .tup _) rfl) ?_
      refine s_p (by first | exact h_move (v := .s _) rfl | exact h_move (v := .agg _) rfl | exact h_move (v := .tup _) rfl) ?_
      refine s_m (m_append rfl rfl rfl rfl rfl (kl_len K (by omega)) (by omega) (by omega) (by omega) Try.underlying29 Try.underlying29 Try.sizeOf5 (.ints (by omega) rfl (by omega))) ?_
      refine s_p (by first | exact h_assign (v := .s _) rfl | exact h_assign (v := .agg _) rfl | exact h_assign (v := .tup _) rfl) ?_
      refine s_nil ?_
      refine n_blo ?_
      refine n_wp ?_
      refine c_reg (by kernel_rfl) rfl ?_
      refine s_p (by first | exact h_move (v := .s _) rfl | exact h_move (v := .agg _) rfl | exact h_move (v := .tup _) rfl) ?_
      refine s_p (by first | exact h_bin rfl rfl (b_add (Go.IntWalk.i64_in _ (by omega))) | exact h_bin rfl rfl (b_add rfl)) ?_
      refine s_p (by first | exact h_assign (v := .s _) rfl | exact h_assign (v := .agg _) rfl | exact h_assign (v := .tup _) rfl) ?_
      refine s_nil ?_
      exact n_round ((m + 31) / 32 - (i + 1)) (by omega) ⟨i + 1, by omega, rfl, .inr ⟨by omega, rfl, rfl⟩⟩ (weakR' [0, 1, 6] rfl (by decide) rfl (by repeat (first | exact trivial | refine ⟨⟨_, _, rfl, rfl, rfl, rfl, rfl⟩, ?_⟩)) (by repeat (first | exact trivial | refine ⟨⟨rfl, rfl⟩, ?_⟩)))
    · skip
      have hend : (m + 31) / 32 = i := by have := of_decide_eq_false hc_t30; omega
      rw [hend]
      refine w_exit ?_
      refine x_thn ?_
      refine x_thn ?_
      refine x_eq ?_
      refine n_wp ?_
      refine w_seq ?_
      refine c_reg (by kernel_rfl) rfl ?_
      refine s_p (by first | exact h_move (v := .s _) rfl | exact h_move (v := .agg _) rfl | exact h_move (v := .tup _) rfl) ?_
      refine s_p (by first | exact h_move (v := .s _) rfl | exact h_move (v := .agg _) rfl | exact h_move (v := .tup _) rfl) ?_
      refine s_p (by first | exact h_move (v := .s _) rfl | exact h_move (v := .agg _) rfl | exact h_move (v := .tup _) rfl) ?_
      refine s_p (h_slice_hm (h := m) (m := m) rfl rfl rfl rfl rfl Try.underlying29 Try.sizeOf5 (Nat.le_refl _) (by omega)) ?_
      refine s_p (by first | exact h_assign (v := .s _) rfl | exact h_assign (v := .agg _) rfl | exact h_assign (v := .tup _) rfl) ?_
      refine s_p (by first | exact h_assign (v := .s _) rfl | exact h_assign (v := .agg _) rfl | exact h_assign (v := .tup _) rfl) ?_
      refine s_nil ?_
      refine n_wp ?_
      refine w_ret ?_
      exact doneM (by repeat (first | exact trivial | refine ⟨rfl, ?_⟩)) (ret_tmps2 Try.results29 rfl rfl)
end Go.Proofs.X
