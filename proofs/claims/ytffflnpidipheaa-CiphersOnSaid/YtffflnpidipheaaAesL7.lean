/- A part of the proofs of this claim: AesL7. No conditions. -/
import Derived.Test.YtffflnpidipheaaAesW7
import Derived.Test.YtffflnpidipheaaAb12
open Go Go.Ab Go.Proofs
namespace Go.Proofs.X
set_option maxRecDepth 100000 in
theorem stream_e (key first : List Int) (a : Option Addr) (c : Nat) (H : Heap) : ACall Try.prog 26 H [.agg [.ints .u8 16 key], .agg [.ints .u8 16 first], .s (.val (.slice a 0 c))] (.s .nils) [] := by
  refine acall_free Try.func26 rfl Try.ntmps26 (by simp) rfl rfl (fun W w hW => ?_) H
  refine w_seq ?_
  refine c_reg (by kernel_rfl) rfl ?_
  refine s_a (by first | exact h_box_agg rfl rfl | exact h_box rfl (by simp) rfl) rfl ?_
  refine s_a (by first | exact h_box_agg rfl rfl | exact h_box rfl (by simp) rfl) rfl ?_
  refine s_p (by first | exact h_assign (v := .s _) rfl | exact h_assign (v := .agg _) rfl | exact h_assign (v := .tup _) rfl) ?_
  refine s_nil ?_
  refine n_wp ?_
  refine w_seq ?_
  refine w_seq ?_
  refine c_reg (by kernel_rfl) rfl ?_
  refine s_p (by first | exact h_move (v := .s _) rfl | exact h_move (v := .agg _) rfl | exact h_move (v := .tup _) rfl) ?_
  refine s_p (by first | exact h_len rfl Try.underlying29 | exact h_len_nil rfl Try.underlying29 | exact h_len_val rfl Try.underlying29) ?_
  refine s_p (h_bin rfl rfl (b_eql rfl)) ?_
  refine s_nil ?_
  refine n_wp ?_
  refine w_cond rfl (fun hc_t15 => ?_) (fun hc_t15 => ?_)
  rotate_left
  · exact absurd hc_t15 (by simp)
  refine w_seq ?_
  refine c_reg (by kernel_rfl) rfl ?_
  refine s_p (by first | exact h_assign (v := .s _) rfl | exact h_assign (v := .agg _) rfl | exact h_assign (v := .tup _) rfl) ?_
  refine s_nil ?_
  refine n_wp ?_
  refine w_ret ?_
  refine r_thn ?_
  exact ⟨.inl rfl, ret_tmp Try.results26 rfl⟩
def I7ss (len0 cap0 len1 cap1 : Nat) (key first B0 S0 B1 S1 : List Int) (n : Nat) (T : Tm) (H : Heap) : Prop := ∃ k : Nat, k ≤ len0 ∧ n = len0 - k ∧ T = [(5, .s (.ptr 4 0 0)), (7, .s (.slice 5 0 0 len0 len0)), (8, .s (.slice 6 0 0 len1 len1)), (9, .s (.int .i64 k))] ∧ H = [some ⟨false, [.ints .u8 len0 B0]⟩, some ⟨false, [.ints .u8 len1 B1]⟩, some ⟨true, [.ints .u8 16 key]⟩, some ⟨true, [.ints .u8 16 first]⟩, some ⟨true, [.one (.slice 0 0 0 len0 cap0), .one (.slice 1 0 0 len1 cap1)]⟩, some ⟨true, [.ints .u8 len0 S0]⟩, some ⟨true, [.ints .u8 len1 S1]⟩]
set_option maxRecDepth 100000 in
set_option maxHeartbeats 2000000 in
theorem against_ss (key first B0 S0 B1 S1 : List Int) (hk : key.length = 16) (huk : U8 key) (hf : first.length = 16) (huf : U8 first) (len0 cap0 len1 cap1 : Nat) (h0 : 0 < len0) (hl0 : len0 ≤ 3000) (hn0 : B0.length = len0) (hS0 : streamN key first B0 len0 = S0) (h1 : 0 < len1) (hl1 : len1 ≤ 3000) (hn1 : B1.length = len1) (hS1 : streamN key first B1 len1 = S1) (hp : ∀ k, k < len0 → k < len1 → xorK .u8 (S0.getD k 0) (S1.getD k 0) = xorK .u8 (B0.getD k 0) (B1.getD k 0))
    (c : Code) (hc : Try.f7.body = some c) (W : Nat → Prop) (w : World) (ρ0 : Rho) (hW : ∀ b, w.heap.size ≤ b → W b) (hdom : ∀ id, 2 ≤ id → ρ0 id = none) :
    Wp ⟨Try.prog, W, w, ρ0, 79, 2, hW, hdom⟩ c (argT 0 [.agg [.ints .u8 16 key], .agg [.ints .u8 16 first], .agg [.one (.slice 0 0 0 len0 cap0), .one (.slice 1 0 0 len1 cap1)]]) [some ⟨false, [.ints .u8 len0 B0]⟩, some ⟨false, [.ints .u8 len1 B1]⟩] (DoneF ⟨Try.prog, W, w, ρ0, 79, 2, hW, hdom⟩ Try.f7 (.s (.bool true))) := by
  cases hc
  have hB0 : B0 = (B0.drop 0).take len0 := by rw [← hn0]; simp
  have hA : decide ((len0 : Int) > 3000) = false := decide_eq_false (by omega)
  have hN0 : decide ((len0 : Int) ≠ (len0 : Int)) = false := decide_eq_false (by omega)
  have hB1 : B1 = (B1.drop 0).take len1 := by rw [← hn1]; simp
  have hB : decide ((len1 : Int) > 3000) = false := decide_eq_false (by omega)
  have hN1 : decide ((len1 : Int) ≠ (len1 : Int)) = false := decide_eq_false (by omega)
  refine w_seq ?_
  refine c_reg (by kernel_rfl) rfl ?_
  refine s_a (by first | exact h_box_agg rfl rfl | exact h_box rfl (by simp) rfl) rfl ?_
  refine s_a (by first | exact h_box_agg rfl rfl | exact h_box rfl (by simp) rfl) rfl ?_
  refine s_a (by first | exact h_box_agg rfl rfl | exact h_box rfl (by simp) rfl) rfl ?_
  refine s_p (by first | exact h_assign (v := .s _) rfl | exact h_assign (v := .agg _) rfl | exact h_assign (v := .tup _) rfl) ?_
  refine s_nil ?_
  refine n_wp ?_
  refine w_seq ?_
  refine w_seq ?_
  refine c_reg (by kernel_rfl) rfl ?_
  refine s_p (h_ixl 0 rfl rfl rfl Try.underlying38 Try.sizeOf29 (by omega)) ?_
  refine s_p (by first | exact h_load_one rfl rfl rfl Try.isAgg29 | exact h_load rfl rfl rfl Try.isAgg29) ?_
  refine s_p (by first | exact h_len rfl Try.underlying29 | exact h_len_nil rfl Try.underlying29 | exact h_len_val rfl Try.underlying29) ?_
  refine s_p (h_bin rfl rfl (b_gtr rfl)) ?_
  refine s_p (by first | exact h_move (v := .s _) rfl | exact h_move (v := .agg _) rfl | exact h_move (v := .tup _) rfl) ?_
  first | refine s_on rfl rfl (by first | rfl | assumption) (h_ixl 1 rfl rfl rfl Try.underlying38 Try.sizeOf29 (by omega)) ?_ | refine s_off rfl rfl (by first | rfl | assumption) ?_
  first | refine s_on rfl rfl (by first | rfl | assumption) (by first | exact h_load_one rfl rfl rfl Try.isAgg29 | exact h_load rfl rfl rfl Try.isAgg29) ?_ | refine s_off rfl rfl (by first | rfl | assumption) ?_
  first | refine s_on rfl rfl (by first | rfl | assumption) (by first | exact h_len rfl Try.underlying29 | exact h_len_nil rfl Try.underlying29 | exact h_len_val rfl Try.underlying29) ?_ | refine s_off rfl rfl (by first | rfl | assumption) ?_
  first | refine s_on rfl rfl (by first | rfl | assumption) (h_bin rfl rfl (b_gtr rfl)) ?_ | refine s_off rfl rfl (by first | rfl | assumption) ?_
  refine s_p (by first | exact h_pick_t rfl (by first | rfl | assumption) rfl | exact h_pick_f rfl (by first | rfl | assumption) rfl) ?_
  refine s_nil ?_
  refine n_wp ?_
  refine w_cond rfl (fun hc_t19 => ?_) (fun hc_t19 => ?_)
  · exact absurd hc_t19 (by first | exact fun h => Bool.false_ne_true (hB.symm.trans h) | exact fun h => Bool.false_ne_true (hN1.symm.trans h) | exact fun h => Bool.false_ne_true (hA.symm.trans h) | exact fun h => Bool.false_ne_true (hN0.symm.trans h) | simp)
  refine w_skip ?_
  refine n_wp ?_
  refine w_seq ?_
  refine c_reg (by kernel_rfl) rfl ?_
  refine s_p (by first | exact h_load_agg rfl rfl (.whole rfl) Try.isAgg22 Try.sizeOf22 | exact h_load_agg rfl rfl (.seg rfl rfl) Try.isAgg22 Try.sizeOf22 | exact h_load_agg rfl rfl (.ints rfl (by omega)) Try.isAgg22 Try.sizeOf22) ?_
  refine s_p (by first | exact h_load_agg rfl rfl (.whole rfl) Try.isAgg22 Try.sizeOf22 | exact h_load_agg rfl rfl (.seg rfl rfl) Try.isAgg22 Try.sizeOf22 | exact h_load_agg rfl rfl (.ints rfl (by omega)) Try.isAgg22 Try.sizeOf22) ?_
  refine s_p (h_ixl 0 rfl rfl rfl Try.underlying38 Try.sizeOf29 (by omega)) ?_
  refine s_p (by first | exact h_load_one rfl rfl rfl Try.isAgg29 | exact h_load rfl rfl rfl Try.isAgg29) ?_
  refine s_a (h_call callable_26 rfl (stream_c key first B0 hk huk hf huf len0 cap0 h0 (by omega) _ 0 0 0 len0 _ B0 rfl rfl (by omega) hB0)) rfl ?_
  refine s_p (by first | exact h_assign (v := .s _) rfl | exact h_assign (v := .agg _) rfl | exact h_assign (v := .tup _) rfl) ?_
  refine s_nil ?_
  refine n_wp ?_
  refine w_seq ?_
  refine c_reg (by kernel_rfl) rfl ?_
  refine s_p (by first | exact h_load_agg rfl rfl (.whole rfl) Try.isAgg22 Try.sizeOf22 | exact h_load_agg rfl rfl (.seg rfl rfl) Try.isAgg22 Try.sizeOf22 | exact h_load_agg rfl rfl (.ints rfl (by omega)) Try.isAgg22 Try.sizeOf22) ?_
  refine s_p (by first | exact h_load_agg rfl rfl (.whole rfl) Try.isAgg22 Try.sizeOf22 | exact h_load_agg rfl rfl (.seg rfl rfl) Try.isAgg22 Try.sizeOf22 | exact h_load_agg rfl rfl (.ints rfl (by omega)) Try.isAgg22 Try.sizeOf22) ?_
  refine s_p (h_ixl 1 rfl rfl rfl Try.underlying38 Try.sizeOf29 (by omega)) ?_
  refine s_p (by first | exact h_load_one rfl rfl rfl Try.isAgg29 | exact h_load rfl rfl rfl Try.isAgg29) ?_
  refine s_a (h_call callable_26 rfl (stream_c key first B1 hk huk hf huf len1 cap1 h1 (by omega) _ 1 0 0 len1 _ B1 rfl rfl (by omega) hB1)) rfl ?_
  refine s_p (by first | exact h_assign (v := .s _) rfl | exact h_assign (v := .agg _) rfl | exact h_assign (v := .tup _) rfl) ?_
  refine s_nil ?_
  rw [hS0]
  rw [hS1]
  refine n_wp ?_
  refine w_seq ?_
  refine w_seq ?_
  refine c_reg (by kernel_rfl) rfl ?_
  refine s_p (by first | exact h_move (v := .s _) rfl | exact h_move (v := .agg _) rfl | exact h_move (v := .tup _) rfl) ?_
  refine s_p (by first | exact h_len rfl Try.underlying29 | exact h_len_nil rfl Try.underlying29 | exact h_len_val rfl Try.underlying29) ?_
  refine s_p (h_ixl 0 rfl rfl rfl Try.underlying38 Try.sizeOf29 (by omega)) ?_
  refine s_p (by first | exact h_load_one rfl rfl rfl Try.isAgg29 | exact h_load rfl rfl rfl Try.isAgg29) ?_
  refine s_p (by first | exact h_len rfl Try.underlying29 | exact h_len_nil rfl Try.underlying29 | exact h_len_val rfl Try.underlying29) ?_
  refine s_p (h_bin rfl rfl (b_neq rfl)) ?_
  refine s_p (by first | exact h_move (v := .s _) rfl | exact h_move (v := .agg _) rfl | exact h_move (v := .tup _) rfl) ?_
  first | refine s_on rfl rfl (by first | rfl | assumption) (by first | exact h_move (v := .s _) rfl | exact h_move (v := .agg _) rfl | exact h_move (v := .tup _) rfl) ?_ | refine s_off rfl rfl (by first | rfl | assumption) ?_
  first | refine s_on rfl rfl (by first | rfl | assumption) (by first | exact h_len rfl Try.underlying29 | exact h_len_nil rfl Try.underlying29 | exact h_len_val rfl Try.underlying29) ?_ | refine s_off rfl rfl (by first | rfl | assumption) ?_
  first | refine s_on rfl rfl (by first | rfl | assumption) (h_ixl 1 rfl rfl rfl Try.underlying38 Try.sizeOf29 (by omega)) ?_ | refine s_off rfl rfl (by first | rfl | assumption) ?_
  first | refine s_on rfl rfl (by first | rfl | assumption) (by first | exact h_load_one rfl rfl rfl Try.isAgg29 | exact h_load rfl rfl rfl Try.isAgg29) ?_ | refine s_off rfl rfl (by first | rfl | assumption) ?_
  first | refine s_on rfl rfl (by first | rfl | assumption) (by first | exact h_len rfl Try.underlying29 | exact h_len_nil rfl Try.underlying29 | exact h_len_val rfl Try.underlying29) ?_ | refine s_off rfl rfl (by first | rfl | assumption) ?_
  first | refine s_on rfl rfl (by first | rfl | assumption) (h_bin rfl rfl (b_neq rfl)) ?_ | refine s_off rfl rfl (by first | rfl | assumption) ?_
  refine s_p (by first | exact h_pick_t rfl (by first | rfl | assumption) rfl | exact h_pick_f rfl (by first | rfl | assumption) rfl) ?_
  refine s_nil ?_
  refine n_wp ?_
  refine w_cond rfl (fun hc_t44 => ?_) (fun hc_t44 => ?_)
  · exact absurd hc_t44 (by first | exact fun h => Bool.false_ne_true (hB.symm.trans h) | exact fun h => Bool.false_ne_true (hN1.symm.trans h) | exact fun h => Bool.false_ne_true (hA.symm.trans h) | exact fun h => Bool.false_ne_true (hN0.symm.trans h) | simp)
  refine w_skip ?_
  refine n_wp ?_
  refine w_seq ?_
  refine w_seq ?_
  refine c_reg (by kernel_rfl) rfl ?_
  refine s_p (by first | exact h_assign (v := .s _) rfl | exact h_assign (v := .agg _) rfl | exact h_assign (v := .tup _) rfl) ?_
  refine s_nil ?_
  refine n_wp ?_
  refine w_block ?_
  refine c_loop (I7ss len0 cap0 len1 cap1  key first B0 S0 B1 S1) len0 ⟨0, by omega, rfl, rfl, rfl⟩ (weak' (by repeat (first | exact trivial | refine ⟨rfl, ?_⟩)) rfl rfl (Nat.le_of_ble_eq_true rfl)) ?_
  rintro n T H ⟨k, hk, rfl, rfl, rfl⟩
  refine w_seq ?_
  refine w_seq ?_
  rcases Nat.lt_or_ge k len0 with hk0 | hk0
  · have hg0 : decide ((k : Int) < (len0 : Int)) = true := decide_eq_true (by omega)
    refine c_reg (by kernel_rfl) rfl ?_
    refine s_p (by first | exact h_move (v := .s _) rfl | exact h_move (v := .agg _) rfl | exact h_move (v := .tup _) rfl) ?_
    refine s_p (by first | exact h_move (v := .s _) rfl | exact h_move (v := .agg _) rfl | exact h_move (v := .tup _) rfl) ?_
    refine s_p (by first | exact h_len rfl Try.underlying29 | exact h_len_nil rfl Try.underlying29 | exact h_len_val rfl Try.underlying29) ?_
    refine s_p (h_bin rfl rfl (b_lss rfl)) ?_
    refine s_p (by first | exact h_move (v := .s _) rfl | exact h_move (v := .agg _) rfl | exact h_move (v := .tup _) rfl) ?_
    first | refine s_on rfl rfl (by first | rfl | assumption) (by first | exact h_move (v := .s _) rfl | exact h_move (v := .agg _) rfl | exact h_move (v := .tup _) rfl) ?_ | refine s_off rfl rfl (by first | rfl | assumption) ?_
    first | refine s_on rfl rfl (by first | rfl | assumption) (by first | exact h_move (v := .s _) rfl | exact h_move (v := .agg _) rfl | exact h_move (v := .tup _) rfl) ?_ | refine s_off rfl rfl (by first | rfl | assumption) ?_
    first | refine s_on rfl rfl (by first | rfl | assumption) (by first | exact h_len rfl Try.underlying29 | exact h_len_nil rfl Try.underlying29 | exact h_len_val rfl Try.underlying29) ?_ | refine s_off rfl rfl (by first | rfl | assumption) ?_
    first | refine s_on rfl rfl (by first | rfl | assumption) (h_bin rfl rfl (b_lss rfl)) ?_ | refine s_off rfl rfl (by first | rfl | assumption) ?_
    refine s_p (by first | exact h_pick_t rfl (by first | rfl | assumption) rfl | exact h_pick_f rfl (by first | rfl | assumption) rfl) ?_
    refine s_nil ?_
    refine n_wp ?_
    refine w_cond rfl (fun hc_t54 => ?_) (fun hc_t54 => ?_)
    · skip
      have hlt : k < len1 := by have := of_decide_eq_true hc_t54; omega
      refine w_skip ?_
      refine n_wp ?_
      refine w_seq ?_
      refine w_block ?_
      refine w_seq ?_
      refine c_any 20 mix (by kernel_rfl) (by kernel_rfl) rfl rfl rfl ?_
      refine t_p (by first | exact h_move (v := .s _) rfl | exact h_move (v := .agg _) rfl | exact h_move (v := .tup _) rfl) ?_
      refine t_p (by first | exact h_move (v := .s _) rfl | exact h_move (v := .agg _) rfl | exact h_move (v := .tup _) rfl) ?_
      refine t_p (by first | exact h_ixs0 rfl rfl Try.underlying29 Try.sizeOf5 (by omega) | exact h_ixs rfl rfl Try.underlying29 Try.sizeOf5 (by omega) | exact h_ixsx rfl rfl Try.underlying29 Try.sizeOf5 (by omega)) ?_
      refine t_p (by first | exact h_load_ints rfl rfl rfl (by omega) rfl Try.isAgg5 | exact h_load_one rfl rfl rfl Try.isAgg5) ?_
      refine t_p (by first | exact h_move (v := .s _) rfl | exact h_move (v := .agg _) rfl | exact h_move (v := .tup _) rfl) ?_
      refine t_p (by first | exact h_move (v := .s _) rfl | exact h_move (v := .agg _) rfl | exact h_move (v := .tup _) rfl) ?_
      refine t_p (by first | exact h_ixs0 rfl rfl Try.underlying29 Try.sizeOf5 (by omega) | exact h_ixs rfl rfl Try.underlying29 Try.sizeOf5 (by omega) | exact h_ixsx rfl rfl Try.underlying29 Try.sizeOf5 (by omega)) ?_
      refine t_p (by first | exact h_load_ints rfl rfl rfl (by omega) rfl Try.isAgg5 | exact h_load_one rfl rfl rfl Try.isAgg5) ?_
      refine t_p (h_bin rfl rfl (b_xor rfl)) ?_
      refine t_p (h_ixl 0 rfl rfl rfl Try.underlying38 Try.sizeOf29 (by omega)) ?_
      refine t_p (by first | exact h_load_one rfl rfl rfl Try.isAgg29 | exact h_load rfl rfl rfl Try.isAgg29) ?_
      refine t_p (by first | exact h_move (v := .s _) rfl | exact h_move (v := .agg _) rfl | exact h_move (v := .tup _) rfl) ?_
      refine t_p (by first | exact h_ixs0 rfl rfl Try.underlying29 Try.sizeOf5 (by omega) | exact h_ixs rfl rfl Try.underlying29 Try.sizeOf5 (by omega) | exact h_ixsx rfl rfl Try.underlying29 Try.sizeOf5 (by omega)) ?_
      refine t_p (by first | exact h_load_ints rfl rfl rfl (by omega) rfl Try.isAgg5 | exact h_load_one rfl rfl rfl Try.isAgg5) ?_
      refine t_p (h_ixl 1 rfl rfl rfl Try.underlying38 Try.sizeOf29 (by omega)) ?_
      refine t_p (by first | exact h_load_one rfl rfl rfl Try.isAgg29 | exact h_load rfl rfl rfl Try.isAgg29) ?_
      refine t_p (by first | exact h_move (v := .s _) rfl | exact h_move (v := .agg _) rfl | exact h_move (v := .tup _) rfl) ?_
      refine t_p (by first | exact h_ixs0 rfl rfl Try.underlying29 Try.sizeOf5 (by omega) | exact h_ixs rfl rfl Try.underlying29 Try.sizeOf5 (by omega) | exact h_ixsx rfl rfl Try.underlying29 Try.sizeOf5 (by omega)) ?_
      refine t_p (by first | exact h_load_ints rfl rfl rfl (by omega) rfl Try.isAgg5 | exact h_load_one rfl rfl rfl Try.isAgg5) ?_
      refine t_p (h_bin rfl rfl (b_xor rfl)) ?_
      refine t_nil ?_
      refine s_p (h_bin rfl rfl (b_neq rfl)) ?_
      refine s_nil ?_
      refine n_wp ?_
      refine w_cond rfl (fun hc_t77 => ?_) (fun hc_t77 => ?_)
      · exact absurd hc_t77 (by exact fun h => of_decide_eq_true h (hp k (by omega) (by omega)))
      refine w_skip ?_
      refine n_blo ?_
      refine n_wp ?_
      refine c_reg (by kernel_rfl) rfl ?_
      refine s_p (by first | exact h_move (v := .s _) rfl | exact h_move (v := .agg _) rfl | exact h_move (v := .tup _) rfl) ?_
      refine s_p (by first | exact h_bin rfl rfl (b_add (Go.IntWalk.i64_in _ (by omega))) | exact h_bin rfl rfl (b_add rfl)) ?_
      refine s_p (by first | exact h_assign (v := .s _) rfl | exact h_assign (v := .agg _) rfl | exact h_assign (v := .tup _) rfl) ?_
      refine s_nil ?_
      exact n_round (len0 - (k + 1)) (by omega) ⟨k + 1, by omega, rfl, rfl, rfl⟩ (weak' (by repeat (first | exact trivial | refine ⟨rfl, ?_⟩)) rfl rfl (Nat.le_of_ble_eq_true rfl))
    · skip
      skip
      refine w_exit ?_
      refine x_thn ?_
      refine x_thn ?_
      refine x_eq ?_
      refine n_wp ?_
      refine w_seq ?_
      refine c_reg (by kernel_rfl) rfl ?_
      refine s_p (h_call callable_25 rfl (lives_c _)) ?_
      refine s_p (by first | exact h_assign (v := .s _) rfl | exact h_assign (v := .agg _) rfl | exact h_assign (v := .tup _) rfl) ?_
      refine s_nil ?_
      refine n_wp ?_
      refine w_ret ?_
      exact ⟨.inl rfl, ret_tmp Try.results7 rfl⟩
  · have hg0 : decide ((k : Int) < (len0 : Int)) = false := decide_eq_false (by omega)
    refine c_reg (by kernel_rfl) rfl ?_
    refine s_p (by first | exact h_move (v := .s _) rfl | exact h_move (v := .agg _) rfl | exact h_move (v := .tup _) rfl) ?_
    refine s_p (by first | exact h_move (v := .s _) rfl | exact h_move (v := .agg _) rfl | exact h_move (v := .tup _) rfl) ?_
    refine s_p (by first | exact h_len rfl Try.underlying29 | exact h_len_nil rfl Try.underlying29 | exact h_len_val rfl Try.underlying29) ?_
    refine s_p (h_bin rfl rfl (b_lss rfl)) ?_
    refine s_p (by first | exact h_move (v := .s _) rfl | exact h_move (v := .agg _) rfl | exact h_move (v := .tup _) rfl) ?_
    first | refine s_on rfl rfl (by first | rfl | assumption) (by first | exact h_move (v := .s _) rfl | exact h_move (v := .agg _) rfl | exact h_move (v := .tup _) rfl) ?_ | refine s_off rfl rfl (by first | rfl | assumption) ?_
    first | refine s_on rfl rfl (by first | rfl | assumption) (by first | exact h_move (v := .s _) rfl | exact h_move (v := .agg _) rfl | exact h_move (v := .tup _) rfl) ?_ | refine s_off rfl rfl (by first | rfl | assumption) ?_
    first | refine s_on rfl rfl (by first | rfl | assumption) (by first | exact h_len rfl Try.underlying29 | exact h_len_nil rfl Try.underlying29 | exact h_len_val rfl Try.underlying29) ?_ | refine s_off rfl rfl (by first | rfl | assumption) ?_
    first | refine s_on rfl rfl (by first | rfl | assumption) (h_bin rfl rfl (b_lss rfl)) ?_ | refine s_off rfl rfl (by first | rfl | assumption) ?_
    refine s_p (by first | exact h_pick_t rfl (by first | rfl | assumption) rfl | exact h_pick_f rfl (by first | rfl | assumption) rfl) ?_
    refine s_nil ?_
    refine n_wp ?_
    refine w_cond rfl (fun hc_t54 => ?_) (fun hc_t54 => ?_)
    · exact absurd hc_t54 (by first | exact fun h => Bool.false_ne_true (hg0.symm.trans h) | simp)
    refine w_exit ?_
    refine x_thn ?_
    refine x_thn ?_
    refine x_eq ?_
    refine n_wp ?_
    refine w_seq ?_
    refine c_reg (by kernel_rfl) rfl ?_
    refine s_p (h_call callable_25 rfl (lives_c _)) ?_
    refine s_p (by first | exact h_assign (v := .s _) rfl | exact h_assign (v := .agg _) rfl | exact h_assign (v := .tup _) rfl) ?_
    refine s_nil ?_
    refine n_wp ?_
    refine w_ret ?_
    exact ⟨.inl rfl, ret_tmp Try.results7 rfl⟩
def I7se (len0 cap0 cap1 : Nat) (a1 : Option Addr) (key first B0 S0 : List Int) (n : Nat) (T : Tm) (H : Heap) : Prop := ∃ k : Nat, k ≤ len0 ∧ n = len0 - k ∧ T = [(5, .s (.ptr 3 0 0)), (7, .s (.slice 4 0 0 len0 len0)), (8, .s (.nils)), (9, .s (.int .i64 k))] ∧ H = [some ⟨false, [.ints .u8 len0 B0]⟩, some ⟨true, [.ints .u8 16 key]⟩, some ⟨true, [.ints .u8 16 first]⟩, some ⟨true, [.one (.slice 0 0 0 len0 cap0), .one (.val (.slice a1 0 cap1))]⟩, some ⟨true, [.ints .u8 len0 S0]⟩]
set_option maxRecDepth 100000 in
set_option maxHeartbeats 2000000 in
theorem against_se (key first B0 S0 : List Int) (hk : key.length = 16) (huk : U8 key) (hf : first.length = 16) (huf : U8 first) (len0 cap0 cap1 : Nat) (a1 : Option Addr) (h0 : 0 < len0) (hl0 : len0 ≤ 3000) (hn0 : B0.length = len0) (hS0 : streamN key first B0 len0 = S0)
    (c : Code) (hc : Try.f7.body = some c) (W : Nat → Prop) (w : World) (ρ0 : Rho) (hW : ∀ b, w.heap.size ≤ b → W b) (hdom : ∀ id, 1 ≤ id → ρ0 id = none) :
    Wp ⟨Try.prog, W, w, ρ0, 79, 1, hW, hdom⟩ c (argT 0 [.agg [.ints .u8 16 key], .agg [.ints .u8 16 first], .agg [.one (.slice 0 0 0 len0 cap0), .one (.val (.slice a1 0 cap1))]]) [some ⟨false, [.ints .u8 len0 B0]⟩] (DoneF ⟨Try.prog, W, w, ρ0, 79, 1, hW, hdom⟩ Try.f7 (.s (.bool true))) := by
  cases hc
  have hB0 : B0 = (B0.drop 0).take len0 := by rw [← hn0]; simp
  have hA : decide ((len0 : Int) > 3000) = false := decide_eq_false (by omega)
  have hN0 : decide ((len0 : Int) ≠ (len0 : Int)) = false := decide_eq_false (by omega)
  refine w_seq ?_
  refine c_reg (by kernel_rfl) rfl ?_
  refine s_a (by first | exact h_box_agg rfl rfl | exact h_box rfl (by simp) rfl) rfl ?_
  refine s_a (by first | exact h_box_agg rfl rfl | exact h_box rfl (by simp) rfl) rfl ?_
  refine s_a (by first | exact h_box_agg rfl rfl | exact h_box rfl (by simp) rfl) rfl ?_
  refine s_p (by first | exact h_assign (v := .s _) rfl | exact h_assign (v := .agg _) rfl | exact h_assign (v := .tup _) rfl) ?_
  refine s_nil ?_
  refine n_wp ?_
  refine w_seq ?_
  refine w_seq ?_
  refine c_reg (by kernel_rfl) rfl ?_
  refine s_p (h_ixl 0 rfl rfl rfl Try.underlying38 Try.sizeOf29 (by omega)) ?_
  refine s_p (by first | exact h_load_one rfl rfl rfl Try.isAgg29 | exact h_load rfl rfl rfl Try.isAgg29) ?_
  refine s_p (by first | exact h_len rfl Try.underlying29 | exact h_len_nil rfl Try.underlying29 | exact h_len_val rfl Try.underlying29) ?_
  refine s_p (h_bin rfl rfl (b_gtr rfl)) ?_
  refine s_p (by first | exact h_move (v := .s _) rfl | exact h_move (v := .agg _) rfl | exact h_move (v := .tup _) rfl) ?_
  first | refine s_on rfl rfl (by first | rfl | assumption) (h_ixl 1 rfl rfl rfl Try.underlying38 Try.sizeOf29 (by omega)) ?_ | refine s_off rfl rfl (by first | rfl | assumption) ?_
  first | refine s_on rfl rfl (by first | rfl | assumption) (by first | exact h_load_one rfl rfl rfl Try.isAgg29 | exact h_load rfl rfl rfl Try.isAgg29) ?_ | refine s_off rfl rfl (by first | rfl | assumption) ?_
  first | refine s_on rfl rfl (by first | rfl | assumption) (by first | exact h_len rfl Try.underlying29 | exact h_len_nil rfl Try.underlying29 | exact h_len_val rfl Try.underlying29) ?_ | refine s_off rfl rfl (by first | rfl | assumption) ?_
  first | refine s_on rfl rfl (by first | rfl | assumption) (h_bin rfl rfl (b_gtr rfl)) ?_ | refine s_off rfl rfl (by first | rfl | assumption) ?_
  refine s_p (by first | exact h_pick_t rfl (by first | rfl | assumption) rfl | exact h_pick_f rfl (by first | rfl | assumption) rfl) ?_
  refine s_nil ?_
  refine n_wp ?_
  refine w_cond rfl (fun hc_t19 => ?_) (fun hc_t19 => ?_)
  · exact absurd hc_t19 (by first | exact fun h => Bool.false_ne_true (hB.symm.trans h) | exact fun h => Bool.false_ne_true (hN1.symm.trans h) | exact fun h => Bool.false_ne_true (hA.symm.trans h) | exact fun h => Bool.false_ne_true (hN0.symm.trans h) | simp)
  refine w_skip ?_
  refine n_wp ?_
  refine w_seq ?_
  refine c_reg (by kernel_rfl) rfl ?_
  refine s_p (by first | exact h_load_agg rfl rfl (.whole rfl) Try.isAgg22 Try.sizeOf22 | exact h_load_agg rfl rfl (.seg rfl rfl) Try.isAgg22 Try.sizeOf22 | exact h_load_agg rfl rfl (.ints rfl (by omega)) Try.isAgg22 Try.sizeOf22) ?_
  refine s_p (by first | exact h_load_agg rfl rfl (.whole rfl) Try.isAgg22 Try.sizeOf22 | exact h_load_agg rfl rfl (.seg rfl rfl) Try.isAgg22 Try.sizeOf22 | exact h_load_agg rfl rfl (.ints rfl (by omega)) Try.isAgg22 Try.sizeOf22) ?_
  refine s_p (h_ixl 0 rfl rfl rfl Try.underlying38 Try.sizeOf29 (by omega)) ?_
  refine s_p (by first | exact h_load_one rfl rfl rfl Try.isAgg29 | exact h_load rfl rfl rfl Try.isAgg29) ?_
  refine s_a (h_call callable_26 rfl (stream_c key first B0 hk huk hf huf len0 cap0 h0 (by omega) _ 0 0 0 len0 _ B0 rfl rfl (by omega) hB0)) rfl ?_
  refine s_p (by first | exact h_assign (v := .s _) rfl | exact h_assign (v := .agg _) rfl | exact h_assign (v := .tup _) rfl) ?_
  refine s_nil ?_
  refine n_wp ?_
  refine w_seq ?_
  refine c_reg (by kernel_rfl) rfl ?_
  refine s_p (by first | exact h_load_agg rfl rfl (.whole rfl) Try.isAgg22 Try.sizeOf22 | exact h_load_agg rfl rfl (.seg rfl rfl) Try.isAgg22 Try.sizeOf22 | exact h_load_agg rfl rfl (.ints rfl (by omega)) Try.isAgg22 Try.sizeOf22) ?_
  refine s_p (by first | exact h_load_agg rfl rfl (.whole rfl) Try.isAgg22 Try.sizeOf22 | exact h_load_agg rfl rfl (.seg rfl rfl) Try.isAgg22 Try.sizeOf22 | exact h_load_agg rfl rfl (.ints rfl (by omega)) Try.isAgg22 Try.sizeOf22) ?_
  refine s_p (h_ixl 1 rfl rfl rfl Try.underlying38 Try.sizeOf29 (by omega)) ?_
  refine s_p (by first | exact h_load_one rfl rfl rfl Try.isAgg29 | exact h_load rfl rfl rfl Try.isAgg29) ?_
  refine s_p (h_call callable_26 rfl (stream_e key first a1 cap1 _)) ?_
  refine s_p (by first | exact h_assign (v := .s _) rfl | exact h_assign (v := .agg _) rfl | exact h_assign (v := .tup _) rfl) ?_
  refine s_nil ?_
  rw [hS0]
  refine n_wp ?_
  refine w_seq ?_
  refine w_seq ?_
  refine c_reg (by kernel_rfl) rfl ?_
  refine s_p (by first | exact h_move (v := .s _) rfl | exact h_move (v := .agg _) rfl | exact h_move (v := .tup _) rfl) ?_
  refine s_p (by first | exact h_len rfl Try.underlying29 | exact h_len_nil rfl Try.underlying29 | exact h_len_val rfl Try.underlying29) ?_
  refine s_p (h_ixl 0 rfl rfl rfl Try.underlying38 Try.sizeOf29 (by omega)) ?_
  refine s_p (by first | exact h_load_one rfl rfl rfl Try.isAgg29 | exact h_load rfl rfl rfl Try.isAgg29) ?_
  refine s_p (by first | exact h_len rfl Try.underlying29 | exact h_len_nil rfl Try.underlying29 | exact h_len_val rfl Try.underlying29) ?_
  refine s_p (h_bin rfl rfl (b_neq rfl)) ?_
  refine s_p (by first | exact h_move (v := .s _) rfl | exact h_move (v := .agg _) rfl | exact h_move (v := .tup _) rfl) ?_
  first | refine s_on rfl rfl (by first | rfl | assumption) (by first | exact h_move (v := .s _) rfl | exact h_move (v := .agg _) rfl | exact h_move (v := .tup _) rfl) ?_ | refine s_off rfl rfl (by first | rfl | assumption) ?_
  first | refine s_on rfl rfl (by first | rfl | assumption) (by first | exact h_len rfl Try.underlying29 | exact h_len_nil rfl Try.underlying29 | exact h_len_val rfl Try.underlying29) ?_ | refine s_off rfl rfl (by first | rfl | assumption) ?_
  first | refine s_on rfl rfl (by first | rfl | assumption) (h_ixl 1 rfl rfl rfl Try.underlying38 Try.sizeOf29 (by omega)) ?_ | refine s_off rfl rfl (by first | rfl | assumption) ?_
  first | refine s_on rfl rfl (by first | rfl | assumption) (by first | exact h_load_one rfl rfl rfl Try.isAgg29 | exact h_load rfl rfl rfl Try.isAgg29) ?_ | refine s_off rfl rfl (by first | rfl | assumption) ?_
  first | refine s_on rfl rfl (by first | rfl | assumption) (by first | exact h_len rfl Try.underlying29 | exact h_len_nil rfl Try.underlying29 | exact h_len_val rfl Try.underlying29) ?_ | refine s_off rfl rfl (by first | rfl | assumption) ?_
  first | refine s_on rfl rfl (by first | rfl | assumption) (h_bin rfl rfl (b_neq rfl)) ?_ | refine s_off rfl rfl (by first | rfl | assumption) ?_
  refine s_p (by first | exact h_pick_t rfl (by first | rfl | assumption) rfl | exact h_pick_f rfl (by first | rfl | assumption) rfl) ?_
  refine s_nil ?_
  refine n_wp ?_
  refine w_cond rfl (fun hc_t44 => ?_) (fun hc_t44 => ?_)
  · exact absurd hc_t44 (by first | exact fun h => Bool.false_ne_true (hB.symm.trans h) | exact fun h => Bool.false_ne_true (hN1.symm.trans h) | exact fun h => Bool.false_ne_true (hA.symm.trans h) | exact fun h => Bool.false_ne_true (hN0.symm.trans h) | simp)
  refine w_skip ?_
  refine n_wp ?_
  refine w_seq ?_
  refine w_seq ?_
  refine c_reg (by kernel_rfl) rfl ?_
  refine s_p (by first | exact h_assign (v := .s _) rfl | exact h_assign (v := .agg _) rfl | exact h_assign (v := .tup _) rfl) ?_
  refine s_nil ?_
  refine n_wp ?_
  refine w_block ?_
  refine c_loop (I7se len0 cap0 cap1 a1 key first B0 S0) len0 ⟨0, by omega, rfl, rfl, rfl⟩ (weak' (by repeat (first | exact trivial | refine ⟨rfl, ?_⟩)) rfl rfl (Nat.le_of_ble_eq_true rfl)) ?_
  rintro n T H ⟨k, hk, rfl, rfl, rfl⟩
  refine w_seq ?_
  refine w_seq ?_
  rcases Nat.lt_or_ge k len0 with hk0 | hk0
  · have hg0 : decide ((k : Int) < (len0 : Int)) = true := decide_eq_true (by omega)
    refine c_reg (by kernel_rfl) rfl ?_
    refine s_p (by first | exact h_move (v := .s _) rfl | exact h_move (v := .agg _) rfl | exact h_move (v := .tup _) rfl) ?_
    refine s_p (by first | exact h_move (v := .s _) rfl | exact h_move (v := .agg _) rfl | exact h_move (v := .tup _) rfl) ?_
    refine s_p (by first | exact h_len rfl Try.underlying29 | exact h_len_nil rfl Try.underlying29 | exact h_len_val rfl Try.underlying29) ?_
    refine s_p (h_bin rfl rfl (b_lss rfl)) ?_
    refine s_p (by first | exact h_move (v := .s _) rfl | exact h_move (v := .agg _) rfl | exact h_move (v := .tup _) rfl) ?_
    first | refine s_on rfl rfl (by first | rfl | assumption) (by first | exact h_move (v := .s _) rfl | exact h_move (v := .agg _) rfl | exact h_move (v := .tup _) rfl) ?_ | refine s_off rfl rfl (by first | rfl | assumption) ?_
    first | refine s_on rfl rfl (by first | rfl | assumption) (by first | exact h_move (v := .s _) rfl | exact h_move (v := .agg _) rfl | exact h_move (v := .tup _) rfl) ?_ | refine s_off rfl rfl (by first | rfl | assumption) ?_
    first | refine s_on rfl rfl (by first | rfl | assumption) (by first | exact h_len rfl Try.underlying29 | exact h_len_nil rfl Try.underlying29 | exact h_len_val rfl Try.underlying29) ?_ | refine s_off rfl rfl (by first | rfl | assumption) ?_
    first | refine s_on rfl rfl (by first | rfl | assumption) (h_bin rfl rfl (b_lss rfl)) ?_ | refine s_off rfl rfl (by first | rfl | assumption) ?_
    refine s_p (by first | exact h_pick_t rfl (by first | rfl | assumption) rfl | exact h_pick_f rfl (by first | rfl | assumption) rfl) ?_
    refine s_nil ?_
    refine n_wp ?_
    refine w_cond rfl (fun hc_t54 => ?_) (fun hc_t54 => ?_)
    · exact absurd hc_t54 (by exact fun h => by have := of_decide_eq_true h; omega)
    refine w_exit ?_
    refine x_thn ?_
    refine x_thn ?_
    refine x_eq ?_
    refine n_wp ?_
    refine w_seq ?_
    refine c_reg (by kernel_rfl) rfl ?_
    refine s_p (h_call callable_25 rfl (lives_c _)) ?_
    refine s_p (by first | exact h_assign (v := .s _) rfl | exact h_assign (v := .agg _) rfl | exact h_assign (v := .tup _) rfl) ?_
    refine s_nil ?_
    refine n_wp ?_
    refine w_ret ?_
    exact ⟨.inl rfl, ret_tmp Try.results7 rfl⟩
  · have hg0 : decide ((k : Int) < (len0 : Int)) = false := decide_eq_false (by omega)
    refine c_reg (by kernel_rfl) rfl ?_
    refine s_p (by first | exact h_move (v := .s _) rfl | exact h_move (v := .agg _) rfl | exact h_move (v := .tup _) rfl) ?_
    refine s_p (by first | exact h_move (v := .s _) rfl | exact h_move (v := .agg _) rfl | exact h_move (v := .tup _) rfl) ?_
    refine s_p (by first | exact h_len rfl Try.underlying29 | exact h_len_nil rfl Try.underlying29 | exact h_len_val rfl Try.underlying29) ?_
    refine s_p (h_bin rfl rfl (b_lss rfl)) ?_
    refine s_p (by first | exact h_move (v := .s _) rfl | exact h_move (v := .agg _) rfl | exact h_move (v := .tup _) rfl) ?_
    first | refine s_on rfl rfl (by first | rfl | assumption) (by first | exact h_move (v := .s _) rfl | exact h_move (v := .agg _) rfl | exact h_move (v := .tup _) rfl) ?_ | refine s_off rfl rfl (by first | rfl | assumption) ?_
    first | refine s_on rfl rfl (by first | rfl | assumption) (by first | exact h_move (v := .s _) rfl | exact h_move (v := .agg _) rfl | exact h_move (v := .tup _) rfl) ?_ | refine s_off rfl rfl (by first | rfl | assumption) ?_
    first | refine s_on rfl rfl (by first | rfl | assumption) (by first | exact h_len rfl Try.underlying29 | exact h_len_nil rfl Try.underlying29 | exact h_len_val rfl Try.underlying29) ?_ | refine s_off rfl rfl (by first | rfl | assumption) ?_
    first | refine s_on rfl rfl (by first | rfl | assumption) (h_bin rfl rfl (b_lss rfl)) ?_ | refine s_off rfl rfl (by first | rfl | assumption) ?_
    refine s_p (by first | exact h_pick_t rfl (by first | rfl | assumption) rfl | exact h_pick_f rfl (by first | rfl | assumption) rfl) ?_
    refine s_nil ?_
    refine n_wp ?_
    refine w_cond rfl (fun hc_t54 => ?_) (fun hc_t54 => ?_)
    · exact absurd hc_t54 (by first | exact fun h => Bool.false_ne_true (hg0.symm.trans h) | simp)
    refine w_exit ?_
    refine x_thn ?_
    refine x_thn ?_
    refine x_eq ?_
    refine n_wp ?_
    refine w_seq ?_
    refine c_reg (by kernel_rfl) rfl ?_
    refine s_p (h_call callable_25 rfl (lives_c _)) ?_
    refine s_p (by first | exact h_assign (v := .s _) rfl | exact h_assign (v := .agg _) rfl | exact h_assign (v := .tup _) rfl) ?_
    refine s_nil ?_
    refine n_wp ?_
    refine w_ret ?_
    exact ⟨.inl rfl, ret_tmp Try.results7 rfl⟩
def I7es (cap0 len1 cap1 : Nat) (a0 : Option Addr) (key first B1 S1 : List Int) (n : Nat) (T : Tm) (H : Heap) : Prop := ∃ k : Nat, k ≤ 0 ∧ n = 0 - k ∧ T = [(5, .s (.ptr 3 0 0)), (7, .s (.nils)), (8, .s (.slice 4 0 0 len1 len1)), (9, .s (.int .i64 k))] ∧ H = [some ⟨false, [.ints .u8 len1 B1]⟩, some ⟨true, [.ints .u8 16 key]⟩, some ⟨true, [.ints .u8 16 first]⟩, some ⟨true, [.one (.val (.slice a0 0 cap0)), .one (.slice 0 0 0 len1 cap1)]⟩, some ⟨true, [.ints .u8 len1 S1]⟩]
set_option maxRecDepth 100000 in
set_option maxHeartbeats 2000000 in
theorem against_es (key first B1 S1 : List Int) (hk : key.length = 16) (huk : U8 key) (hf : first.length = 16) (huf : U8 first) (cap0 len1 cap1 : Nat) (a0 : Option Addr) (h1 : 0 < len1) (hl1 : len1 ≤ 3000) (hn1 : B1.length = len1) (hS1 : streamN key first B1 len1 = S1)
    (c : Code) (hc : Try.f7.body = some c) (W : Nat → Prop) (w : World) (ρ0 : Rho) (hW : ∀ b, w.heap.size ≤ b → W b) (hdom : ∀ id, 1 ≤ id → ρ0 id = none) :
    Wp ⟨Try.prog, W, w, ρ0, 79, 1, hW, hdom⟩ c (argT 0 [.agg [.ints .u8 16 key], .agg [.ints .u8 16 first], .agg [.one (.val (.slice a0 0 cap0)), .one (.slice 0 0 0 len1 cap1)]]) [some ⟨false, [.ints .u8 len1 B1]⟩] (DoneF ⟨Try.prog, W, w, ρ0, 79, 1, hW, hdom⟩ Try.f7 (.s (.bool true))) := by
  cases hc
  have hB1 : B1 = (B1.drop 0).take len1 := by rw [← hn1]; simp
  have hB : decide ((len1 : Int) > 3000) = false := decide_eq_false (by omega)
  have hN1 : decide ((len1 : Int) ≠ (len1 : Int)) = false := decide_eq_false (by omega)
  refine w_seq ?_
  refine c_reg (by kernel_rfl) rfl ?_
  refine s_a (by first | exact h_box_agg rfl rfl | exact h_box rfl (by simp) rfl) rfl ?_
  refine s_a (by first | exact h_box_agg rfl rfl | exact h_box rfl (by simp) rfl) rfl ?_
  refine s_a (by first | exact h_box_agg rfl rfl | exact h_box rfl (by simp) rfl) rfl ?_
  refine s_p (by first | exact h_assign (v := .s _) rfl | exact h_assign (v := .agg _) rfl | exact h_assign (v := .tup _) rfl) ?_
  refine s_nil ?_
  refine n_wp ?_
  refine w_seq ?_
  refine w_seq ?_
  refine c_reg (by kernel_rfl) rfl ?_
  refine s_p (h_ixl 0 rfl rfl rfl Try.underlying38 Try.sizeOf29 (by omega)) ?_
  refine s_p (by first | exact h_load_one rfl rfl rfl Try.isAgg29 | exact h_load rfl rfl rfl Try.isAgg29) ?_
  refine s_p (by first | exact h_len rfl Try.underlying29 | exact h_len_nil rfl Try.underlying29 | exact h_len_val rfl Try.underlying29) ?_
  refine s_p (h_bin rfl rfl (b_gtr rfl)) ?_
  refine s_p (by first | exact h_move (v := .s _) rfl | exact h_move (v := .agg _) rfl | exact h_move (v := .tup _) rfl) ?_
  first | refine s_on rfl rfl (by first | rfl | assumption) (h_ixl 1 rfl rfl rfl Try.underlying38 Try.sizeOf29 (by omega)) ?_ | refine s_off rfl rfl (by first | rfl | assumption) ?_
  first | refine s_on rfl rfl (by first | rfl | assumption) (by first | exact h_load_one rfl rfl rfl Try.isAgg29 | exact h_load rfl rfl rfl Try.isAgg29) ?_ | refine s_off rfl rfl (by first | rfl | assumption) ?_
  first | refine s_on rfl rfl (by first | rfl | assumption) (by first | exact h_len rfl Try.underlying29 | exact h_len_nil rfl Try.underlying29 | exact h_len_val rfl Try.underlying29) ?_ | refine s_off rfl rfl (by first | rfl | assumption) ?_
  first | refine s_on rfl rfl (by first | rfl | assumption) (h_bin rfl rfl (b_gtr rfl)) ?_ | refine s_off rfl rfl (by first | rfl | assumption) ?_
  refine s_p (by first | exact h_pick_t rfl (by first | rfl | assumption) rfl | exact h_pick_f rfl (by first | rfl | assumption) rfl) ?_
  refine s_nil ?_
  refine n_wp ?_
  refine w_cond rfl (fun hc_t19 => ?_) (fun hc_t19 => ?_)
  · exact absurd hc_t19 (by first | exact fun h => Bool.false_ne_true (hB.symm.trans h) | exact fun h => Bool.false_ne_true (hN1.symm.trans h) | exact fun h => Bool.false_ne_true (hA.symm.trans h) | exact fun h => Bool.false_ne_true (hN0.symm.trans h) | simp)
  refine w_skip ?_
  refine n_wp ?_
  refine w_seq ?_
  refine c_reg (by kernel_rfl) rfl ?_
  refine s_p (by first | exact h_load_agg rfl rfl (.whole rfl) Try.isAgg22 Try.sizeOf22 | exact h_load_agg rfl rfl (.seg rfl rfl) Try.isAgg22 Try.sizeOf22 | exact h_load_agg rfl rfl (.ints rfl (by omega)) Try.isAgg22 Try.sizeOf22) ?_
  refine s_p (by first | exact h_load_agg rfl rfl (.whole rfl) Try.isAgg22 Try.sizeOf22 | exact h_load_agg rfl rfl (.seg rfl rfl) Try.isAgg22 Try.sizeOf22 | exact h_load_agg rfl rfl (.ints rfl (by omega)) Try.isAgg22 Try.sizeOf22) ?_
  refine s_p (h_ixl 0 rfl rfl rfl Try.underlying38 Try.sizeOf29 (by omega)) ?_
  refine s_p (by first | exact h_load_one rfl rfl rfl Try.isAgg29 | exact h_load rfl rfl rfl Try.isAgg29) ?_
  refine s_p (h_call callable_26 rfl (stream_e key first a0 cap0 _)) ?_
  refine s_p (by first | exact h_assign (v := .s _) rfl | exact h_assign (v := .agg _) rfl | exact h_assign (v := .tup _) rfl) ?_
  refine s_nil ?_
  refine n_wp ?_
  refine w_seq ?_
  refine c_reg (by kernel_rfl) rfl ?_
  refine s_p (by first | exact h_load_agg rfl rfl (.whole rfl) Try.isAgg22 Try.sizeOf22 | exact h_load_agg rfl rfl (.seg rfl rfl) Try.isAgg22 Try.sizeOf22 | exact h_load_agg rfl rfl (.ints rfl (by omega)) Try.isAgg22 Try.sizeOf22) ?_
  refine s_p (by first | exact h_load_agg rfl rfl (.whole rfl) Try.isAgg22 Try.sizeOf22 | exact h_load_agg rfl rfl (.seg rfl rfl) Try.isAgg22 Try.sizeOf22 | exact h_load_agg rfl rfl (.ints rfl (by omega)) Try.isAgg22 Try.sizeOf22) ?_
  refine s_p (h_ixl 1 rfl rfl rfl Try.underlying38 Try.sizeOf29 (by omega)) ?_
  refine s_p (by first | exact h_load_one rfl rfl rfl Try.isAgg29 | exact h_load rfl rfl rfl Try.isAgg29) ?_
  refine s_a (h_call callable_26 rfl (stream_c key first B1 hk huk hf huf len1 cap1 h1 (by omega) _ 0 0 0 len1 _ B1 rfl rfl (by omega) hB1)) rfl ?_
  refine s_p (by first | exact h_assign (v := .s _) rfl | exact h_assign (v := .agg _) rfl | exact h_assign (v := .tup _) rfl) ?_
  refine s_nil ?_
  rw [hS1]
  refine n_wp ?_
  refine w_seq ?_
  refine w_seq ?_
  refine c_reg (by kernel_rfl) rfl ?_
  refine s_p (by first | exact h_move (v := .s _) rfl | exact h_move (v := .agg _) rfl | exact h_move (v := .tup _) rfl) ?_
  refine s_p (by first | exact h_len rfl Try.underlying29 | exact h_len_nil rfl Try.underlying29 | exact h_len_val rfl Try.underlying29) ?_
  refine s_p (h_ixl 0 rfl rfl rfl Try.underlying38 Try.sizeOf29 (by omega)) ?_
  refine s_p (by first | exact h_load_one rfl rfl rfl Try.isAgg29 | exact h_load rfl rfl rfl Try.isAgg29) ?_
  refine s_p (by first | exact h_len rfl Try.underlying29 | exact h_len_nil rfl Try.underlying29 | exact h_len_val rfl Try.underlying29) ?_
  refine s_p (h_bin rfl rfl (b_neq rfl)) ?_
  refine s_p (by first | exact h_move (v := .s _) rfl | exact h_move (v := .agg _) rfl | exact h_move (v := .tup _) rfl) ?_
  first | refine s_on rfl rfl (by first | rfl | assumption) (by first | exact h_move (v := .s _) rfl | exact h_move (v := .agg _) rfl | exact h_move (v := .tup _) rfl) ?_ | refine s_off rfl rfl (by first | rfl | assumption) ?_
  first | refine s_on rfl rfl (by first | rfl | assumption) (by first | exact h_len rfl Try.underlying29 | exact h_len_nil rfl Try.underlying29 | exact h_len_val rfl Try.underlying29) ?_ | refine s_off rfl rfl (by first | rfl | assumption) ?_
  first | refine s_on rfl rfl (by first | rfl | assumption) (h_ixl 1 rfl rfl rfl Try.underlying38 Try.sizeOf29 (by omega)) ?_ | refine s_off rfl rfl (by first | rfl | assumption) ?_
  first | refine s_on rfl rfl (by first | rfl | assumption) (by first | exact h_load_one rfl rfl rfl Try.isAgg29 | exact h_load rfl rfl rfl Try.isAgg29) ?_ | refine s_off rfl rfl (by first | rfl | assumption) ?_
  first | refine s_on rfl rfl (by first | rfl | assumption) (by first | exact h_len rfl Try.underlying29 | exact h_len_nil rfl Try.underlying29 | exact h_len_val rfl Try.underlying29) ?_ | refine s_off rfl rfl (by first | rfl | assumption) ?_
  first | refine s_on rfl rfl (by first | rfl | assumption) (h_bin rfl rfl (b_neq rfl)) ?_ | refine s_off rfl rfl (by first | rfl | assumption) ?_
  refine s_p (by first | exact h_pick_t rfl (by first | rfl | assumption) rfl | exact h_pick_f rfl (by first | rfl | assumption) rfl) ?_
  refine s_nil ?_
  refine n_wp ?_
  refine w_cond rfl (fun hc_t44 => ?_) (fun hc_t44 => ?_)
  · exact absurd hc_t44 (by first | exact fun h => Bool.false_ne_true (hB.symm.trans h) | exact fun h => Bool.false_ne_true (hN1.symm.trans h) | exact fun h => Bool.false_ne_true (hA.symm.trans h) | exact fun h => Bool.false_ne_true (hN0.symm.trans h) | simp)
  refine w_skip ?_
  refine n_wp ?_
  refine w_seq ?_
  refine w_seq ?_
  refine c_reg (by kernel_rfl) rfl ?_
  refine s_p (by first | exact h_assign (v := .s _) rfl | exact h_assign (v := .agg _) rfl | exact h_assign (v := .tup _) rfl) ?_
  refine s_nil ?_
  refine n_wp ?_
  refine w_block ?_
  refine c_loop (I7es cap0 len1 cap1 a0 key first B1 S1) 0 ⟨0, by omega, rfl, rfl, rfl⟩ (weak' (by repeat (first | exact trivial | refine ⟨rfl, ?_⟩)) rfl rfl (Nat.le_of_ble_eq_true rfl)) ?_
  rintro n T H ⟨k, hk, rfl, rfl, rfl⟩
  refine w_seq ?_
  refine w_seq ?_
  have hg0 : decide ((k : Int) < 0) = false := decide_eq_false (by omega)
  refine c_reg (by kernel_rfl) rfl ?_
  refine s_p (by first | exact h_move (v := .s _) rfl | exact h_move (v := .agg _) rfl | exact h_move (v := .tup _) rfl) ?_
  refine s_p (by first | exact h_move (v := .s _) rfl | exact h_move (v := .agg _) rfl | exact h_move (v := .tup _) rfl) ?_
  refine s_p (by first | exact h_len rfl Try.underlying29 | exact h_len_nil rfl Try.underlying29 | exact h_len_val rfl Try.underlying29) ?_
  refine s_p (h_bin rfl rfl (b_lss rfl)) ?_
  refine s_p (by first | exact h_move (v := .s _) rfl | exact h_move (v := .agg _) rfl | exact h_move (v := .tup _) rfl) ?_
  first | refine s_on rfl rfl (by first | rfl | assumption) (by first | exact h_move (v := .s _) rfl | exact h_move (v := .agg _) rfl | exact h_move (v := .tup _) rfl) ?_ | refine s_off rfl rfl (by first | rfl | assumption) ?_
  first | refine s_on rfl rfl (by first | rfl | assumption) (by first | exact h_move (v := .s _) rfl | exact h_move (v := .agg _) rfl | exact h_move (v := .tup _) rfl) ?_ | refine s_off rfl rfl (by first | rfl | assumption) ?_
  first | refine s_on rfl rfl (by first | rfl | assumption) (by first | exact h_len rfl Try.underlying29 | exact h_len_nil rfl Try.underlying29 | exact h_len_val rfl Try.underlying29) ?_ | refine s_off rfl rfl (by first | rfl | assumption) ?_
  first | refine s_on rfl rfl (by first | rfl | assumption) (h_bin rfl rfl (b_lss rfl)) ?_ | refine s_off rfl rfl (by first | rfl | assumption) ?_
  refine s_p (by first | exact h_pick_t rfl (by first | rfl | assumption) rfl | exact h_pick_f rfl (by first | rfl | assumption) rfl) ?_
  refine s_nil ?_
  refine n_wp ?_
  refine w_cond rfl (fun hc_t54 => ?_) (fun hc_t54 => ?_)
  · exact absurd hc_t54 (by first | exact fun h => Bool.false_ne_true (hg0.symm.trans h) | simp)
  refine w_exit ?_
  refine x_thn ?_
  refine x_thn ?_
  refine x_eq ?_
  refine n_wp ?_
  refine w_seq ?_
  refine c_reg (by kernel_rfl) rfl ?_
  refine s_p (h_call callable_25 rfl (lives_c _)) ?_
  refine s_p (by first | exact h_assign (v := .s _) rfl | exact h_assign (v := .agg _) rfl | exact h_assign (v := .tup _) rfl) ?_
  refine s_nil ?_
  refine n_wp ?_
  refine w_ret ?_
  exact ⟨.inl rfl, ret_tmp Try.results7 rfl⟩
def I7ee (cap0 cap1 : Nat) (a0 a1 : Option Addr) (key first : List Int) (n : Nat) (T : Tm) (H : Heap) : Prop := ∃ k : Nat, k ≤ 0 ∧ n = 0 - k ∧ T = [(5, .s (.ptr 2 0 0)), (7, .s (.nils)), (8, .s (.nils)), (9, .s (.int .i64 k))] ∧ H = [some ⟨true, [.ints .u8 16 key]⟩, some ⟨true, [.ints .u8 16 first]⟩, some ⟨true, [.one (.val (.slice a0 0 cap0)), .one (.val (.slice a1 0 cap1))]⟩]
set_option maxRecDepth 100000 in
set_option maxHeartbeats 2000000 in
theorem against_ee (key first : List Int) (hk : key.length = 16) (huk : U8 key) (hf : first.length = 16) (huf : U8 first) (cap0 cap1 : Nat) (a0 a1 : Option Addr)
    (c : Code) (hc : Try.f7.body = some c) (W : Nat → Prop) (w : World) (ρ0 : Rho) (hW : ∀ b, w.heap.size ≤ b → W b) (hdom : ∀ id, 0 ≤ id → ρ0 id = none) :
    Wp ⟨Try.prog, W, w, ρ0, 79, 0, hW, hdom⟩ c (argT 0 [.agg [.ints .u8 16 key], .agg [.ints .u8 16 first], .agg [.one (.val (.slice a0 0 cap0)), .one (.val (.slice a1 0 cap1))]]) [] (DoneF ⟨Try.prog, W, w, ρ0, 79, 0, hW, hdom⟩ Try.f7 (.s (.bool true))) := by
  cases hc
  refine w_seq ?_
  refine c_reg (by kernel_rfl) rfl ?_
  refine s_a (by first | exact h_box_agg rfl rfl | exact h_box rfl (by simp) rfl) rfl ?_
  refine s_a (by first | exact h_box_agg rfl rfl | exact h_box rfl (by simp) rfl) rfl ?_
  refine s_a (by first | exact h_box_agg rfl rfl | exact h_box rfl (by simp) rfl) rfl ?_
  refine s_p (by first | exact h_assign (v := .s _) rfl | exact h_assign (v := .agg _) rfl | exact h_assign (v := .tup _) rfl) ?_
  refine s_nil ?_
  refine n_wp ?_
  refine w_seq ?_
  refine w_seq ?_
  refine c_reg (by kernel_rfl) rfl ?_
  refine s_p (h_ixl 0 rfl rfl rfl Try.underlying38 Try.sizeOf29 (by omega)) ?_
  refine s_p (by first | exact h_load_one rfl rfl rfl Try.isAgg29 | exact h_load rfl rfl rfl Try.isAgg29) ?_
  refine s_p (by first | exact h_len rfl Try.underlying29 | exact h_len_nil rfl Try.underlying29 | exact h_len_val rfl Try.underlying29) ?_
  refine s_p (h_bin rfl rfl (b_gtr rfl)) ?_
  refine s_p (by first | exact h_move (v := .s _) rfl | exact h_move (v := .agg _) rfl | exact h_move (v := .tup _) rfl) ?_
  first | refine s_on rfl rfl (by first | rfl | assumption) (h_ixl 1 rfl rfl rfl Try.underlying38 Try.sizeOf29 (by omega)) ?_ | refine s_off rfl rfl (by first | rfl | assumption) ?_
  first | refine s_on rfl rfl (by first | rfl | assumption) (by first | exact h_load_one rfl rfl rfl Try.isAgg29 | exact h_load rfl rfl rfl Try.isAgg29) ?_ | refine s_off rfl rfl (by first | rfl | assumption) ?_
  first | refine s_on rfl rfl (by first | rfl | assumption) (by first | exact h_len rfl Try.underlying29 | exact h_len_nil rfl Try.underlying29 | exact h_len_val rfl Try.underlying29) ?_ | refine s_off rfl rfl (by first | rfl | assumption) ?_
  first | refine s_on rfl rfl (by first | rfl | assumption) (h_bin rfl rfl (b_gtr rfl)) ?_ | refine s_off rfl rfl (by first | rfl | assumption) ?_
  refine s_p (by first | exact h_pick_t rfl (by first | rfl | assumption) rfl | exact h_pick_f rfl (by first | rfl | assumption) rfl) ?_
  refine s_nil ?_
  refine n_wp ?_
  refine w_cond rfl (fun hc_t19 => ?_) (fun hc_t19 => ?_)
  · exact absurd hc_t19 (by first | exact fun h => Bool.false_ne_true (hB.symm.trans h) | exact fun h => Bool.false_ne_true (hN1.symm.trans h) | exact fun h => Bool.false_ne_true (hA.symm.trans h) | exact fun h => Bool.false_ne_true (hN0.symm.trans h) | simp)
  refine w_skip ?_
  refine n_wp ?_
  refine w_seq ?_
  refine c_reg (by kernel_rfl) rfl ?_
  refine s_p (by first | exact h_load_agg rfl rfl (.whole rfl) Try.isAgg22 Try.sizeOf22 | exact h_load_agg rfl rfl (.seg rfl rfl) Try.isAgg22 Try.sizeOf22 | exact h_load_agg rfl rfl (.ints rfl (by omega)) Try.isAgg22 Try.sizeOf22) ?_
  refine s_p (by first | exact h_load_agg rfl rfl (.whole rfl) Try.isAgg22 Try.sizeOf22 | exact h_load_agg rfl rfl (.seg rfl rfl) Try.isAgg22 Try.sizeOf22 | exact h_load_agg rfl rfl (.ints rfl (by omega)) Try.isAgg22 Try.sizeOf22) ?_
  refine s_p (h_ixl 0 rfl rfl rfl Try.underlying38 Try.sizeOf29 (by omega)) ?_
  refine s_p (by first | exact h_load_one rfl rfl rfl Try.isAgg29 | exact h_load rfl rfl rfl Try.isAgg29) ?_
  refine s_p (h_call callable_26 rfl (stream_e key first a0 cap0 _)) ?_
  refine s_p (by first | exact h_assign (v := .s _) rfl | exact h_assign (v := .agg _) rfl | exact h_assign (v := .tup _) rfl) ?_
  refine s_nil ?_
  refine n_wp ?_
  refine w_seq ?_
  refine c_reg (by kernel_rfl) rfl ?_
  refine s_p (by first | exact h_load_agg rfl rfl (.whole rfl) Try.isAgg22 Try.sizeOf22 | exact h_load_agg rfl rfl (.seg rfl rfl) Try.isAgg22 Try.sizeOf22 | exact h_load_agg rfl rfl (.ints rfl (by omega)) Try.isAgg22 Try.sizeOf22) ?_
  refine s_p (by first | exact h_load_agg rfl rfl (.whole rfl) Try.isAgg22 Try.sizeOf22 | exact h_load_agg rfl rfl (.seg rfl rfl) Try.isAgg22 Try.sizeOf22 | exact h_load_agg rfl rfl (.ints rfl (by omega)) Try.isAgg22 Try.sizeOf22) ?_
  refine s_p (h_ixl 1 rfl rfl rfl Try.underlying38 Try.sizeOf29 (by omega)) ?_
  refine s_p (by first | exact h_load_one rfl rfl rfl Try.isAgg29 | exact h_load rfl rfl rfl Try.isAgg29) ?_
  refine s_p (h_call callable_26 rfl (stream_e key first a1 cap1 _)) ?_
  refine s_p (by first | exact h_assign (v := .s _) rfl | exact h_assign (v := .agg _) rfl | exact h_assign (v := .tup _) rfl) ?_
  refine s_nil ?_
  refine n_wp ?_
  refine w_seq ?_
  refine w_seq ?_
  refine c_reg (by kernel_rfl) rfl ?_
  refine s_p (by first | exact h_move (v := .s _) rfl | exact h_move (v := .agg _) rfl | exact h_move (v := .tup _) rfl) ?_
  refine s_p (by first | exact h_len rfl Try.underlying29 | exact h_len_nil rfl Try.underlying29 | exact h_len_val rfl Try.underlying29) ?_
  refine s_p (h_ixl 0 rfl rfl rfl Try.underlying38 Try.sizeOf29 (by omega)) ?_
  refine s_p (by first | exact h_load_one rfl rfl rfl Try.isAgg29 | exact h_load rfl rfl rfl Try.isAgg29) ?_
  refine s_p (by first | exact h_len rfl Try.underlying29 | exact h_len_nil rfl Try.underlying29 | exact h_len_val rfl Try.underlying29) ?_
  refine s_p (h_bin rfl rfl (b_neq rfl)) ?_
  refine s_p (by first | exact h_move (v := .s _) rfl | exact h_move (v := .agg _) rfl | exact h_move (v := .tup _) rfl) ?_
  first | refine s_on rfl rfl (by first | rfl | assumption) (by first | exact h_move (v := .s _) rfl | exact h_move (v := .agg _) rfl | exact h_move (v := .tup _) rfl) ?_ | refine s_off rfl rfl (by first | rfl | assumption) ?_
  first | refine s_on rfl rfl (by first | rfl | assumption) (by first | exact h_len rfl Try.underlying29 | exact h_len_nil rfl Try.underlying29 | exact h_len_val rfl Try.underlying29) ?_ | refine s_off rfl rfl (by first | rfl | assumption) ?_
  first | refine s_on rfl rfl (by first | rfl | assumption) (h_ixl 1 rfl rfl rfl Try.underlying38 Try.sizeOf29 (by omega)) ?_ | refine s_off rfl rfl (by first | rfl | assumption) ?_
  first | refine s_on rfl rfl (by first | rfl | assumption) (by first | exact h_load_one rfl rfl rfl Try.isAgg29 | exact h_load rfl rfl rfl Try.isAgg29) ?_ | refine s_off rfl rfl (by first | rfl | assumption) ?_
  first | refine s_on rfl rfl (by first | rfl | assumption) (by first | exact h_len rfl Try.underlying29 | exact h_len_nil rfl Try.underlying29 | exact h_len_val rfl Try.underlying29) ?_ | refine s_off rfl rfl (by first | rfl | assumption) ?_
  first | refine s_on rfl rfl (by first | rfl | assumption) (h_bin rfl rfl (b_neq rfl)) ?_ | refine s_off rfl rfl (by first | rfl | assumption) ?_
  refine s_p (by first | exact h_pick_t rfl (by first | rfl | assumption) rfl | exact h_pick_f rfl (by first | rfl | assumption) rfl) ?_
  refine s_nil ?_
  refine n_wp ?_
  refine w_cond rfl (fun hc_t44 => ?_) (fun hc_t44 => ?_)
  · exact absurd hc_t44 (by first | exact fun h => Bool.false_ne_true (hB.symm.trans h) | exact fun h => Bool.false_ne_true (hN1.symm.trans h) | exact fun h => Bool.false_ne_true (hA.symm.trans h) | exact fun h => Bool.false_ne_true (hN0.symm.trans h) | simp)
  refine w_skip ?_
  refine n_wp ?_
  refine w_seq ?_
  refine w_seq ?_
  refine c_reg (by kernel_rfl) rfl ?_
  refine s_p (by first | exact h_assign (v := .s _) rfl | exact h_assign (v := .agg _) rfl | exact h_assign (v := .tup _) rfl) ?_
  refine s_nil ?_
  refine n_wp ?_
  refine w_block ?_
  refine c_loop (I7ee cap0 cap1 a0 a1 key first ) 0 ⟨0, by omega, rfl, rfl, rfl⟩ (weak' (by repeat (first | exact trivial | refine ⟨rfl, ?_⟩)) rfl rfl (Nat.le_of_ble_eq_true rfl)) ?_
  rintro n T H ⟨k, hk, rfl, rfl, rfl⟩
  refine w_seq ?_
  refine w_seq ?_
  have hg0 : decide ((k : Int) < 0) = false := decide_eq_false (by omega)
  refine c_reg (by kernel_rfl) rfl ?_
  refine s_p (by first | exact h_move (v := .s _) rfl | exact h_move (v := .agg _) rfl | exact h_move (v := .tup _) rfl) ?_
  refine s_p (by first | exact h_move (v := .s _) rfl | exact h_move (v := .agg _) rfl | exact h_move (v := .tup _) rfl) ?_
  refine s_p (by first | exact h_len rfl Try.underlying29 | exact h_len_nil rfl Try.underlying29 | exact h_len_val rfl Try.underlying29) ?_
  refine s_p (h_bin rfl rfl (b_lss rfl)) ?_
  refine s_p (by first | exact h_move (v := .s _) rfl | exact h_move (v := .agg _) rfl | exact h_move (v := .tup _) rfl) ?_
  first | refine s_on rfl rfl (by first | rfl | assumption) (by first | exact h_move (v := .s _) rfl | exact h_move (v := .agg _) rfl | exact h_move (v := .tup _) rfl) ?_ | refine s_off rfl rfl (by first | rfl | assumption) ?_
  first | refine s_on rfl rfl (by first | rfl | assumption) (by first | exact h_move (v := .s _) rfl | exact h_move (v := .agg _) rfl | exact h_move (v := .tup _) rfl) ?_ | refine s_off rfl rfl (by first | rfl | assumption) ?_
  first | refine s_on rfl rfl (by first | rfl | assumption) (by first | exact h_len rfl Try.underlying29 | exact h_len_nil rfl Try.underlying29 | exact h_len_val rfl Try.underlying29) ?_ | refine s_off rfl rfl (by first | rfl | assumption) ?_
  first | refine s_on rfl rfl (by first | rfl | assumption) (h_bin rfl rfl (b_lss rfl)) ?_ | refine s_off rfl rfl (by first | rfl | assumption) ?_
  refine s_p (by first | exact h_pick_t rfl (by first | rfl | assumption) rfl | exact h_pick_f rfl (by first | rfl | assumption) rfl) ?_
  refine s_nil ?_
  refine n_wp ?_
  refine w_cond rfl (fun hc_t54 => ?_) (fun hc_t54 => ?_)
  · exact absurd hc_t54 (by first | exact fun h => Bool.false_ne_true (hg0.symm.trans h) | simp)
  refine w_exit ?_
  refine x_thn ?_
  refine x_thn ?_
  refine x_eq ?_
  refine n_wp ?_
  refine w_seq ?_
  refine c_reg (by kernel_rfl) rfl ?_
  refine s_p (h_call callable_25 rfl (lives_c _)) ?_
  refine s_p (by first | exact h_assign (v := .s _) rfl | exact h_assign (v := .agg _) rfl | exact h_assign (v := .tup _) rfl) ?_
  refine s_nil ?_
  refine n_wp ?_
  refine w_ret ?_
  exact ⟨.inl rfl, ret_tmp Try.results7 rfl⟩
set_option maxRecDepth 100000 in
theorem against_long0 (key first : List Int) (a0 a1 : Option Addr) (n0 c0 n1 c1 : Nat) (hl : 3000 < n0) (H : Heap) : ACall Try.prog 7 H [.agg [.ints .u8 16 key], .agg [.ints .u8 16 first], .agg [.one (.val (.slice a0 n0 c0)), .one (.val (.slice a1 n1 c1))]] (.s (.bool true)) [] := by
  have hA : decide ((n0 : Int) > 3000) = true := decide_eq_true (by omega)
  refine acall_free Try.func7 rfl Try.ntmps7 (by simp) rfl rfl (fun W w hW => ?_) H
  refine w_seq ?_
  refine c_reg (by kernel_rfl) rfl ?_
  refine s_a (by first | exact h_box_agg rfl rfl | exact h_box rfl (by simp) rfl) rfl ?_
  refine s_a (by first | exact h_box_agg rfl rfl | exact h_box rfl (by simp) rfl) rfl ?_
  refine s_a (by first | exact h_box_agg rfl rfl | exact h_box rfl (by simp) rfl) rfl ?_
  refine s_p (by first | exact h_assign (v := .s _) rfl | exact h_assign (v := .agg _) rfl | exact h_assign (v := .tup _) rfl) ?_
  refine s_nil ?_
  refine n_wp ?_
  refine w_seq ?_
  refine w_seq ?_
  refine c_reg (by kernel_rfl) rfl ?_
  refine s_p (h_ixl 0 rfl rfl rfl Try.underlying38 Try.sizeOf29 (by omega)) ?_
  refine s_p (by first | exact h_load_one rfl rfl rfl Try.isAgg29 | exact h_load rfl rfl rfl Try.isAgg29) ?_
  refine s_p (by first | exact h_len rfl Try.underlying29 | exact h_len_nil rfl Try.underlying29 | exact h_len_val rfl Try.underlying29) ?_
  refine s_p (h_bin rfl rfl (b_gtr rfl)) ?_
  refine s_p (by first | exact h_move (v := .s _) rfl | exact h_move (v := .agg _) rfl | exact h_move (v := .tup _) rfl) ?_
  first | refine s_on rfl rfl (by first | rfl | assumption) (h_ixl 1 rfl rfl rfl Try.underlying38 Try.sizeOf29 (by omega)) ?_ | refine s_off rfl rfl (by first | rfl | assumption) ?_
  first | refine s_on rfl rfl (by first | rfl | assumption) (by first | exact h_load_one rfl rfl rfl Try.isAgg29 | exact h_load rfl rfl rfl Try.isAgg29) ?_ | refine s_off rfl rfl (by first | rfl | assumption) ?_
  first | refine s_on rfl rfl (by first | rfl | assumption) (by first | exact h_len rfl Try.underlying29 | exact h_len_nil rfl Try.underlying29 | exact h_len_val rfl Try.underlying29) ?_ | refine s_off rfl rfl (by first | rfl | assumption) ?_
  first | refine s_on rfl rfl (by first | rfl | assumption) (h_bin rfl rfl (b_gtr rfl)) ?_ | refine s_off rfl rfl (by first | rfl | assumption) ?_
  refine s_p (by first | exact h_pick_t rfl (by first | rfl | assumption) rfl | exact h_pick_f rfl (by first | rfl | assumption) rfl) ?_
  refine s_nil ?_
  refine n_wp ?_
  refine w_cond rfl (fun hc_t19 => ?_) (fun hc_t19 => ?_)
  rotate_left
  · exact absurd hc_t19 (by first | exact fun h => Bool.false_ne_true (h.symm.trans hA) | exact fun h => Bool.false_ne_true (h.symm.trans hB) | simp)
  refine w_seq ?_
  refine c_reg (by kernel_rfl) rfl ?_
  refine s_p (h_call callable_25 rfl (lives_c _)) ?_
  refine s_p (by first | exact h_assign (v := .s _) rfl | exact h_assign (v := .agg _) rfl | exact h_assign (v := .tup _) rfl) ?_
  refine s_nil ?_
  refine n_wp ?_
  refine w_ret ?_
  refine r_thn ?_
  exact ⟨.inl rfl, ret_tmp Try.results7 rfl⟩
set_option maxRecDepth 100000 in
theorem against_long1 (key first : List Int) (a0 a1 : Option Addr) (n0 c0 n1 c1 : Nat) (hl0 : n0 ≤ 3000) (hl : 3000 < n1) (H : Heap) : ACall Try.prog 7 H [.agg [.ints .u8 16 key], .agg [.ints .u8 16 first], .agg [.one (.val (.slice a0 n0 c0)), .one (.val (.slice a1 n1 c1))]] (.s (.bool true)) [] := by
  have hA : decide ((n0 : Int) > 3000) = false := decide_eq_false (by omega)
  have hB : decide ((n1 : Int) > 3000) = true := decide_eq_true (by omega)
  refine acall_free Try.func7 rfl Try.ntmps7 (by simp) rfl rfl (fun W w hW => ?_) H
  refine w_seq ?_
  refine c_reg (by kernel_rfl) rfl ?_
  refine s_a (by first | exact h_box_agg rfl rfl | exact h_box rfl (by simp) rfl) rfl ?_
  refine s_a (by first | exact h_box_agg rfl rfl | exact h_box rfl (by simp) rfl) rfl ?_
  refine s_a (by first | exact h_box_agg rfl rfl | exact h_box rfl (by simp) rfl) rfl ?_
  refine s_p (by first | exact h_assign (v := .s _) rfl | exact h_assign (v := .agg _) rfl | exact h_assign (v := .tup _) rfl) ?_
  refine s_nil ?_
  refine n_wp ?_
  refine w_seq ?_
  refine w_seq ?_
  refine c_reg (by kernel_rfl) rfl ?_
  refine s_p (h_ixl 0 rfl rfl rfl Try.underlying38 Try.sizeOf29 (by omega)) ?_
  refine s_p (by first | exact h_load_one rfl rfl rfl Try.isAgg29 | exact h_load rfl rfl rfl Try.isAgg29) ?_
  refine s_p (by first | exact h_len rfl Try.underlying29 | exact h_len_nil rfl Try.underlying29 | exact h_len_val rfl Try.underlying29) ?_
  refine s_p (h_bin rfl rfl (b_gtr rfl)) ?_
  refine s_p (by first | exact h_move (v := .s _) rfl | exact h_move (v := .agg _) rfl | exact h_move (v := .tup _) rfl) ?_
  first | refine s_on rfl rfl (by first | rfl | assumption) (h_ixl 1 rfl rfl rfl Try.underlying38 Try.sizeOf29 (by omega)) ?_ | refine s_off rfl rfl (by first | rfl | assumption) ?_
  first | refine s_on rfl rfl (by first | rfl | assumption) (by first | exact h_load_one rfl rfl rfl Try.isAgg29 | exact h_load rfl rfl rfl Try.isAgg29) ?_ | refine s_off rfl rfl (by first | rfl | assumption) ?_
  first | refine s_on rfl rfl (by first | rfl | assumption) (by first | exact h_len rfl Try.underlying29 | exact h_len_nil rfl Try.underlying29 | exact h_len_val rfl Try.underlying29) ?_ | refine s_off rfl rfl (by first | rfl | assumption) ?_
  first | refine s_on rfl rfl (by first | rfl | assumption) (h_bin rfl rfl (b_gtr rfl)) ?_ | refine s_off rfl rfl (by first | rfl | assumption) ?_
  refine s_p (by first | exact h_pick_t rfl (by first | rfl | assumption) rfl | exact h_pick_f rfl (by first | rfl | assumption) rfl) ?_
  refine s_nil ?_
  refine n_wp ?_
  refine w_cond rfl (fun hc_t19 => ?_) (fun hc_t19 => ?_)
  rotate_left
  · exact absurd hc_t19 (by first | exact fun h => Bool.false_ne_true (h.symm.trans hA) | exact fun h => Bool.false_ne_true (h.symm.trans hB) | simp)
  refine w_seq ?_
  refine c_reg (by kernel_rfl) rfl ?_
  refine s_p (h_call callable_25 rfl (lives_c _)) ?_
  refine s_p (by first | exact h_assign (v := .s _) rfl | exact h_assign (v := .agg _) rfl | exact h_assign (v := .tup _) rfl) ?_
  refine s_nil ?_
  refine n_wp ?_
  refine w_ret ?_
  refine r_thn ?_
  exact ⟨.inl rfl, ret_tmp Try.results7 rfl⟩
end Go.Proofs.X
