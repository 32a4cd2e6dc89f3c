/- Streams of no bytes. -/
import Derived.Test.YtffflnpidipheaaAesB
import Derived.Test.YtffflnpidipheaaAbB
set_option linter.unusedVariables false
set_option linter.unusedSimpArgs false
open Go Go.Ab Go.Proofs
namespace Go.Proofs.X
set_option maxRecDepth 100000 in
set_option maxHeartbeats 1000000 in
theorem stream_nil (key first : List Int) (H : Heap) : ACall Try.prog 26 H [.agg [.ints .u8 16 key], .agg [.ints .u8 16 first], .s .nils] (.s .nils) [] := by
  refine acall_free Try.func26 rfl Try.ntmps26 (by simp) rfl rfl (fun W w hW => ?_) H
  refine w_seq ?_
  refine c_reg (by kernel_rfl) rfl ?_
  refine s_a (by first | exact h_box_agg rfl rfl | exact h_box rfl (by simp) rfl) rfl ?_
  refine s_a (by first | exact h_box_agg rfl rfl | exact h_box rfl (by simp) rfl) rfl ?_
  refine s_p (by first | exact h_assign (v := .s _) rfl | exact h_assign (v := .agg _) rfl | exact h_assign (v := .tup _) rfl) ?_
  refine s_nil ?_
  refine n_wp ?_
  refine w_seq ?_
  refine w_seq ?_
  refine c_reg (by kernel_rfl) rfl ?_
  refine s_p (by first | exact h_move (v := .s _) rfl | exact h_move (v := .agg _) rfl | exact h_move (v := .tup _) rfl) ?_
  refine s_p (by first | exact h_len rfl Try.underlying29 | exact h_len_slx rfl Try.underlying29 | exact h_len_nil rfl Try.underlying29) ?_
  refine s_p (h_bin rfl rfl (b_eql rfl)) ?_
  refine s_nil ?_
  refine n_wp ?_
  refine w_cond rfl (fun hc_t15 => ?_) (fun hc_t15 => ?_)
  rotate_left
  · exact absurd hc_t15 (by simp)
  refine w_seq ?_
  refine c_reg (by kernel_rfl) rfl ?_
  refine s_p (by first | exact h_assign (v := .s _) rfl | exact h_assign (v := .agg _) rfl | exact h_assign (v := .tup _) rfl) ?_
  refine s_nil ?_
  refine n_wp ?_
  refine w_ret ?_
  refine r_thn ?_
  exact ⟨.inl rfl, ret_tmp Try.results26 rfl⟩

set_option maxRecDepth 100000 in
theorem stream_e (key first : List Int) (a : Option Addr) (c : Nat) (H : Heap) : ACall Try.prog 26 H [.agg [.ints .u8 16 key], .agg [.ints .u8 16 first], .s (.val (.slice a 0 c))] (.s .nils) [] := by
  refine acall_free Try.func26 rfl Try.ntmps26 (by simp) rfl rfl (fun W w hW => ?_) H
  refine w_seq ?_
  refine c_reg (by kernel_rfl) rfl ?_
  refine s_a (by first | exact h_box_agg rfl rfl | exact h_box rfl (by simp) rfl) rfl ?_
  refine s_a (by first | exact h_box_agg rfl rfl | exact h_box rfl (by simp) rfl) rfl ?_
  refine s_p (by first | exact h_assign (v := .s _) rfl | exact h_assign (v := .agg _) rfl | exact h_assign (v := .tup _) rfl) ?_
  refine s_nil ?_
  refine n_wp ?_
  refine w_seq ?_
  refine w_seq ?_
  refine c_reg (by kernel_rfl) rfl ?_
  refine s_p (by first | exact h_move (v := .s _) rfl | exact h_move (v := .agg _) rfl | exact h_move (v := .tup _) rfl) ?_
  refine s_p (by first | exact h_len rfl Try.underlying29 | exact h_len_nil rfl Try.underlying29 | exact h_len_val rfl Try.underlying29) ?_
  refine s_p (h_bin rfl rfl (b_eql rfl)) ?_
  refine s_nil ?_
  refine n_wp ?_
  refine w_cond rfl (fun hc_t15 => ?_) (fun hc_t15 => ?_)
  rotate_left
  · exact absurd hc_t15 (by simp)
  refine w_seq ?_
  refine c_reg (by kernel_rfl) rfl ?_
  refine s_p (by first | exact h_assign (v := .s _) rfl | exact h_assign (v := .agg _) rfl | exact h_assign (v := .tup _) rfl) ?_
  refine s_nil ?_
  refine n_wp ?_
  refine w_ret ?_
  refine r_thn ?_
  exact ⟨.inl rfl, ret_tmp Try.results26 rfl⟩
end Go.Proofs.X
