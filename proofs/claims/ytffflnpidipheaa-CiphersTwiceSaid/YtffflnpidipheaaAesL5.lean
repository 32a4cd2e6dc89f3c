/- A part of the proofs of this claim: AesL5. No conditions. -/
import Derived.Test.YtffflnpidipheaaAesW8
open Go Go.Ab Go.Proofs
namespace Go.Proofs.X
set_option maxRecDepth 100000 in
set_option maxHeartbeats 2000000 in
theorem twice_s (key first B S : List Int) (hk : key.length = 16) (huk : U8 key) (hf : first.length = 16) (huf : U8 first) (len cap at_ m : Nat) (h0 : 0 < len) (hl : len ≤ 3000) (hcap : len ≤ cap) (hat : at_ < 65536) (hn : B.length = len) (huB : U8 B) (hS : streamN key first B len = S) (hm : at_ % (len + 1) = m) (hml : m ≤ len)
    (c : Code) (hc : Try.f5.body = some c) (W : Nat → Prop) (w : World) (ρ0 : Rho) (hW : ∀ b, w.heap.size ≤ b → W b) (hdom : ∀ id, 1 ≤ id → ρ0 id = none) :
    Wp ⟨Try.prog, W, w, ρ0, 57, 1, hW, hdom⟩ c (argT 0 [.agg [.ints .u8 16 key], .agg [.ints .u8 16 first], .agg [.one (.slice 0 0 0 len cap), .one (.int .u16 at_)]]) [some ⟨false, [.ints .u8 len B]⟩] (DoneF ⟨Try.prog, W, w, ρ0, 57, 1, hW, hdom⟩ Try.f5 (.s (.bool true))) := by
  cases hc
  have hB : B = (B.drop 0).take len := by rw [← hn]; simp
  have hSl : S.length = len := by rw [← hS]; exact streamN_len _ _ _ _
  have hSd : S = (S.drop 0).take len := by rw [← hSl]; simp
  have hS2 : streamN key first S len = B := by rw [← hS]; exact stream_twice key first B len hn huB
  have hSt : streamN key first (B.take m) m = S.take m := by rw [← hS]; exact stream_take key first B m len (by omega)
  have hBm : B.take m = (B.drop 0).take m := by simp
  have hSm : S.take m = ((S.take m).drop 0).take m := by rw [List.drop_zero, List.take_take, Nat.min_self]
  have hSm2 : S.take m = (S.drop 0).take m := by simp
  refine w_seq ?_
  refine c_reg (by kernel_rfl) rfl ?_
  refine s_a (by first | exact h_box_agg rfl rfl | exact h_box rfl (by simp) rfl) rfl ?_
  refine s_a (by first | exact h_box_agg rfl rfl | exact h_box rfl (by simp) rfl) rfl ?_
  refine s_a (by first | exact h_box_agg rfl rfl | exact h_box rfl (by simp) rfl) rfl ?_
  refine s_p (by first | exact h_assign (v := .s _) rfl | exact h_assign (v := .agg _) rfl | exact h_assign (v := .tup _) rfl) ?_
  refine s_nil ?_
  refine n_wp ?_
  refine w_seq ?_
  refine w_seq ?_
  refine c_reg (by kernel_rfl) rfl ?_
  refine s_p (h_field rfl Try.underlying32 rfl Try.sizeOf29 (by decide)) ?_
  refine s_p (by first | exact h_load_one rfl rfl rfl Try.isAgg29 | exact h_load rfl rfl rfl Try.isAgg29) ?_
  refine s_p (by first | exact h_len rfl Try.underlying29 | exact h_len_nil rfl Try.underlying29 | exact h_len_val rfl Try.underlying29) ?_
  refine s_p (h_bin rfl rfl (b_gtr rfl)) ?_
  refine s_nil ?_
  refine n_wp ?_
  refine w_cond rfl (fun hc_t12 => ?_) (fun hc_t12 => ?_)
  · exact absurd hc_t12 (by have := of_decide_eq_true hc_t12; omega)
  refine w_skip ?_
  refine n_wp ?_
  refine w_seq ?_
  refine c_reg (by kernel_rfl) rfl ?_
  refine s_p (by first | exact h_load_agg rfl rfl (.whole rfl) Try.isAgg22 Try.sizeOf22 | exact h_load_agg rfl rfl (.seg rfl rfl) Try.isAgg22 Try.sizeOf22 | exact h_load_agg rfl rfl (.ints rfl (by omega)) Try.isAgg22 Try.sizeOf22) ?_
  refine s_p (by first | exact h_load_agg rfl rfl (.whole rfl) Try.isAgg22 Try.sizeOf22 | exact h_load_agg rfl rfl (.seg rfl rfl) Try.isAgg22 Try.sizeOf22 | exact h_load_agg rfl rfl (.ints rfl (by omega)) Try.isAgg22 Try.sizeOf22) ?_
  refine s_p (h_field rfl Try.underlying32 rfl Try.sizeOf29 (by decide)) ?_
  refine s_p (by first | exact h_load_one rfl rfl rfl Try.isAgg29 | exact h_load rfl rfl rfl Try.isAgg29) ?_
  refine s_a (h_call callable_26 rfl (stream_c key first B hk huk hf huf len cap h0 (by omega) _ 0 0 0 len _ B rfl rfl (by omega) hB)) rfl ?_
  refine s_p (by first | exact h_assign (v := .s _) rfl | exact h_assign (v := .agg _) rfl | exact h_assign (v := .tup _) rfl) ?_
  refine s_nil ?_
  rw [hS]
  refine n_wp ?_
  refine w_seq ?_
  refine w_seq ?_
  refine c_any 13 mix (by kernel_rfl) (by kernel_rfl) rfl rfl rfl ?_
  refine t_p (by first | exact h_move (v := .s _) rfl | exact h_move (v := .agg _) rfl | exact h_move (v := .tup _) rfl) ?_
  refine t_p (by first | exact h_len rfl Try.underlying29 | exact h_len_nil rfl Try.underlying29 | exact h_len_val rfl Try.underlying29) ?_
  refine t_p (h_field rfl Try.underlying32 rfl Try.sizeOf29 (by decide)) ?_
  refine t_p (by first | exact h_load_one rfl rfl rfl Try.isAgg29 | exact h_load rfl rfl rfl Try.isAgg29) ?_
  refine t_p (by first | exact h_len rfl Try.underlying29 | exact h_len_nil rfl Try.underlying29 | exact h_len_val rfl Try.underlying29) ?_
  refine t_p (h_bin rfl rfl (b_neq (r := false) (decide_eq_false (fun h => h rfl)))) ?_
  refine t_p (by first | exact h_move (v := .s _) rfl | exact h_move (v := .agg _) rfl | exact h_move (v := .tup _) rfl) ?_
  first | refine t_on rfl rfl (by first | rfl | assumption) (by first | exact h_load_agg rfl rfl (.whole rfl) Try.isAgg22 Try.sizeOf22 | exact h_load_agg rfl rfl (.seg rfl rfl) Try.isAgg22 Try.sizeOf22 | exact h_load_agg rfl rfl (.ints rfl (by omega)) Try.isAgg22 Try.sizeOf22) ?_ | refine t_off rfl rfl (by first | rfl | assumption) ?_
  first | refine t_on rfl rfl (by first | rfl | assumption) (by first | exact h_load_agg rfl rfl (.whole rfl) Try.isAgg22 Try.sizeOf22 | exact h_load_agg rfl rfl (.seg rfl rfl) Try.isAgg22 Try.sizeOf22 | exact h_load_agg rfl rfl (.ints rfl (by omega)) Try.isAgg22 Try.sizeOf22) ?_ | refine t_off rfl rfl (by first | rfl | assumption) ?_
  first | refine t_on rfl rfl (by first | rfl | assumption) (by first | exact h_move (v := .s _) rfl | exact h_move (v := .agg _) rfl | exact h_move (v := .tup _) rfl) ?_ | refine t_off rfl rfl (by first | rfl | assumption) ?_
  first | refine t_on_a rfl rfl (by first | rfl | assumption) (h_call callable_26 rfl (stream_c key first S hk huk hf huf len len h0 (by omega) _ 4 0 0 len _ S rfl rfl (by omega) hSd)) rfl ?_ | refine t_off rfl rfl (by first | rfl | assumption) ?_
  rw [hS2]
  first | refine t_on rfl rfl (by first | rfl | assumption) (h_field rfl Try.underlying32 rfl Try.sizeOf29 (by decide)) ?_ | refine t_off rfl rfl (by first | rfl | assumption) ?_
  first | refine t_on rfl rfl (by first | rfl | assumption) (by first | exact h_load_one rfl rfl rfl Try.isAgg29 | exact h_load rfl rfl rfl Try.isAgg29) ?_ | refine t_off rfl rfl (by first | rfl | assumption) ?_
  refine t_nil ?_
  first | refine s_on rfl rfl (by first | rfl | assumption) (h_call callable_27 rfl (same_ss B len len cap (by omega) _ 5 0 0 len _ B rfl rfl (by omega) hB 0 0 0 len _ B rfl rfl (by omega) hB)) ?_ | refine s_off rfl rfl (by first | rfl | assumption) ?_
  first | refine s_on rfl rfl (by first | rfl | assumption) (h_not rfl) ?_ | refine s_off rfl rfl (by first | rfl | assumption) ?_
  refine s_p (by first | exact h_pick_t rfl (by first | rfl | assumption) rfl | exact h_pick_f rfl (by first | rfl | assumption) rfl) ?_
  refine s_nil ?_
  refine n_wp ?_
  refine w_cond rfl (fun hc_t34 => ?_) (fun hc_t34 => ?_)
  · exact absurd hc_t34 (by simp at hc_t34)
  refine w_skip ?_
  refine n_wp ?_
  refine w_seq ?_
  refine c_reg (by kernel_rfl) rfl ?_
  refine s_p (h_field rfl Try.underlying32 rfl Try.sizeOf30 (by decide)) ?_
  refine s_p (by first | exact h_load_ints rfl rfl rfl (by omega) rfl Try.isAgg30 | exact h_load_one rfl rfl rfl Try.isAgg30) ?_
  refine s_p (by first | exact h_conv rfl Try.underlying30 Try.underlying3 (Go.IntWalk.i64_in _ (by omega)) | exact h_conv rfl Try.underlying30 Try.underlying3 (wrap_u8 (by omega) (by omega)) | exact h_conv rfl Try.underlying30 Try.underlying3 rfl) ?_
  refine s_p (h_field rfl Try.underlying32 rfl Try.sizeOf29 (by decide)) ?_
  refine s_p (by first | exact h_load_one rfl rfl rfl Try.isAgg29 | exact h_load rfl rfl rfl Try.isAgg29) ?_
  refine s_p (by first | exact h_len rfl Try.underlying29 | exact h_len_nil rfl Try.underlying29 | exact h_len_val rfl Try.underlying29) ?_
  refine s_p (by first | exact h_bin rfl rfl (b_add (Go.IntWalk.i64_in _ (by omega))) | exact h_bin rfl rfl (b_add rfl)) ?_
  refine s_p (h_bin rfl rfl (b_rem (r := ((m : Nat) : Int)) (by omega) (by rw [Int.tmod_eq_emod_of_nonneg (by omega), ← hm]; simp))) ?_
  refine s_p (by first | exact h_assign (v := .s _) rfl | exact h_assign (v := .agg _) rfl | exact h_assign (v := .tup _) rfl) ?_
  refine s_nil ?_
  rcases Nat.eq_zero_or_pos m with hm0 | hm0
  · subst hm0
    refine n_wp ?_
    refine w_seq ?_
    refine c_any 10 mix (by kernel_rfl) (by kernel_rfl) rfl rfl rfl ?_
    refine t_p (by first | exact h_load_agg rfl rfl (.whole rfl) Try.isAgg22 Try.sizeOf22 | exact h_load_agg rfl rfl (.seg rfl rfl) Try.isAgg22 Try.sizeOf22 | exact h_load_agg rfl rfl (.ints rfl (by omega)) Try.isAgg22 Try.sizeOf22) ?_
    refine t_p (by first | exact h_load_agg rfl rfl (.whole rfl) Try.isAgg22 Try.sizeOf22 | exact h_load_agg rfl rfl (.seg rfl rfl) Try.isAgg22 Try.sizeOf22 | exact h_load_agg rfl rfl (.ints rfl (by omega)) Try.isAgg22 Try.sizeOf22) ?_
    refine t_p (h_field rfl Try.underlying32 rfl Try.sizeOf29 (by decide)) ?_
    refine t_p (by first | exact h_load_one rfl rfl rfl Try.isAgg29 | exact h_load rfl rfl rfl Try.isAgg29) ?_
    refine t_p (by first | exact h_move (v := .s _) rfl | exact h_move (v := .agg _) rfl | exact h_move (v := .tup _) rfl) ?_
    refine t_p (by first | exact h_slice_h (h := m) rfl rfl rfl Try.underlying29 Try.sizeOf5 (by omega) | exact h_slice_h (h := 0) rfl rfl rfl Try.underlying29 Try.sizeOf5 (by omega) | exact h_slice_hn rfl rfl rfl Try.underlying29 Try.sizeOf5 | exact h_slice_hv rfl rfl rfl Try.underlying29 Try.sizeOf5 | exact h_slice_l (l := 16) rfl rfl rfl Try.underlying29 Try.sizeOf5 (by omega)) ?_
    refine t_p (h_call callable_26 rfl (stream_0 key first 0 0 0 cap _)) ?_
    refine t_p (by first | exact h_move (v := .s _) rfl | exact h_move (v := .agg _) rfl | exact h_move (v := .tup _) rfl) ?_
    refine t_p (by first | exact h_move (v := .s _) rfl | exact h_move (v := .agg _) rfl | exact h_move (v := .tup _) rfl) ?_
    refine t_p (by first | exact h_slice_h (h := m) rfl rfl rfl Try.underlying29 Try.sizeOf5 (by omega) | exact h_slice_h (h := 0) rfl rfl rfl Try.underlying29 Try.sizeOf5 (by omega) | exact h_slice_hn rfl rfl rfl Try.underlying29 Try.sizeOf5 | exact h_slice_hv rfl rfl rfl Try.underlying29 Try.sizeOf5 | exact h_slice_l (l := 16) rfl rfl rfl Try.underlying29 Try.sizeOf5 (by omega)) ?_
    refine t_nil ?_
    refine s_p (h_call callable_27 rfl (same_ns 4 0 0 len _)) ?_
    refine s_p (by first | exact h_move (v := .s _) rfl | exact h_move (v := .agg _) rfl | exact h_move (v := .tup _) rfl) ?_
    first | refine s_on rfl rfl (by first | rfl | assumption) (h_call callable_25 rfl (lives_c _)) ?_ | refine s_off rfl rfl (by first | rfl | assumption) ?_
    refine s_p (by first | exact h_pick_t rfl (by first | rfl | assumption) rfl | exact h_pick_f rfl (by first | rfl | assumption) rfl) ?_
    refine s_p (by first | exact h_assign (v := .s _) rfl | exact h_assign (v := .agg _) rfl | exact h_assign (v := .tup _) rfl) ?_
    refine s_nil ?_
    refine n_wp ?_
    refine w_ret ?_
    exact ⟨.inl rfl, ret_tmp Try.results5 rfl⟩
  · skip
    refine n_wp ?_
    refine w_seq ?_
    refine c_any 10 mix (by kernel_rfl) (by kernel_rfl) rfl rfl rfl ?_
    refine t_p (by first | exact h_load_agg rfl rfl (.whole rfl) Try.isAgg22 Try.sizeOf22 | exact h_load_agg rfl rfl (.seg rfl rfl) Try.isAgg22 Try.sizeOf22 | exact h_load_agg rfl rfl (.ints rfl (by omega)) Try.isAgg22 Try.sizeOf22) ?_
    refine t_p (by first | exact h_load_agg rfl rfl (.whole rfl) Try.isAgg22 Try.sizeOf22 | exact h_load_agg rfl rfl (.seg rfl rfl) Try.isAgg22 Try.sizeOf22 | exact h_load_agg rfl rfl (.ints rfl (by omega)) Try.isAgg22 Try.sizeOf22) ?_
    refine t_p (h_field rfl Try.underlying32 rfl Try.sizeOf29 (by decide)) ?_
    refine t_p (by first | exact h_load_one rfl rfl rfl Try.isAgg29 | exact h_load rfl rfl rfl Try.isAgg29) ?_
    refine t_p (by first | exact h_move (v := .s _) rfl | exact h_move (v := .agg _) rfl | exact h_move (v := .tup _) rfl) ?_
    refine t_p (by first | exact h_slice_h (h := m) rfl rfl rfl Try.underlying29 Try.sizeOf5 (by omega) | exact h_slice_h (h := 0) rfl rfl rfl Try.underlying29 Try.sizeOf5 (by omega) | exact h_slice_hn rfl rfl rfl Try.underlying29 Try.sizeOf5 | exact h_slice_hv rfl rfl rfl Try.underlying29 Try.sizeOf5 | exact h_slice_l (l := 16) rfl rfl rfl Try.underlying29 Try.sizeOf5 (by omega)) ?_
    refine t_a (h_call callable_26 rfl (stream_c key first (B.take m) hk huk hf huf m cap hm0 (by omega) _ 0 0 0 len _ B rfl rfl (by omega) hBm)) rfl ?_
    rw [hSt]
    refine t_p (by first | exact h_move (v := .s _) rfl | exact h_move (v := .agg _) rfl | exact h_move (v := .tup _) rfl) ?_
    refine t_p (by first | exact h_move (v := .s _) rfl | exact h_move (v := .agg _) rfl | exact h_move (v := .tup _) rfl) ?_
    refine t_p (by first | exact h_slice_h (h := m) rfl rfl rfl Try.underlying29 Try.sizeOf5 (by omega) | exact h_slice_h (h := 0) rfl rfl rfl Try.underlying29 Try.sizeOf5 (by omega) | exact h_slice_hn rfl rfl rfl Try.underlying29 Try.sizeOf5 | exact h_slice_hv rfl rfl rfl Try.underlying29 Try.sizeOf5 | exact h_slice_l (l := 16) rfl rfl rfl Try.underlying29 Try.sizeOf5 (by omega)) ?_
    refine t_nil ?_
    refine s_p (h_call callable_27 rfl (same_ss (S.take m) m m len (by omega) _ 6 0 0 m _ (S.take m) rfl rfl (by omega) hSm 4 0 0 len _ S rfl rfl (by omega) hSm2)) ?_
    refine s_p (by first | exact h_move (v := .s _) rfl | exact h_move (v := .agg _) rfl | exact h_move (v := .tup _) rfl) ?_
    first | refine s_on rfl rfl (by first | rfl | assumption) (h_call callable_25 rfl (lives_c _)) ?_ | refine s_off rfl rfl (by first | rfl | assumption) ?_
    refine s_p (by first | exact h_pick_t rfl (by first | rfl | assumption) rfl | exact h_pick_f rfl (by first | rfl | assumption) rfl) ?_
    refine s_p (by first | exact h_assign (v := .s _) rfl | exact h_assign (v := .agg _) rfl | exact h_assign (v := .tup _) rfl) ?_
    refine s_nil ?_
    refine n_wp ?_
    refine w_ret ?_
    exact ⟨.inl rfl, ret_tmp Try.results5 rfl⟩
set_option maxRecDepth 100000 in
set_option maxHeartbeats 2000000 in
theorem twice_e1 (key first : List Int) (hk : key.length = 16) (huk : U8 key) (hf : first.length = 16) (huf : U8 first) (a : Option Addr) (cap at_ : Nat) (hat : at_ < 65536) (H : Heap) : ACall Try.prog 5 H [.agg [.ints .u8 16 key], .agg [.ints .u8 16 first], .agg [.one (.val (.slice a 0 cap)), .one (.int .u16 at_)]] (.s (.bool true)) [] := by
  refine acall_free Try.func5 rfl Try.ntmps5 (by simp) rfl rfl (fun W w hW => ?_) H
  refine w_seq ?_
  refine c_reg (by kernel_rfl) rfl ?_
  refine s_a (by first | exact h_box_agg rfl rfl | exact h_box rfl (by simp) rfl) rfl ?_
  refine s_a (by first | exact h_box_agg rfl rfl | exact h_box rfl (by simp) rfl) rfl ?_
  refine s_a (by first | exact h_box_agg rfl rfl | exact h_box rfl (by simp) rfl) rfl ?_
  refine s_p (by first | exact h_assign (v := .s _) rfl | exact h_assign (v := .agg _) rfl | exact h_assign (v := .tup _) rfl) ?_
  refine s_nil ?_
  refine n_wp ?_
  refine w_seq ?_
  refine w_seq ?_
  refine c_reg (by kernel_rfl) rfl ?_
  refine s_p (h_field rfl Try.underlying32 rfl Try.sizeOf29 (by decide)) ?_
  refine s_p (by first | exact h_load_one rfl rfl rfl Try.isAgg29 | exact h_load rfl rfl rfl Try.isAgg29) ?_
  refine s_p (by first | exact h_len rfl Try.underlying29 | exact h_len_nil rfl Try.underlying29 | exact h_len_val rfl Try.underlying29) ?_
  refine s_p (h_bin rfl rfl (b_gtr rfl)) ?_
  refine s_nil ?_
  refine n_wp ?_
  refine w_cond rfl (fun hc_t12 => ?_) (fun hc_t12 => ?_)
  · exact absurd hc_t12 (by have := of_decide_eq_true hc_t12; omega)
  refine w_skip ?_
  refine n_wp ?_
  refine w_seq ?_
  refine c_reg (by kernel_rfl) rfl ?_
  refine s_p (by first | exact h_load_agg rfl rfl (.whole rfl) Try.isAgg22 Try.sizeOf22 | exact h_load_agg rfl rfl (.seg rfl rfl) Try.isAgg22 Try.sizeOf22 | exact h_load_agg rfl rfl (.ints rfl (by omega)) Try.isAgg22 Try.sizeOf22) ?_
  refine s_p (by first | exact h_load_agg rfl rfl (.whole rfl) Try.isAgg22 Try.sizeOf22 | exact h_load_agg rfl rfl (.seg rfl rfl) Try.isAgg22 Try.sizeOf22 | exact h_load_agg rfl rfl (.ints rfl (by omega)) Try.isAgg22 Try.sizeOf22) ?_
  refine s_p (h_field rfl Try.underlying32 rfl Try.sizeOf29 (by decide)) ?_
  refine s_p (by first | exact h_load_one rfl rfl rfl Try.isAgg29 | exact h_load rfl rfl rfl Try.isAgg29) ?_
  refine s_p (h_call callable_26 rfl (stream_e key first a cap _)) ?_
  refine s_p (by first | exact h_assign (v := .s _) rfl | exact h_assign (v := .agg _) rfl | exact h_assign (v := .tup _) rfl) ?_
  refine s_nil ?_
  refine n_wp ?_
  refine w_seq ?_
  refine w_seq ?_
  refine c_any 13 mix (by kernel_rfl) (by kernel_rfl) rfl rfl rfl ?_
  refine t_p (by first | exact h_move (v := .s _) rfl | exact h_move (v := .agg _) rfl | exact h_move (v := .tup _) rfl) ?_
  refine t_p (by first | exact h_len rfl Try.underlying29 | exact h_len_nil rfl Try.underlying29 | exact h_len_val rfl Try.underlying29) ?_
  refine t_p (h_field rfl Try.underlying32 rfl Try.sizeOf29 (by decide)) ?_
  refine t_p (by first | exact h_load_one rfl rfl rfl Try.isAgg29 | exact h_load rfl rfl rfl Try.isAgg29) ?_
  refine t_p (by first | exact h_len rfl Try.underlying29 | exact h_len_nil rfl Try.underlying29 | exact h_len_val rfl Try.underlying29) ?_
  refine t_p (h_bin rfl rfl (b_neq (r := false) (decide_eq_false (fun h => h rfl)))) ?_
  refine t_p (by first | exact h_move (v := .s _) rfl | exact h_move (v := .agg _) rfl | exact h_move (v := .tup _) rfl) ?_
  first | refine t_on rfl rfl (by first | rfl | assumption) (by first | exact h_load_agg rfl rfl (.whole rfl) Try.isAgg22 Try.sizeOf22 | exact h_load_agg rfl rfl (.seg rfl rfl) Try.isAgg22 Try.sizeOf22 | exact h_load_agg rfl rfl (.ints rfl (by omega)) Try.isAgg22 Try.sizeOf22) ?_ | refine t_off rfl rfl (by first | rfl | assumption) ?_
  first | refine t_on rfl rfl (by first | rfl | assumption) (by first | exact h_load_agg rfl rfl (.whole rfl) Try.isAgg22 Try.sizeOf22 | exact h_load_agg rfl rfl (.seg rfl rfl) Try.isAgg22 Try.sizeOf22 | exact h_load_agg rfl rfl (.ints rfl (by omega)) Try.isAgg22 Try.sizeOf22) ?_ | refine t_off rfl rfl (by first | rfl | assumption) ?_
  first | refine t_on rfl rfl (by first | rfl | assumption) (by first | exact h_move (v := .s _) rfl | exact h_move (v := .agg _) rfl | exact h_move (v := .tup _) rfl) ?_ | refine t_off rfl rfl (by first | rfl | assumption) ?_
  first | refine t_on rfl rfl (by first | rfl | assumption) (h_call callable_26 rfl (stream_nil key first _)) ?_ | refine t_off rfl rfl (by first | rfl | assumption) ?_
  first | refine t_on rfl rfl (by first | rfl | assumption) (h_field rfl Try.underlying32 rfl Try.sizeOf29 (by decide)) ?_ | refine t_off rfl rfl (by first | rfl | assumption) ?_
  first | refine t_on rfl rfl (by first | rfl | assumption) (by first | exact h_load_one rfl rfl rfl Try.isAgg29 | exact h_load rfl rfl rfl Try.isAgg29) ?_ | refine t_off rfl rfl (by first | rfl | assumption) ?_
  refine t_nil ?_
  first | refine s_on rfl rfl (by first | rfl | assumption) (h_call callable_27 rfl (same_nv a cap _)) ?_ | refine s_off rfl rfl (by first | rfl | assumption) ?_
  first | refine s_on rfl rfl (by first | rfl | assumption) (h_not rfl) ?_ | refine s_off rfl rfl (by first | rfl | assumption) ?_
  refine s_p (by first | exact h_pick_t rfl (by first | rfl | assumption) rfl | exact h_pick_f rfl (by first | rfl | assumption) rfl) ?_
  refine s_nil ?_
  refine n_wp ?_
  refine w_cond rfl (fun hc_t34 => ?_) (fun hc_t34 => ?_)
  · exact absurd hc_t34 (by simp at hc_t34)
  refine w_skip ?_
  refine n_wp ?_
  refine w_seq ?_
  refine c_reg (by kernel_rfl) rfl ?_
  refine s_p (h_field rfl Try.underlying32 rfl Try.sizeOf30 (by decide)) ?_
  refine s_p (by first | exact h_load_ints rfl rfl rfl (by omega) rfl Try.isAgg30 | exact h_load_one rfl rfl rfl Try.isAgg30) ?_
  refine s_p (by first | exact h_conv rfl Try.underlying30 Try.underlying3 (Go.IntWalk.i64_in _ (by omega)) | exact h_conv rfl Try.underlying30 Try.underlying3 (wrap_u8 (by omega) (by omega)) | exact h_conv rfl Try.underlying30 Try.underlying3 rfl) ?_
  refine s_p (h_field rfl Try.underlying32 rfl Try.sizeOf29 (by decide)) ?_
  refine s_p (by first | exact h_load_one rfl rfl rfl Try.isAgg29 | exact h_load rfl rfl rfl Try.isAgg29) ?_
  refine s_p (by first | exact h_len rfl Try.underlying29 | exact h_len_nil rfl Try.underlying29 | exact h_len_val rfl Try.underlying29) ?_
  refine s_p (by first | exact h_bin rfl rfl (b_add (Go.IntWalk.i64_in _ (by omega))) | exact h_bin rfl rfl (b_add rfl)) ?_
  refine s_p (h_bin rfl rfl (b_rem (r := 0) (by omega) (by rw [Int.tmod_eq_emod_of_nonneg (by omega)]; omega))) ?_
  refine s_p (by first | exact h_assign (v := .s _) rfl | exact h_assign (v := .agg _) rfl | exact h_assign (v := .tup _) rfl) ?_
  refine s_nil ?_
  refine n_wp ?_
  refine w_seq ?_
  refine c_any 10 mix (by kernel_rfl) (by kernel_rfl) rfl rfl rfl ?_
  refine t_p (by first | exact h_load_agg rfl rfl (.whole rfl) Try.isAgg22 Try.sizeOf22 | exact h_load_agg rfl rfl (.seg rfl rfl) Try.isAgg22 Try.sizeOf22 | exact h_load_agg rfl rfl (.ints rfl (by omega)) Try.isAgg22 Try.sizeOf22) ?_
  refine t_p (by first | exact h_load_agg rfl rfl (.whole rfl) Try.isAgg22 Try.sizeOf22 | exact h_load_agg rfl rfl (.seg rfl rfl) Try.isAgg22 Try.sizeOf22 | exact h_load_agg rfl rfl (.ints rfl (by omega)) Try.isAgg22 Try.sizeOf22) ?_
  refine t_p (h_field rfl Try.underlying32 rfl Try.sizeOf29 (by decide)) ?_
  refine t_p (by first | exact h_load_one rfl rfl rfl Try.isAgg29 | exact h_load rfl rfl rfl Try.isAgg29) ?_
  refine t_p (by first | exact h_move (v := .s _) rfl | exact h_move (v := .agg _) rfl | exact h_move (v := .tup _) rfl) ?_
  refine t_p (by first | exact h_slice_h (h := m) rfl rfl rfl Try.underlying29 Try.sizeOf5 (by omega) | exact h_slice_h (h := 0) rfl rfl rfl Try.underlying29 Try.sizeOf5 (by omega) | exact h_slice_hn rfl rfl rfl Try.underlying29 Try.sizeOf5 | exact h_slice_hv rfl rfl rfl Try.underlying29 Try.sizeOf5 | exact h_slice_l (l := 16) rfl rfl rfl Try.underlying29 Try.sizeOf5 (by omega)) ?_
  refine t_p (h_call callable_26 rfl (stream_e key first a cap _)) ?_
  refine t_p (by first | exact h_move (v := .s _) rfl | exact h_move (v := .agg _) rfl | exact h_move (v := .tup _) rfl) ?_
  refine t_p (by first | exact h_move (v := .s _) rfl | exact h_move (v := .agg _) rfl | exact h_move (v := .tup _) rfl) ?_
  refine t_p (by first | exact h_slice_h (h := m) rfl rfl rfl Try.underlying29 Try.sizeOf5 (by omega) | exact h_slice_h (h := 0) rfl rfl rfl Try.underlying29 Try.sizeOf5 (by omega) | exact h_slice_hn rfl rfl rfl Try.underlying29 Try.sizeOf5 | exact h_slice_hv rfl rfl rfl Try.underlying29 Try.sizeOf5 | exact h_slice_l (l := 16) rfl rfl rfl Try.underlying29 Try.sizeOf5 (by omega)) ?_
  refine t_nil ?_
  refine s_p (h_call callable_27 rfl (same_nn _)) ?_
  refine s_p (by first | exact h_move (v := .s _) rfl | exact h_move (v := .agg _) rfl | exact h_move (v := .tup _) rfl) ?_
  first | refine s_on rfl rfl (by first | rfl | assumption) (h_call callable_25 rfl (lives_c _)) ?_ | refine s_off rfl rfl (by first | rfl | assumption) ?_
  refine s_p (by first | exact h_pick_t rfl (by first | rfl | assumption) rfl | exact h_pick_f rfl (by first | rfl | assumption) rfl) ?_
  refine s_p (by first | exact h_assign (v := .s _) rfl | exact h_assign (v := .agg _) rfl | exact h_assign (v := .tup _) rfl) ?_
  refine s_nil ?_
  refine n_wp ?_
  refine w_ret ?_
  exact ⟨.inl rfl, ret_tmp Try.results5 rfl⟩
set_option maxRecDepth 100000 in
set_option maxHeartbeats 2000000 in
theorem twice_l (key first : List Int) (a : Option Addr) (len cap at_ : Nat) (hl : 3000 < len) (H : Heap) : ACall Try.prog 5 H [.agg [.ints .u8 16 key], .agg [.ints .u8 16 first], .agg [.one (.val (.slice a len cap)), .one (.int .u16 at_)]] (.s (.bool true)) [] := by
  refine acall_free Try.func5 rfl Try.ntmps5 (by simp) rfl rfl (fun W w hW => ?_) H
  refine w_seq ?_
  refine c_reg (by kernel_rfl) rfl ?_
  refine s_a (by first | exact h_box_agg rfl rfl | exact h_box rfl (by simp) rfl) rfl ?_
  refine s_a (by first | exact h_box_agg rfl rfl | exact h_box rfl (by simp) rfl) rfl ?_
  refine s_a (by first | exact h_box_agg rfl rfl | exact h_box rfl (by simp) rfl) rfl ?_
  refine s_p (by first | exact h_assign (v := .s _) rfl | exact h_assign (v := .agg _) rfl | exact h_assign (v := .tup _) rfl) ?_
  refine s_nil ?_
  refine n_wp ?_
  refine w_seq ?_
  refine w_seq ?_
  refine c_reg (by kernel_rfl) rfl ?_
  refine s_p (h_field rfl Try.underlying32 rfl Try.sizeOf29 (by decide)) ?_
  refine s_p (by first | exact h_load_one rfl rfl rfl Try.isAgg29 | exact h_load rfl rfl rfl Try.isAgg29) ?_
  refine s_p (by first | exact h_len rfl Try.underlying29 | exact h_len_nil rfl Try.underlying29 | exact h_len_val rfl Try.underlying29) ?_
  refine s_p (h_bin rfl rfl (b_gtr rfl)) ?_
  refine s_nil ?_
  refine n_wp ?_
  refine w_cond rfl (fun hc_t12 => ?_) (fun hc_t12 => ?_)
  rotate_left
  · exact absurd hc_t12 (by have := of_decide_eq_false hc_t12; omega)
  refine w_seq ?_
  refine c_reg (by kernel_rfl) rfl ?_
  refine s_p (h_call callable_25 rfl (lives_c _)) ?_
  refine s_p (by first | exact h_assign (v := .s _) rfl | exact h_assign (v := .agg _) rfl | exact h_assign (v := .tup _) rfl) ?_
  refine s_nil ?_
  refine n_wp ?_
  refine w_ret ?_
  refine r_thn ?_
  exact ⟨.inl rfl, ret_tmp Try.results5 rfl⟩
end Go.Proofs.X
