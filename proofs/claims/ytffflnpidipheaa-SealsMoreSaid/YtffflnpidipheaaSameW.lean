/- A part of the proofs of this claim: SameW (SameW). No conditions. -/
import Derived.Test.YtffflnpidipheaaShaA
import Derived.Test.YtffflnpidipheaaAbB
set_option linter.unusedVariables false
set_option linter.unusedSimpArgs false
open Go Go.Ab Go.Proofs
namespace Go.Proofs.X
theorem callable_27 : Callable Try.prog 27 := ⟨_, Try.func27, by kernel_rfl, rfl⟩
theorem callable_28 : Callable Try.prog 28 := ⟨_, Try.func28, by kernel_rfl, rfl⟩
def I27 (A : List Int) (len cap0 cap1 : Nat) (n : Nat) (T : Tm) (H : Heap) : Prop := ∃ k : Nat, k ≤ len ∧ n = len - k ∧
  T = [(0, .s (.slice 0 0 0 len cap0)), (1, .s (.slice 1 0 0 len cap1)), (5, .s (.int .i64 k))] ∧ H = [some ⟨false, [.ints .u8 len A]⟩, some ⟨false, [.ints .u8 len A]⟩]
set_option maxRecDepth 100000 in
set_option maxHeartbeats 2000000 in
theorem same_ss (A : List Int) (len cap0 cap1 : Nat) (hm : len ≤ 140737488351232) (H : Heap) (id base idx n : Nat) (bk : Blk) (l0 : List Int) (hid : H[id]? = some (some bk)) (hs : segAt bk.segs base = some (.ints .u8 n l0)) (hn : idx + len ≤ n) (hA : A = (l0.drop idx).take len)
    (id2 base2 idx2 n2 : Nat) (bk2 : Blk) (l2 : List Int) (hid2 : H[id2]? = some (some bk2)) (hs2 : segAt bk2.segs base2 = some (.ints .u8 n2 l2)) (hn2 : idx2 + len ≤ n2) (hA2 : A = (l2.drop idx2).take len) : ACall Try.prog 27 H [.s (.slice id base idx len cap0), .s (.slice id2 base2 idx2 len cap1)] (.s (.bool true)) [] := by
  refine acall_gen (args0 := [.s (.slice 0 0 0 len cap0), .s (.slice 1 0 0 len cap1)]) (H0 := [some ⟨false, [.ints .u8 len A]⟩, some ⟨false, [.ints .u8 len A]⟩]) (vf := fun _ => .s (.bool true)) [(id, base + idx), (id2, base2 + idx2)] Try.func27 rfl Try.ntmps27 (by simp) rfl (foot2 rfl rfl hid hid2 (fun i x h => by subst hA; exact win_ints hs hn i x h) (fun i x h => by rw [hA2] at h; exact win_ints hs2 hn2 i x h) rfl) rfl (fun i x0 x h0 h1 ρ u hr => by match i, h0, h1 with | 0, h0, h1 => (simp at h0 h1; subst h0; subst h1; exact arg_slice (by rfl) hr) | 1, h0, h1 => (simp at h0 h1; subst h0; subst h1; exact arg_slice (by rfl) hr) | i + 2, h0, _ => simp at h0) rfl (ren_free rfl) (fun W w ρ0 hW hdom => ?_)
  refine w_seq ?_
  refine c_reg (by kernel_rfl) rfl ?_
  refine s_p (by first | exact h_assign (v := .s _) rfl | exact h_assign (v := .agg _) rfl | exact h_assign (v := .tup _) rfl) ?_
  refine s_nil ?_
  refine n_wp ?_
  refine w_seq ?_
  refine w_seq ?_
  refine c_reg (by kernel_rfl) rfl ?_
  refine s_p (by first | exact h_move (v := .s _) rfl | exact h_move (v := .agg _) rfl | exact h_move (v := .tup _) rfl) ?_
  refine s_p (by first | exact h_len rfl Try.underlying29 | exact h_len_nil rfl Try.underlying29 | exact h_len_val rfl Try.underlying29) ?_
  refine s_p (by first | exact h_move (v := .s _) rfl | exact h_move (v := .agg _) rfl | exact h_move (v := .tup _) rfl) ?_
  refine s_p (by first | exact h_len rfl Try.underlying29 | exact h_len_nil rfl Try.underlying29 | exact h_len_val rfl Try.underlying29) ?_
  refine s_p (h_bin rfl rfl (b_neq rfl)) ?_
  refine s_nil ?_
  refine n_wp ?_
  refine w_cond rfl (fun hc_t10 => ?_) (fun hc_t10 => ?_)
  · exact absurd hc_t10 (by exact absurd rfl (of_decide_eq_true hc_t10))
  refine w_skip ?_
  refine n_wp ?_
  refine w_seq ?_
  refine w_seq ?_
  refine c_reg (by kernel_rfl) rfl ?_
  refine s_p (by first | exact h_assign (v := .s _) rfl | exact h_assign (v := .agg _) rfl | exact h_assign (v := .tup _) rfl) ?_
  refine s_nil ?_
  refine n_wp ?_
  refine w_block ?_
  refine c_loop (I27 A len cap0 cap1) len ⟨0, by omega, rfl, rfl, rfl⟩ (weak' (by repeat (first | exact trivial | refine ⟨rfl, ?_⟩)) rfl rfl (Nat.le_of_ble_eq_true rfl)) ?_
  rintro n T H ⟨k, hk, rfl, rfl, rfl⟩
  refine w_seq ?_
  refine w_seq ?_
  refine c_reg (by kernel_rfl) rfl ?_
  refine s_p (by first | exact h_move (v := .s _) rfl | exact h_move (v := .agg _) rfl | exact h_move (v := .tup _) rfl) ?_
  refine s_p (by first | exact h_move (v := .s _) rfl | exact h_move (v := .agg _) rfl | exact h_move (v := .tup _) rfl) ?_
  refine s_p (by first | exact h_len rfl Try.underlying29 | exact h_len_nil rfl Try.underlying29 | exact h_len_val rfl Try.underlying29) ?_
  refine s_p (h_bin rfl rfl (b_lss rfl)) ?_
  refine s_nil ?_
  refine n_wp ?_
  refine w_cond rfl (fun hc_t14 => ?_) (fun hc_t14 => ?_)
  · skip
    have hlt : k < len := by have := of_decide_eq_true hc_t14; omega
    refine w_skip ?_
    refine n_wp ?_
    refine w_seq ?_
    refine w_block ?_
    refine w_seq ?_
    refine c_any 8 mix (by kernel_rfl) (by kernel_rfl) rfl rfl rfl ?_
    refine t_p (by first | exact h_move (v := .s _) rfl | exact h_move (v := .agg _) rfl | exact h_move (v := .tup _) rfl) ?_
    refine t_p (by first | exact h_move (v := .s _) rfl | exact h_move (v := .agg _) rfl | exact h_move (v := .tup _) rfl) ?_
    refine t_p (by first | exact h_ixs0 rfl rfl Try.underlying29 Try.sizeOf5 (by omega) | exact h_ixs rfl rfl Try.underlying29 Try.sizeOf5 (by omega) | exact h_ixsx rfl rfl Try.underlying29 Try.sizeOf5 (by omega)) ?_
    refine t_p (by first | exact h_load_ints rfl rfl rfl (by omega) rfl Try.isAgg5 | exact h_load_one rfl rfl rfl Try.isAgg5) ?_
    refine t_p (by first | exact h_move (v := .s _) rfl | exact h_move (v := .agg _) rfl | exact h_move (v := .tup _) rfl) ?_
    refine t_p (by first | exact h_move (v := .s _) rfl | exact h_move (v := .agg _) rfl | exact h_move (v := .tup _) rfl) ?_
    refine t_p (by first | exact h_ixs0 rfl rfl Try.underlying29 Try.sizeOf5 (by omega) | exact h_ixs rfl rfl Try.underlying29 Try.sizeOf5 (by omega) | exact h_ixsx rfl rfl Try.underlying29 Try.sizeOf5 (by omega)) ?_
    refine t_p (by first | exact h_load_ints rfl rfl rfl (by omega) rfl Try.isAgg5 | exact h_load_one rfl rfl rfl Try.isAgg5) ?_
    refine t_nil ?_
    refine s_p (h_bin rfl rfl (b_neq rfl)) ?_
    refine s_nil ?_
    refine n_wp ?_
    refine w_cond rfl (fun hc_t25 => ?_) (fun hc_t25 => ?_)
    · exact absurd hc_t25 (by exact absurd rfl (of_decide_eq_true hc_t25))
    refine w_skip ?_
    refine n_blo ?_
    refine n_wp ?_
    refine c_reg (by kernel_rfl) rfl ?_
    refine s_p (by first | exact h_move (v := .s _) rfl | exact h_move (v := .agg _) rfl | exact h_move (v := .tup _) rfl) ?_
    refine s_p (by first | exact h_bin rfl rfl (b_add (Go.IntWalk.i64_in _ (by omega))) | exact h_bin rfl rfl (b_add rfl)) ?_
    refine s_p (by first | exact h_assign (v := .s _) rfl | exact h_assign (v := .agg _) rfl | exact h_assign (v := .tup _) rfl) ?_
    refine s_nil ?_
    exact n_round (len - (k + 1)) (by omega) ⟨k + 1, by omega, rfl, rfl, rfl⟩ (weak' (by repeat (first | exact trivial | refine ⟨rfl, ?_⟩)) rfl rfl (Nat.le_of_ble_eq_true rfl))
  · skip
    skip
    refine w_exit ?_
    refine x_thn ?_
    refine x_thn ?_
    refine x_eq ?_
    refine n_wp ?_
    refine w_seq ?_
    refine c_reg (by kernel_rfl) rfl ?_
    refine s_p (by first | exact h_assign (v := .s _) rfl | exact h_assign (v := .agg _) rfl | exact h_assign (v := .tup _) rfl) ?_
    refine s_nil ?_
    refine n_wp ?_
    refine w_ret ?_
    refine done0 ?_
    exact ret_tmp Try.results27 rfl
def I27e (x y : SV) (h : Heap) (n : Nat) (T : Tm) (H : Heap) : Prop := T = [(0, .s x), (1, .s y), (5, .s (.int .i64 0))] ∧ H = h
set_option maxRecDepth 100000 in
set_option maxHeartbeats 2000000 in
theorem same_ns (id base idx cap : Nat) (H : Heap) : ACall Try.prog 27 H [.s (.nils), .s (.slice id base idx 0 cap)] (.s (.bool true)) [] := by
  refine acall_gen (args0 := [.s (.nils), .s (.slice 0 0 0 0 cap)]) (H0 := [none]) (vf := fun _ => .s (.bool true)) [(id, base + idx)] Try.func27 rfl Try.ntmps27 (by simp) rfl foot_none rfl (fun i x0 x h0 h1 ρ u hr => by match i, h0, h1 with | 0, h0, h1 => (simp at h0 h1; subst h0; subst h1; exact arg_free rfl hr) | 1, h0, h1 => (simp at h0 h1; subst h0; subst h1; exact arg_slice (by rfl) hr) | i + 2, h0, _ => simp at h0) rfl (ren_free rfl) (fun W w ρ0 hW hdom => ?_)
  refine w_seq ?_
  refine c_reg (by kernel_rfl) rfl ?_
  refine s_p (by first | exact h_assign (v := .s _) rfl | exact h_assign (v := .agg _) rfl | exact h_assign (v := .tup _) rfl) ?_
  refine s_nil ?_
  refine n_wp ?_
  refine w_seq ?_
  refine w_seq ?_
  refine c_reg (by kernel_rfl) rfl ?_
  refine s_p (by first | exact h_move (v := .s _) rfl | exact h_move (v := .agg _) rfl | exact h_move (v := .tup _) rfl) ?_
  refine s_p (by first | exact h_len rfl Try.underlying29 | exact h_len_nil rfl Try.underlying29 | exact h_len_val rfl Try.underlying29) ?_
  refine s_p (by first | exact h_move (v := .s _) rfl | exact h_move (v := .agg _) rfl | exact h_move (v := .tup _) rfl) ?_
  refine s_p (by first | exact h_len rfl Try.underlying29 | exact h_len_nil rfl Try.underlying29 | exact h_len_val rfl Try.underlying29) ?_
  refine s_p (h_bin rfl rfl (b_neq rfl)) ?_
  refine s_nil ?_
  refine n_wp ?_
  refine w_cond rfl (fun hc_t10 => ?_) (fun hc_t10 => ?_)
  · exact absurd hc_t10 (by exact absurd rfl (of_decide_eq_true hc_t10))
  refine w_skip ?_
  refine n_wp ?_
  refine w_seq ?_
  refine w_seq ?_
  refine c_reg (by kernel_rfl) rfl ?_
  refine s_p (by first | exact h_assign (v := .s _) rfl | exact h_assign (v := .agg _) rfl | exact h_assign (v := .tup _) rfl) ?_
  refine s_nil ?_
  refine n_wp ?_
  refine w_block ?_
  refine c_loop (I27e (.nils) (.slice 0 0 0 0 cap) [none]) 0 ⟨rfl, rfl⟩ (weak' (by repeat (first | exact trivial | refine ⟨rfl, ?_⟩)) rfl rfl (Nat.le_of_ble_eq_true rfl)) ?_
  rintro n T H ⟨rfl, rfl⟩
  refine w_seq ?_
  refine w_seq ?_
  refine c_reg (by kernel_rfl) rfl ?_
  refine s_p (by first | exact h_move (v := .s _) rfl | exact h_move (v := .agg _) rfl | exact h_move (v := .tup _) rfl) ?_
  refine s_p (by first | exact h_move (v := .s _) rfl | exact h_move (v := .agg _) rfl | exact h_move (v := .tup _) rfl) ?_
  refine s_p (by first | exact h_len rfl Try.underlying29 | exact h_len_nil rfl Try.underlying29 | exact h_len_val rfl Try.underlying29) ?_
  refine s_p (h_bin rfl rfl (b_lss rfl)) ?_
  refine s_nil ?_
  refine n_wp ?_
  refine w_cond rfl (fun hc_t14 => ?_) (fun hc_t14 => ?_)
  · exact absurd hc_t14 (by exact absurd (of_decide_eq_true hc_t14) (by omega))
  refine w_exit ?_
  refine x_thn ?_
  refine x_thn ?_
  refine x_eq ?_
  refine n_wp ?_
  refine w_seq ?_
  refine c_reg (by kernel_rfl) rfl ?_
  refine s_p (by first | exact h_assign (v := .s _) rfl | exact h_assign (v := .agg _) rfl | exact h_assign (v := .tup _) rfl) ?_
  refine s_nil ?_
  refine n_wp ?_
  refine w_ret ?_
  refine done0 ?_
  exact ret_tmp Try.results27 rfl
set_option maxRecDepth 100000 in
set_option maxHeartbeats 2000000 in
theorem same_nv (a : Option Addr) (cap : Nat) (H : Heap) : ACall Try.prog 27 H [.s (.nils), .s (.val (.slice a 0 cap))] (.s (.bool true)) [] := by
  refine acall_gen (args0 := [.s (.nils), .s (.val (.slice a 0 cap))]) (H0 := []) (vf := fun _ => .s (.bool true)) [] Try.func27 rfl Try.ntmps27 (by simp) rfl (fun k id sh b0 h => by simp at h) rfl (fun i x0 x h0 h1 ρ u hr => by match i, h0, h1 with | 0, h0, h1 => (simp at h0 h1; subst h0; subst h1; exact arg_free rfl hr) | 1, h0, h1 => (simp at h0 h1; subst h0; subst h1; exact arg_free rfl hr) | i + 2, h0, _ => simp at h0) rfl (ren_free rfl) (fun W w ρ0 hW hdom => ?_)
  refine w_seq ?_
  refine c_reg (by kernel_rfl) rfl ?_
  refine s_p (by first | exact h_assign (v := .s _) rfl | exact h_assign (v := .agg _) rfl | exact h_assign (v := .tup _) rfl) ?_
  refine s_nil ?_
  refine n_wp ?_
  refine w_seq ?_
  refine w_seq ?_
  refine c_reg (by kernel_rfl) rfl ?_
  refine s_p (by first | exact h_move (v := .s _) rfl | exact h_move (v := .agg _) rfl | exact h_move (v := .tup _) rfl) ?_
  refine s_p (by first | exact h_len rfl Try.underlying29 | exact h_len_nil rfl Try.underlying29 | exact h_len_val rfl Try.underlying29) ?_
  refine s_p (by first | exact h_move (v := .s _) rfl | exact h_move (v := .agg _) rfl | exact h_move (v := .tup _) rfl) ?_
  refine s_p (by first | exact h_len rfl Try.underlying29 | exact h_len_nil rfl Try.underlying29 | exact h_len_val rfl Try.underlying29) ?_
  refine s_p (h_bin rfl rfl (b_neq rfl)) ?_
  refine s_nil ?_
  refine n_wp ?_
  refine w_cond rfl (fun hc_t10 => ?_) (fun hc_t10 => ?_)
  · exact absurd hc_t10 (by exact absurd rfl (of_decide_eq_true hc_t10))
  refine w_skip ?_
  refine n_wp ?_
  refine w_seq ?_
  refine w_seq ?_
  refine c_reg (by kernel_rfl) rfl ?_
  refine s_p (by first | exact h_assign (v := .s _) rfl | exact h_assign (v := .agg _) rfl | exact h_assign (v := .tup _) rfl) ?_
  refine s_nil ?_
  refine n_wp ?_
  refine w_block ?_
  refine c_loop (I27e (.nils) (.val (.slice a 0 cap)) []) 0 ⟨rfl, rfl⟩ (weak' (by repeat (first | exact trivial | refine ⟨rfl, ?_⟩)) rfl rfl (Nat.le_of_ble_eq_true rfl)) ?_
  rintro n T H ⟨rfl, rfl⟩
  refine w_seq ?_
  refine w_seq ?_
  refine c_reg (by kernel_rfl) rfl ?_
  refine s_p (by first | exact h_move (v := .s _) rfl | exact h_move (v := .agg _) rfl | exact h_move (v := .tup _) rfl) ?_
  refine s_p (by first | exact h_move (v := .s _) rfl | exact h_move (v := .agg _) rfl | exact h_move (v := .tup _) rfl) ?_
  refine s_p (by first | exact h_len rfl Try.underlying29 | exact h_len_nil rfl Try.underlying29 | exact h_len_val rfl Try.underlying29) ?_
  refine s_p (h_bin rfl rfl (b_lss rfl)) ?_
  refine s_nil ?_
  refine n_wp ?_
  refine w_cond rfl (fun hc_t14 => ?_) (fun hc_t14 => ?_)
  · exact absurd hc_t14 (by exact absurd (of_decide_eq_true hc_t14) (by omega))
  refine w_exit ?_
  refine x_thn ?_
  refine x_thn ?_
  refine x_eq ?_
  refine n_wp ?_
  refine w_seq ?_
  refine c_reg (by kernel_rfl) rfl ?_
  refine s_p (by first | exact h_assign (v := .s _) rfl | exact h_assign (v := .agg _) rfl | exact h_assign (v := .tup _) rfl) ?_
  refine s_nil ?_
  refine n_wp ?_
  refine w_ret ?_
  refine done0 ?_
  exact ret_tmp Try.results27 rfl
set_option maxRecDepth 100000 in
set_option maxHeartbeats 2000000 in
theorem same_nn  (H : Heap) : ACall Try.prog 27 H [.s (.nils), .s (.nils)] (.s (.bool true)) [] := by
  refine acall_gen (args0 := [.s (.nils), .s (.nils)]) (H0 := []) (vf := fun _ => .s (.bool true)) [] Try.func27 rfl Try.ntmps27 (by simp) rfl (fun k id sh b0 h => by simp at h) rfl (fun i x0 x h0 h1 ρ u hr => by match i, h0, h1 with | 0, h0, h1 => (simp at h0 h1; subst h0; subst h1; exact arg_free rfl hr) | 1, h0, h1 => (simp at h0 h1; subst h0; subst h1; exact arg_free rfl hr) | i + 2, h0, _ => simp at h0) rfl (ren_free rfl) (fun W w ρ0 hW hdom => ?_)
  refine w_seq ?_
  refine c_reg (by kernel_rfl) rfl ?_
  refine s_p (by first | exact h_assign (v := .s _) rfl | exact h_assign (v := .agg _) rfl | exact h_assign (v := .tup _) rfl) ?_
  refine s_nil ?_
  refine n_wp ?_
  refine w_seq ?_
  refine w_seq ?_
  refine c_reg (by kernel_rfl) rfl ?_
  refine s_p (by first | exact h_move (v := .s _) rfl | exact h_move (v := .agg _) rfl | exact h_move (v := .tup _) rfl) ?_
  refine s_p (by first | exact h_len rfl Try.underlying29 | exact h_len_nil rfl Try.underlying29 | exact h_len_val rfl Try.underlying29) ?_
  refine s_p (by first | exact h_move (v := .s _) rfl | exact h_move (v := .agg _) rfl | exact h_move (v := .tup _) rfl) ?_
  refine s_p (by first | exact h_len rfl Try.underlying29 | exact h_len_nil rfl Try.underlying29 | exact h_len_val rfl Try.underlying29) ?_
  refine s_p (h_bin rfl rfl (b_neq rfl)) ?_
  refine s_nil ?_
  refine n_wp ?_
  refine w_cond rfl (fun hc_t10 => ?_) (fun hc_t10 => ?_)
  · exact absurd hc_t10 (by exact absurd rfl (of_decide_eq_true hc_t10))
  refine w_skip ?_
  refine n_wp ?_
  refine w_seq ?_
  refine w_seq ?_
  refine c_reg (by kernel_rfl) rfl ?_
  refine s_p (by first | exact h_assign (v := .s _) rfl | exact h_assign (v := .agg _) rfl | exact h_assign (v := .tup _) rfl) ?_
  refine s_nil ?_
  refine n_wp ?_
  refine w_block ?_
  refine c_loop (I27e (.nils) (.nils) []) 0 ⟨rfl, rfl⟩ (weak' (by repeat (first | exact trivial | refine ⟨rfl, ?_⟩)) rfl rfl (Nat.le_of_ble_eq_true rfl)) ?_
  rintro n T H ⟨rfl, rfl⟩
  refine w_seq ?_
  refine w_seq ?_
  refine c_reg (by kernel_rfl) rfl ?_
  refine s_p (by first | exact h_move (v := .s _) rfl | exact h_move (v := .agg _) rfl | exact h_move (v := .tup _) rfl) ?_
  refine s_p (by first | exact h_move (v := .s _) rfl | exact h_move (v := .agg _) rfl | exact h_move (v := .tup _) rfl) ?_
  refine s_p (by first | exact h_len rfl Try.underlying29 | exact h_len_nil rfl Try.underlying29 | exact h_len_val rfl Try.underlying29) ?_
  refine s_p (h_bin rfl rfl (b_lss rfl)) ?_
  refine s_nil ?_
  refine n_wp ?_
  refine w_cond rfl (fun hc_t14 => ?_) (fun hc_t14 => ?_)
  · exact absurd hc_t14 (by exact absurd (of_decide_eq_true hc_t14) (by omega))
  refine w_exit ?_
  refine x_thn ?_
  refine x_thn ?_
  refine x_eq ?_
  refine n_wp ?_
  refine w_seq ?_
  refine c_reg (by kernel_rfl) rfl ?_
  refine s_p (by first | exact h_assign (v := .s _) rfl | exact h_assign (v := .agg _) rfl | exact h_assign (v := .tup _) rfl) ?_
  refine s_nil ?_
  refine n_wp ?_
  refine w_ret ?_
  refine done0 ?_
  exact ret_tmp Try.results27 rfl
set_option maxRecDepth 100000 in
set_option maxHeartbeats 2000000 in
theorem stream_0 (key first : List Int) (id base idx cap : Nat) (H : Heap) : ACall Try.prog 26 H [.agg [.ints .u8 16 key], .agg [.ints .u8 16 first], .s (.slice id base idx 0 cap)] (.s .nils) [] := by
  refine acall_gen (args0 := [.agg [.ints .u8 16 key], .agg [.ints .u8 16 first], .s (.slice 0 0 0 0 cap)]) (H0 := [none]) (vf := fun _ => .s .nils) [(id, base + idx)] Try.func26 rfl Try.ntmps26 (by simp) rfl foot_none rfl (fun i x0 x h0 h1 ρ u hr => by match i, h0, h1 with | 0, h0, h1 => (simp at h0 h1; subst h0; subst h1; exact arg_free rfl hr) | 1, h0, h1 => (simp at h0 h1; subst h0; subst h1; exact arg_free rfl hr) | 2, h0, h1 => (simp at h0 h1; subst h0; subst h1; exact arg_slice (by rfl) hr) | i + 3, h0, _ => simp at h0) rfl (ren_free rfl) (fun W w ρ0 hW hdom => ?_)
  refine w_seq ?_
  refine c_reg (by kernel_rfl) rfl ?_
  refine s_a (by first | exact h_box_agg rfl rfl | exact h_box rfl (by simp) rfl) rfl ?_
  refine s_a (by first | exact h_box_agg rfl rfl | exact h_box rfl (by simp) rfl) rfl ?_
  refine s_p (by first | exact h_assign (v := .s _) rfl | exact h_assign (v := .agg _) rfl | exact h_assign (v := .tup _) rfl) ?_
  refine s_nil ?_
  refine n_wp ?_
  refine w_seq ?_
  refine w_seq ?_
  refine c_reg (by kernel_rfl) rfl ?_
  refine s_p (by first | exact h_move (v := .s _) rfl | exact h_move (v := .agg _) rfl | exact h_move (v := .tup _) rfl) ?_
  refine s_p (by first | exact h_len rfl Try.underlying29 | exact h_len_nil rfl Try.underlying29 | exact h_len_val rfl Try.underlying29) ?_
  refine s_p (h_bin rfl rfl (b_eql rfl)) ?_
  refine s_nil ?_
  refine n_wp ?_
  refine w_cond rfl (fun hc_t15 => ?_) (fun hc_t15 => ?_)
  rotate_left
  · exact absurd hc_t15 (by simp)
  refine w_seq ?_
  refine c_reg (by kernel_rfl) rfl ?_
  refine s_p (by first | exact h_assign (v := .s _) rfl | exact h_assign (v := .agg _) rfl | exact h_assign (v := .tup _) rfl) ?_
  refine s_nil ?_
  refine n_wp ?_
  refine w_ret ?_
  refine r_thn ?_
  refine done0 ?_
  exact ret_tmp Try.results26 rfl
def I28 (b : List Int) (n : Nat) (T : Tm) (H : Heap) : Prop := ∃ (t : Nat) (l : List Int), t ≤ 16 ∧ t = n ∧ l.length = 16 ∧ incF l t = inc16 b ∧
  T = [(1, .s (.ptr 0 0 0)), (2, .s (.ptr 1 0 0)), (3, .s (.int .i64 ((t : Int) - 1)))] ∧ H = [some ⟨true, [.ints .u8 16 l]⟩, some ⟨true, [.ints .u8 16 (z 16)]⟩]
set_option maxRecDepth 100000 in
set_option maxHeartbeats 1000000 in
theorem next_c (b : List Int) (hb : b.length = 16) (H : Heap) : ACall Try.prog 28 H [.agg [.ints .u8 16 b]] (.agg [.ints .u8 16 (inc16 b)]) [] := by
  refine acall_free Try.func28 rfl Try.ntmps28 (by simp) rfl rfl (fun W w hW => ?_) H
  refine w_seq ?_
  refine c_reg (by kernel_rfl) rfl ?_
  refine s_a (by first | exact h_box_agg rfl rfl | exact h_box rfl (by simp) rfl) rfl ?_
  refine s_a (h_alloc (segs := [.ints .u8 16 (z 16)]) Try.zeroValue22 (by kernel_rfl) rfl) rfl ?_
  refine s_nil ?_
  refine n_wp ?_
  refine w_seq ?_
  refine w_seq ?_
  refine c_reg (by kernel_rfl) rfl ?_
  refine s_p (by first | exact h_assign (v := .s _) rfl | exact h_assign (v := .agg _) rfl | exact h_assign (v := .tup _) rfl) ?_
  refine s_nil ?_
  refine n_wp ?_
  refine w_block ?_
  refine c_loop (I28 b) 16 ⟨16, _, by omega, rfl, hb, rfl, rfl, rfl⟩ (weak' (by repeat (first | exact trivial | refine ⟨rfl, ?_⟩)) rfl rfl (Nat.le_of_ble_eq_true rfl)) ?_
  rintro n T H ⟨t, l, ht, rfl, hll, hinc, rfl, rfl⟩
  refine w_seq ?_
  refine w_seq ?_
  refine c_reg (by kernel_rfl) rfl ?_
  refine s_p (by first | exact h_move (v := .s _) rfl | exact h_move (v := .agg _) rfl | exact h_move (v := .tup _) rfl) ?_
  refine s_p (h_bin rfl rfl (b_geq rfl)) ?_
  refine s_nil ?_
  refine n_wp ?_
  refine w_cond rfl (fun hc_t5 => ?_) (fun hc_t5 => ?_)
  · skip
    obtain ⟨t0, rfl⟩ : ∃ t0, t = t0 + 1 := ⟨t - 1, by have := of_decide_eq_true hc_t5; omega⟩
    refine w_skip ?_
    refine n_wp ?_
    refine w_seq ?_
    refine w_block ?_
    refine w_seq ?_
    refine c_reg (by kernel_rfl) rfl ?_
    refine s_p (by first | exact h_move (v := .s _) rfl | exact h_move (v := .agg _) rfl | exact h_move (v := .tup _) rfl) ?_
    refine s_p (h_ixl (t0) rfl rfl (by omega) Try.underlying22 Try.sizeOf5 (by omega)) ?_
    refine s_p (by first | exact h_load_ints rfl rfl rfl (by omega) rfl Try.isAgg5 | exact h_load_one rfl rfl rfl Try.isAgg5) ?_
    refine s_p (by first | exact h_bin rfl rfl (b_add (Go.IntWalk.i64_in _ (by omega))) | exact h_bin rfl rfl (b_add rfl)) ?_
    refine s_p (h_ixl (t0) rfl rfl (by omega) Try.underlying22 Try.sizeOf5 (by omega)) ?_
    refine s_st (by first | exact m_store_int rfl rfl rfl rfl (by omega) (by assumption) Try.sizeOf5 rfl | exact m_store_one rfl rfl (by simp) rfl rfl Try.sizeOf5 rfl) ?_
    refine s_nil ?_
    refine n_wp ?_
    refine w_seq ?_
    refine c_reg (by kernel_rfl) rfl ?_
    refine s_p (by first | exact h_move (v := .s _) rfl | exact h_move (v := .agg _) rfl | exact h_move (v := .tup _) rfl) ?_
    refine s_p (h_ixl (t0) rfl rfl (by omega) Try.underlying22 Try.sizeOf5 (by omega)) ?_
    refine s_p (by first | exact h_load_ints rfl rfl rfl (by omega) rfl Try.isAgg5 | exact h_load_one rfl rfl rfl Try.isAgg5) ?_
    refine s_p (h_bin rfl rfl (b_neq rfl)) ?_
    refine s_nil ?_
    refine n_wp ?_
    refine w_cond rfl (fun hc_t16 => ?_) (fun hc_t16 => ?_)
    · skip
      have hl2 : l.set t0 (IntKind.u8.wrap (l.getD t0 0 + 1)) = inc16 b := by rw [← hinc, incF, if_neg (of_decide_eq_true hc_t16)]
      rw [hl2]
      refine w_seq ?_
      refine c_reg (by kernel_rfl) rfl ?_
      refine s_p (by first | exact h_load_agg rfl rfl (.whole rfl) Try.isAgg22 Try.sizeOf22 | exact h_load_agg rfl rfl (.seg rfl rfl) Try.isAgg22 Try.sizeOf22 | exact h_load_agg rfl rfl (.ints rfl (by omega)) Try.isAgg22 Try.sizeOf22) ?_
      refine s_st (by first | exact m_store_agg rfl rfl rfl (.whole (Nat.le_of_ble_eq_true rfl) rfl rfl) Try.sizeOf22 rfl | exact m_store_agg rfl rfl rfl (.seg (Nat.le_of_ble_eq_true rfl) rfl rfl rfl) Try.sizeOf22 rfl | exact m_store_agg rfl rfl rfl (.ints (Nat.le_of_ble_eq_true rfl) rfl (by omega)) Try.sizeOf22 rfl) ?_
      refine s_nil ?_
      refine n_wp ?_
      refine w_ret ?_
      refine r_blo ?_
      refine r_thn ?_
      refine r_thn ?_
      refine r_blo ?_
      refine r_thn ?_
      exact ⟨.inl rfl, ret_cell_agg Try.results28 rfl rfl (.whole rfl) Try.isAgg22 Try.sizeOf22⟩
    · skip
      have hz0 : (l.set t0 (IntKind.u8.wrap (l.getD t0 0 + 1))).getD t0 0 = 0 := by have := of_decide_eq_false hc_t16; omega
      have hinc2 : incF (l.set t0 (IntKind.u8.wrap (l.getD t0 0 + 1))) t0 = inc16 b := by rw [← hinc]; simp only [incF]; rw [if_pos hz0]
      have hll2 : (l.set t0 (IntKind.u8.wrap (l.getD t0 0 + 1))).length = 16 := by simpa using hll
      refine w_skip ?_
      refine n_blo ?_
      refine n_wp ?_
      refine c_reg (by kernel_rfl) rfl ?_
      refine s_p (by first | exact h_move (v := .s _) rfl | exact h_move (v := .agg _) rfl | exact h_move (v := .tup _) rfl) ?_
      refine s_p (by first | exact h_bin rfl rfl (b_sub (Go.IntWalk.i64_in _ (by omega))) | exact h_bin rfl rfl (b_sub rfl)) ?_
      refine s_p (by first | exact h_assign (v := .s _) rfl | exact h_assign (v := .agg _) rfl | exact h_assign (v := .tup _) rfl) ?_
      refine s_nil ?_
      rw [show (((t0 + 1 : Nat) : Int) - 1 - 1) = (t0 : Int) - 1 by omega]
      exact n_round t0 (by omega) ⟨t0, _, by omega, rfl, hll2, hinc2, rfl, rfl⟩ (weak' (by repeat (first | exact trivial | refine ⟨rfl, ?_⟩)) rfl rfl (Nat.le_of_ble_eq_true rfl))
  · skip
    obtain rfl : t = 0 := by have := of_decide_eq_false hc_t5; omega
    have hl2 : l = inc16 b := hinc
    subst hl2
    refine w_exit ?_
    refine x_thn ?_
    refine x_thn ?_
    refine x_eq ?_
    refine n_wp ?_
    refine w_seq ?_
    refine c_reg (by kernel_rfl) rfl ?_
    refine s_p (by first | exact h_load_agg rfl rfl (.whole rfl) Try.isAgg22 Try.sizeOf22 | exact h_load_agg rfl rfl (.seg rfl rfl) Try.isAgg22 Try.sizeOf22 | exact h_load_agg rfl rfl (.ints rfl (by omega)) Try.isAgg22 Try.sizeOf22) ?_
    refine s_st (by first | exact m_store_agg rfl rfl rfl (.whole (Nat.le_of_ble_eq_true rfl) rfl rfl) Try.sizeOf22 rfl | exact m_store_agg rfl rfl rfl (.seg (Nat.le_of_ble_eq_true rfl) rfl rfl rfl) Try.sizeOf22 rfl | exact m_store_agg rfl rfl rfl (.ints (Nat.le_of_ble_eq_true rfl) rfl (by omega)) Try.sizeOf22 rfl) ?_
    refine s_nil ?_
    refine n_wp ?_
    refine w_ret ?_
    exact ⟨.inl rfl, ret_cell_agg Try.results28 rfl rfl (.whole rfl) Try.isAgg22 Try.sizeOf22⟩
end Go.Proofs.X
