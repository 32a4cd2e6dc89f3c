/- A part of the proofs of this claim: RefW1. No conditions. -/
import Derived.Test.YtffflnpidipheaaRefSpec2
import Derived.Test.YtffflnpidipheaaAesW7
import Derived.Test.YtffflnpidipheaaAb15
open Go Go.Ab Go.Proofs
namespace Go.Proofs.X
theorem callable_52 : Callable Try.prog 52 := ⟨_, Try.func52, by kernel_rfl, rfl⟩
theorem callable_68 : Callable Try.prog 68 := ⟨_, Try.func68, by kernel_rfl, rfl⟩
theorem callable_48 : Callable Try.prog 48 := ⟨_, Try.func48, by kernel_rfl, rfl⟩
theorem callable_20 : Callable Try.prog 20 := ⟨_, Try.func20, by kernel_rfl, rfl⟩
theorem callable_51 : Callable Try.prog 51 := ⟨_, Try.func51, by kernel_rfl, rfl⟩
theorem callable_22 : Callable Try.prog 22 := ⟨_, Try.func22, by kernel_rfl, rfl⟩
theorem callable_24 : Callable Try.prog 24 := ⟨_, Try.func24, by kernel_rfl, rfl⟩
def I52 (a b : Int) (n : Nat) (T : Tm) (H : Heap) : Prop := ∃ i : Nat, i ≤ 8 ∧ n = 8 - i ∧
  T = [(0, .s (.int .u8 (timS a b i).2)), (1, .s (.int .u8 b)), (5, .s (.int .u8 (timS a b i).1)), (6, .s (.int .i64 i))] ∧ H = []
def J52 (a b : Int) (i : Nat) (T : Tm) (H : Heap) : Prop := ∃ o, o = (timS a b (i + 1)).1 ∧
  T = [(0, .s (.int .u8 (timS a b i).2)), (1, .s (.int .u8 b)), (5, .s (.int .u8 o)), (6, .s (.int .i64 i))] ∧ H = []
set_option maxRecDepth 100000 in
set_option maxHeartbeats 2000000 in
theorem times_c (a b : Int) (H : Heap) : ACall Try.prog 52 H [.s (.int .u8 a), .s (.int .u8 b)] (.s (.int .u8 (timI a b))) [] := by
  refine acall_free Try.func52 rfl Try.ntmps52 (by simp) rfl rfl (fun W w hW => ?_) H
  refine w_seq ?_
  refine c_reg (by kernel_rfl) rfl ?_
  refine s_p (by first | exact h_assign (v := .s _) rfl | exact h_assign (v := .agg _) rfl | exact h_assign (v := .tup _) rfl) ?_
  refine s_nil ?_
  refine n_wp ?_
  refine w_seq ?_
  refine c_reg (by kernel_rfl) rfl ?_
  refine s_p (by first | exact h_assign (v := .s _) rfl | exact h_assign (v := .agg _) rfl | exact h_assign (v := .tup _) rfl) ?_
  refine s_nil ?_
  refine n_wp ?_
  refine w_seq ?_
  refine w_seq ?_
  refine c_reg (by kernel_rfl) rfl ?_
  refine s_p (by first | exact h_assign (v := .s _) rfl | exact h_assign (v := .agg _) rfl | exact h_assign (v := .tup _) rfl) ?_
  refine s_nil ?_
  refine n_wp ?_
  refine w_block ?_
  refine c_loop (I52 a b) 8 ⟨0, by omega, rfl, rfl, rfl⟩ (weak' (by repeat (first | exact trivial | refine ⟨rfl, ?_⟩)) rfl rfl (Nat.le_of_ble_eq_true rfl)) ?_
  rintro n T H ⟨i, hi, rfl, rfl, rfl⟩
  refine w_seq ?_
  refine w_seq ?_
  refine c_reg (by kernel_rfl) rfl ?_
  refine s_p (by first | exact h_move (v := .s _) rfl | exact h_move (v := .agg _) rfl | exact h_move (v := .tup _) rfl) ?_
  refine s_p (h_bin rfl rfl (b_lss rfl)) ?_
  refine s_nil ?_
  refine n_wp ?_
  refine w_cond rfl (fun hc_t9 => ?_) (fun hc_t9 => ?_)
  · skip
    have hlt : i < 8 := by have := of_decide_eq_true hc_t9; omega
    refine w_skip ?_
    refine n_wp ?_
    refine w_seq ?_
    refine w_block ?_
    refine w_seq ?_
    refine w_seq ?_
    refine c_reg (by kernel_rfl) rfl ?_
    refine s_p (by first | exact h_move (v := .s _) rfl | exact h_move (v := .agg _) rfl | exact h_move (v := .tup _) rfl) ?_
    refine s_p (by first | exact h_move (v := .s _) rfl | exact h_move (v := .agg _) rfl | exact h_move (v := .tup _) rfl) ?_
    refine s_p (h_bin rfl rfl (b_shr (by omega) rfl)) ?_
    refine s_p (h_bin rfl rfl (b_and rfl)) ?_
    refine s_p (h_bin rfl rfl (b_eql rfl)) ?_
    refine s_nil ?_
    refine n_wp ?_
    refine w_cut' (J52 a b i) ?_ ?_
    · skip
      refine w_cond rfl (fun hc_t16 => ?_) (fun hc_t16 => ?_)
      · skip
        have ho : xorK .u8 (timS a b i).1 (timS a b i).2 = (timS a b (i + 1)).1 := by simp only [timS]; rw [if_pos (of_decide_eq_true hc_t16)]
        refine c_reg (by kernel_rfl) rfl ?_
        refine s_p (by first | exact h_move (v := .s _) rfl | exact h_move (v := .agg _) rfl | exact h_move (v := .tup _) rfl) ?_
        refine s_p (by first | exact h_move (v := .s _) rfl | exact h_move (v := .agg _) rfl | exact h_move (v := .tup _) rfl) ?_
        refine s_p (h_bin rfl rfl (b_xor rfl)) ?_
        refine s_p (by first | exact h_assign (v := .s _) rfl | exact h_assign (v := .agg _) rfl | exact h_assign (v := .tup _) rfl) ?_
        refine s_nil ?_
        exact n_cut ⟨_, ho, rfl, rfl⟩ (weak' (by repeat (first | exact trivial | refine ⟨rfl, ?_⟩)) rfl rfl (Nat.le_of_ble_eq_true rfl))
      · skip
        have ho : (timS a b i).1 = (timS a b (i + 1)).1 := by simp only [timS]; rw [if_neg (of_decide_eq_false hc_t16)]
        refine w_skip ?_
        exact n_cut ⟨_, ho, rfl, rfl⟩ (weak' (by repeat (first | exact trivial | refine ⟨rfl, ?_⟩)) rfl rfl (Nat.le_of_ble_eq_true rfl))
    rintro T H ⟨o, ho, rfl, rfl⟩
    refine w_seq ?_
    refine c_reg (by kernel_rfl) rfl ?_
    refine s_p (by first | exact h_move (v := .s _) rfl | exact h_move (v := .agg _) rfl | exact h_move (v := .tup _) rfl) ?_
    refine s_p (h_bin rfl rfl (b_and rfl)) ?_
    refine s_p (by first | exact h_assign (v := .s _) rfl | exact h_assign (v := .agg _) rfl | exact h_assign (v := .tup _) rfl) ?_
    refine s_nil ?_
    refine n_wp ?_
    refine w_seq ?_
    refine c_reg (by kernel_rfl) rfl ?_
    refine s_p (by first | exact h_move (v := .s _) rfl | exact h_move (v := .agg _) rfl | exact h_move (v := .tup _) rfl) ?_
    refine s_p (h_bin rfl rfl (b_shl (by omega) rfl)) ?_
    refine s_p (by first | exact h_assign (v := .s _) rfl | exact h_assign (v := .agg _) rfl | exact h_assign (v := .tup _) rfl) ?_
    refine s_nil ?_
    refine n_wp ?_
    refine w_seq ?_
    refine c_reg (by kernel_rfl) rfl ?_
    refine s_p (by first | exact h_move (v := .s _) rfl | exact h_move (v := .agg _) rfl | exact h_move (v := .tup _) rfl) ?_
    refine s_p (h_bin rfl rfl (b_neq rfl)) ?_
    refine s_nil ?_
    refine n_wp ?_
    refine w_cond rfl (fun hc_t25 => ?_) (fun hc_t25 => ?_)
    · skip
      have h2 : xorK .u8 (shlK .u8 (timS a b i).2 1) 27 = (timS a b (i + 1)).2 := by simp only [timS]; rw [if_pos (of_decide_eq_true hc_t25)]
      refine c_reg (by kernel_rfl) rfl ?_
      refine s_p (by first | exact h_move (v := .s _) rfl | exact h_move (v := .agg _) rfl | exact h_move (v := .tup _) rfl) ?_
      refine s_p (h_bin rfl rfl (b_xor rfl)) ?_
      refine s_p (by first | exact h_assign (v := .s _) rfl | exact h_assign (v := .agg _) rfl | exact h_assign (v := .tup _) rfl) ?_
      refine s_nil ?_
      refine n_blo ?_
      refine n_wp ?_
      refine c_reg (by kernel_rfl) rfl ?_
      refine s_p (by first | exact h_move (v := .s _) rfl | exact h_move (v := .agg _) rfl | exact h_move (v := .tup _) rfl) ?_
      refine s_p (by first | exact h_bin rfl rfl (b_add (Go.IntWalk.i64_in _ (by omega))) | exact h_bin rfl rfl (b_add rfl)) ?_
      refine s_p (by first | exact h_assign (v := .s _) rfl | exact h_assign (v := .agg _) rfl | exact h_assign (v := .tup _) rfl) ?_
      refine s_nil ?_
      exact n_round (8 - (i + 1)) (by omega) ⟨i + 1, by omega, rfl, by rw [← h2, ← ho], rfl⟩ (weak' (by repeat (first | exact trivial | refine ⟨rfl, ?_⟩)) rfl rfl (Nat.le_of_ble_eq_true rfl))
    · skip
      have h2 : shlK .u8 (timS a b i).2 1 = (timS a b (i + 1)).2 := by simp only [timS]; rw [if_neg (of_decide_eq_false hc_t25)]
      refine w_skip ?_
      refine n_blo ?_
      refine n_wp ?_
      refine c_reg (by kernel_rfl) rfl ?_
      refine s_p (by first | exact h_move (v := .s _) rfl | exact h_move (v := .agg _) rfl | exact h_move (v := .tup _) rfl) ?_
      refine s_p (by first | exact h_bin rfl rfl (b_add (Go.IntWalk.i64_in _ (by omega))) | exact h_bin rfl rfl (b_add rfl)) ?_
      refine s_p (by first | exact h_assign (v := .s _) rfl | exact h_assign (v := .agg _) rfl | exact h_assign (v := .tup _) rfl) ?_
      refine s_nil ?_
      exact n_round (8 - (i + 1)) (by omega) ⟨i + 1, by omega, rfl, by rw [← h2, ← ho], rfl⟩ (weak' (by repeat (first | exact trivial | refine ⟨rfl, ?_⟩)) rfl rfl (Nat.le_of_ble_eq_true rfl))
  · skip
    obtain rfl : i = 8 := by have := of_decide_eq_false hc_t9; omega
    refine w_exit ?_
    refine x_thn ?_
    refine x_thn ?_
    refine x_eq ?_
    refine n_wp ?_
    refine w_seq ?_
    refine c_reg (by kernel_rfl) rfl ?_
    refine s_p (by first | exact h_move (v := .s _) rfl | exact h_move (v := .agg _) rfl | exact h_move (v := .tup _) rfl) ?_
    refine s_p (by first | exact h_assign (v := .s _) rfl | exact h_assign (v := .agg _) rfl | exact h_assign (v := .tup _) rfl) ?_
    refine s_nil ?_
    refine n_wp ?_
    refine w_ret ?_
    exact ⟨.inl rfl, ret_tmp Try.results52 rfl⟩

set_option maxRecDepth 100000 in
set_option maxHeartbeats 2000000 in
theorem turn_c (y : Int) (n : Nat) (hn : n ≤ 8) (H : Heap) : ACall Try.prog 68 H [.s (.int .u8 y), .s (.int .i64 n)] (.s (.int .u8 (turnI y n))) [] := by
  refine acall_free Try.func68 rfl Try.ntmps68 (by simp) rfl rfl (fun W w hW => ?_) H
  refine w_seq ?_
  refine c_reg (by kernel_rfl) rfl ?_
  refine s_p (by first | exact h_assign (v := .s _) rfl | exact h_assign (v := .agg _) rfl | exact h_assign (v := .tup _) rfl) ?_
  refine s_nil ?_
  refine n_wp ?_
  refine w_seq ?_
  refine c_any 7 mix (by kernel_rfl) (by kernel_rfl) rfl rfl rfl ?_
  refine t_p (by first | exact h_move (v := .s _) rfl | exact h_move (v := .agg _) rfl | exact h_move (v := .tup _) rfl) ?_
  refine t_p (by first | exact h_move (v := .s _) rfl | exact h_move (v := .agg _) rfl | exact h_move (v := .tup _) rfl) ?_
  refine t_p (h_bin rfl rfl (b_shl (by omega) rfl)) ?_
  refine t_p (by first | exact h_move (v := .s _) rfl | exact h_move (v := .agg _) rfl | exact h_move (v := .tup _) rfl) ?_
  refine t_p (by first | exact h_move (v := .s _) rfl | exact h_move (v := .agg _) rfl | exact h_move (v := .tup _) rfl) ?_
  refine t_p (by first | exact h_bin rfl rfl (b_sub (Go.IntWalk.i64_in _ (by omega))) | exact h_bin rfl rfl (b_sub rfl)) ?_
  refine t_p (h_bin rfl rfl (b_shr (by omega) rfl)) ?_
  refine t_nil ?_
  refine s_p (h_bin rfl rfl (b_or rfl)) ?_
  refine s_p (by first | exact h_assign (v := .s _) rfl | exact h_assign (v := .agg _) rfl | exact h_assign (v := .tup _) rfl) ?_
  refine s_nil ?_
  refine n_wp ?_
  refine w_ret ?_
  exact ⟨.inl rfl, ret_tmp Try.results68 rfl⟩

def I48 (n : Nat) (T : Tm) (H : Heap) : Prop := ∃ i : Nat, i ≤ 256 ∧ n = 256 - i ∧
  T = [(0, .s (.ptr 0 0 0)), (1, .s (.ptr 1 0 0)), (2, .s (.int .i64 i))] ∧ H = [some ⟨true, [.ints .u8 256 (z 256)]⟩, some ⟨true, [.ints .u8 256 (rbox i)]⟩]
def I48b (i : Nat) (r : List Int) (n : Nat) (T : Tm) (H : Heap) : Prop := ∃ k : Nat, 1 ≤ k ∧ k ≤ 256 ∧ n = 256 - k ∧ yI i = (if 0 < i then fK i (256 - k) k else 0) ∧
  T = [(0, .s (.ptr 0 0 0)), (1, .s (.ptr 1 0 0)), (2, .s (.int .i64 i)), (3, .s (.int .u8 0)), (4, .s (.int .i64 k))] ∧ H = [some ⟨true, [.ints .u8 256 (z 256)]⟩, some ⟨true, [.ints .u8 256 r]⟩]
set_option maxRecDepth 100000 in
set_option maxHeartbeats 2000000 in
theorem rbox_c (H : Heap) : ACall Try.prog 48 H [] (.agg [.ints .u8 256 SB]) [] := by
  refine acall_free Try.func48 rfl Try.ntmps48 (by simp) rfl rfl (fun W w hW => ?_) H
  refine w_seq ?_
  refine c_reg (by kernel_rfl) rfl ?_
  refine s_a (h_alloc (segs := [.ints .u8 256 (z 256)]) Try.zeroValue102 (by kernel_rfl) rfl) rfl ?_
  refine s_nil ?_
  refine n_wp ?_
  refine w_seq ?_
  refine c_reg (by kernel_rfl) rfl ?_
  refine s_a (h_alloc (segs := [.ints .u8 256 (z 256)]) Try.zeroValue102 (by kernel_rfl) rfl) rfl ?_
  refine s_nil ?_
  refine n_wp ?_
  refine w_seq ?_
  refine w_seq ?_
  refine c_reg (by kernel_rfl) rfl ?_
  refine s_p (by first | exact h_assign (v := .s _) rfl | exact h_assign (v := .agg _) rfl | exact h_assign (v := .tup _) rfl) ?_
  refine s_nil ?_
  refine n_wp ?_
  refine w_block ?_
  refine c_loop (I48) 256 ⟨0, by omega, rfl, rfl, rfl⟩ (weak' (by repeat (first | exact trivial | refine ⟨rfl, ?_⟩)) rfl rfl (Nat.le_of_ble_eq_true rfl)) ?_
  rintro n T H ⟨i, hi, rfl, rfl, rfl⟩
  refine w_seq ?_
  refine w_seq ?_
  refine c_reg (by kernel_rfl) rfl ?_
  refine s_p (by first | exact h_move (v := .s _) rfl | exact h_move (v := .agg _) rfl | exact h_move (v := .tup _) rfl) ?_
  refine s_p (h_bin rfl rfl (b_lss rfl)) ?_
  refine s_nil ?_
  refine n_wp ?_
  refine w_cond rfl (fun hc_t6 => ?_) (fun hc_t6 => ?_)
  · skip
    have hlt : i < 256 := by have := of_decide_eq_true hc_t6; omega
    have hrs : rbox (i + 1) = (rbox i).set i (boxV (yI i)) := rfl
    have hrl := rbox_len i
    generalize rbox i = r at *
    refine w_skip ?_
    refine n_wp ?_
    refine w_seq ?_
    refine w_block ?_
    refine w_seq ?_
    refine c_reg (by kernel_rfl) rfl ?_
    refine s_p (by first | exact h_assign (v := .s _) rfl | exact h_assign (v := .agg _) rfl | exact h_assign (v := .tup _) rfl) ?_
    refine s_nil ?_
    refine n_wp ?_
    refine w_seq ?_
    refine w_seq ?_
    refine c_reg (by kernel_rfl) rfl ?_
    refine s_p (by first | exact h_assign (v := .s _) rfl | exact h_assign (v := .agg _) rfl | exact h_assign (v := .tup _) rfl) ?_
    refine s_nil ?_
    refine n_wp ?_
    refine w_block ?_
    refine c_loop (I48b i r) 255 ⟨1, by omega, by omega, by omega, rfl, rfl, rfl⟩ (weak' (by repeat (first | exact trivial | refine ⟨rfl, ?_⟩)) rfl rfl (Nat.le_of_ble_eq_true rfl)) ?_
    rintro n T H ⟨k, hk1, hk, rfl, hfy, rfl, rfl⟩
    refine w_seq ?_
    refine w_seq ?_
    refine c_reg (by kernel_rfl) rfl ?_
    refine s_p (by first | exact h_move (v := .s _) rfl | exact h_move (v := .agg _) rfl | exact h_move (v := .tup _) rfl) ?_
    refine s_p (h_bin rfl rfl (b_lss rfl)) ?_
    refine s_p (by first | exact h_move (v := .s _) rfl | exact h_move (v := .agg _) rfl | exact h_move (v := .tup _) rfl) ?_
    refine s_opt rfl rfl (fun hB => by rw [hB]; exact (h_move (v := .s _) rfl)) ?_
    refine s_opt rfl rfl (fun hB => by rw [hB]; exact (h_bin rfl rfl (b_gtr rfl))) ?_
    refine s_p (h_pick_and rfl rfl rfl) ?_
    refine s_nil ?_
    refine n_wp ?_
    refine w_cond rfl (fun hc_t14 => ?_) (fun hc_t14 => ?_)
    · skip
      have hk2 : k < 256 := by have := of_decide_eq_true (Bool.and_eq_true_iff.1 hc_t14).1; omega
      have hi0 : 0 < i := by have := of_decide_eq_true (Bool.and_eq_true_iff.1 hc_t14).2; omega
      refine w_skip ?_
      refine n_wp ?_
      refine w_seq ?_
      refine w_block ?_
      refine w_seq ?_
      refine c_reg (by kernel_rfl) rfl ?_
      refine s_p (by first | exact h_move (v := .s _) rfl | exact h_move (v := .agg _) rfl | exact h_move (v := .tup _) rfl) ?_
      refine s_p (by first | exact h_conv rfl Try.underlying3 Try.underlying5 (Go.IntWalk.i64_in _ (by omega)) | exact h_conv rfl Try.underlying3 Try.underlying5 (wrap_u8 (by omega) (by omega)) | exact h_conv rfl Try.underlying3 Try.underlying5 rfl) ?_
      refine s_p (by first | exact h_move (v := .s _) rfl | exact h_move (v := .agg _) rfl | exact h_move (v := .tup _) rfl) ?_
      refine s_p (by first | exact h_conv rfl Try.underlying3 Try.underlying5 (Go.IntWalk.i64_in _ (by omega)) | exact h_conv rfl Try.underlying3 Try.underlying5 (wrap_u8 (by omega) (by omega)) | exact h_conv rfl Try.underlying3 Try.underlying5 rfl) ?_
      refine s_p (h_call callable_52 rfl (times_c _ _ _)) ?_
      refine s_p (h_bin rfl rfl (b_eql rfl)) ?_
      refine s_nil ?_
      refine n_wp ?_
      refine w_cond rfl (fun hc_t22 => ?_) (fun hc_t22 => ?_)
      · skip
        have hy : yI i = (k : Int) := by rw [hfy, if_pos hi0, show 256 - k = (255 - k) + 1 by omega, fK, if_pos (of_decide_eq_true hc_t22)]
        refine w_seq ?_
        refine c_reg (by kernel_rfl) rfl ?_
        refine s_p (by first | exact h_move (v := .s _) rfl | exact h_move (v := .agg _) rfl | exact h_move (v := .tup _) rfl) ?_
        refine s_p (by first | exact h_conv rfl Try.underlying3 Try.underlying5 (Go.IntWalk.i64_in _ (by omega)) | exact h_conv rfl Try.underlying3 Try.underlying5 (wrap_u8 (by omega) (by omega)) | exact h_conv rfl Try.underlying3 Try.underlying5 rfl) ?_
        refine s_p (by first | exact h_assign (v := .s _) rfl | exact h_assign (v := .agg _) rfl | exact h_assign (v := .tup _) rfl) ?_
        refine s_nil ?_
        refine n_wp ?_
        refine w_exit ?_
        refine x_ne rfl ?_
        refine x_thn ?_
        refine x_thn ?_
        refine x_eq ?_
        refine n_wp ?_
        refine c_reg (by kernel_rfl) rfl ?_
        refine s_p (by first | exact h_move (v := .s _) rfl | exact h_move (v := .agg _) rfl | exact h_move (v := .tup _) rfl) ?_
        refine s_p (by first | exact h_move (v := .s _) rfl | exact h_move (v := .agg _) rfl | exact h_move (v := .tup _) rfl) ?_
        refine s_p (by first | exact h_move (v := .s _) rfl | exact h_move (v := .agg _) rfl | exact h_move (v := .tup _) rfl) ?_
        refine s_p (h_call callable_68 rfl (turn_c _ 1 (by omega) _)) ?_
        refine s_p (h_bin rfl rfl (b_xor rfl)) ?_
        refine s_p (by first | exact h_move (v := .s _) rfl | exact h_move (v := .agg _) rfl | exact h_move (v := .tup _) rfl) ?_
        refine s_p (h_call callable_68 rfl (turn_c _ 2 (by omega) _)) ?_
        refine s_p (h_bin rfl rfl (b_xor rfl)) ?_
        refine s_p (by first | exact h_move (v := .s _) rfl | exact h_move (v := .agg _) rfl | exact h_move (v := .tup _) rfl) ?_
        refine s_p (h_call callable_68 rfl (turn_c _ 3 (by omega) _)) ?_
        refine s_p (h_bin rfl rfl (b_xor rfl)) ?_
        refine s_p (by first | exact h_move (v := .s _) rfl | exact h_move (v := .agg _) rfl | exact h_move (v := .tup _) rfl) ?_
        refine s_p (h_call callable_68 rfl (turn_c _ 4 (by omega) _)) ?_
        refine s_p (h_bin rfl rfl (b_xor rfl)) ?_
        refine s_p (h_bin rfl rfl (b_xor rfl)) ?_
        refine s_p (by first | exact h_ix rfl rfl Try.underlying102 Try.sizeOf5 (by omega) | exact h_ixa rfl rfl Try.underlying102 Try.sizeOf5 (by omega) | exact h_ixl (Int.toNat _) rfl rfl (Int.toNat_of_nonneg (by omega)).symm Try.underlying102 Try.sizeOf5 (by omega)) ?_
        refine s_st (by first | exact m_store_int rfl rfl rfl rfl (by omega) (by assumption) Try.sizeOf5 rfl | exact m_store_one rfl rfl (by simp) rfl rfl Try.sizeOf5 rfl) ?_
        refine s_nil ?_
        refine n_blo ?_
        refine n_wp ?_
        refine c_reg (by kernel_rfl) rfl ?_
        refine s_p (by first | exact h_move (v := .s _) rfl | exact h_move (v := .agg _) rfl | exact h_move (v := .tup _) rfl) ?_
        refine s_p (by first | exact h_bin rfl rfl (b_add (Go.IntWalk.i64_in _ (by omega))) | exact h_bin rfl rfl (b_add rfl)) ?_
        refine s_p (by first | exact h_assign (v := .s _) rfl | exact h_assign (v := .agg _) rfl | exact h_assign (v := .tup _) rfl) ?_
        refine s_nil ?_
        exact n_round (256 - (i + 1)) (by omega) ⟨i + 1, by omega, rfl, rfl, by rw [hrs, hy] <;> rfl⟩ (weak' (by repeat (first | exact trivial | refine ⟨rfl, ?_⟩)) rfl rfl (Nat.le_of_ble_eq_true rfl))
      · skip
        have hfy2 : yI i = (if 0 < i then fK i (256 - (k + 1)) (k + 1) else 0) := by rw [hfy, if_pos hi0, if_pos hi0, show 256 - k = (256 - (k + 1)) + 1 by omega, fK, if_neg (of_decide_eq_false hc_t22)]
        refine w_skip ?_
        refine n_blo ?_
        refine n_wp ?_
        refine c_reg (by kernel_rfl) rfl ?_
        refine s_p (by first | exact h_move (v := .s _) rfl | exact h_move (v := .agg _) rfl | exact h_move (v := .tup _) rfl) ?_
        refine s_p (by first | exact h_bin rfl rfl (b_add (Go.IntWalk.i64_in _ (by omega))) | exact h_bin rfl rfl (b_add rfl)) ?_
        refine s_p (by first | exact h_assign (v := .s _) rfl | exact h_assign (v := .agg _) rfl | exact h_assign (v := .tup _) rfl) ?_
        refine s_nil ?_
        exact n_round (256 - (k + 1)) (by omega) ⟨k + 1, by omega, by omega, rfl, hfy2, rfl, rfl⟩ (weak' (by repeat (first | exact trivial | refine ⟨rfl, ?_⟩)) rfl rfl (Nat.le_of_ble_eq_true rfl))
    · skip
      have hy : yI i = 0 := by
        rw [hfy]
        rcases (Bool.and_eq_false_iff.1 hc_t14) with h | h
        · have : k = 256 := by have := of_decide_eq_false h; omega
          subst this; split <;> rfl
        · have : ¬ 0 < i := by have := of_decide_eq_false h; omega
          rw [if_neg this]
      refine w_exit ?_
      refine x_thn ?_
      refine x_thn ?_
      refine x_eq ?_
      refine n_wp ?_
      refine c_reg (by kernel_rfl) rfl ?_
      refine s_p (by first | exact h_move (v := .s _) rfl | exact h_move (v := .agg _) rfl | exact h_move (v := .tup _) rfl) ?_
      refine s_p (by first | exact h_move (v := .s _) rfl | exact h_move (v := .agg _) rfl | exact h_move (v := .tup _) rfl) ?_
      refine s_p (by first | exact h_move (v := .s _) rfl | exact h_move (v := .agg _) rfl | exact h_move (v := .tup _) rfl) ?_
      refine s_p (h_call callable_68 rfl (turn_c _ 1 (by omega) _)) ?_
      refine s_p (h_bin rfl rfl (b_xor rfl)) ?_
      refine s_p (by first | exact h_move (v := .s _) rfl | exact h_move (v := .agg _) rfl | exact h_move (v := .tup _) rfl) ?_
      refine s_p (h_call callable_68 rfl (turn_c _ 2 (by omega) _)) ?_
      refine s_p (h_bin rfl rfl (b_xor rfl)) ?_
      refine s_p (by first | exact h_move (v := .s _) rfl | exact h_move (v := .agg _) rfl | exact h_move (v := .tup _) rfl) ?_
      refine s_p (h_call callable_68 rfl (turn_c _ 3 (by omega) _)) ?_
      refine s_p (h_bin rfl rfl (b_xor rfl)) ?_
      refine s_p (by first | exact h_move (v := .s _) rfl | exact h_move (v := .agg _) rfl | exact h_move (v := .tup _) rfl) ?_
      refine s_p (h_call callable_68 rfl (turn_c _ 4 (by omega) _)) ?_
      refine s_p (h_bin rfl rfl (b_xor rfl)) ?_
      refine s_p (h_bin rfl rfl (b_xor rfl)) ?_
      refine s_p (by first | exact h_ix rfl rfl Try.underlying102 Try.sizeOf5 (by omega) | exact h_ixa rfl rfl Try.underlying102 Try.sizeOf5 (by omega) | exact h_ixl (Int.toNat _) rfl rfl (Int.toNat_of_nonneg (by omega)).symm Try.underlying102 Try.sizeOf5 (by omega)) ?_
      refine s_st (by first | exact m_store_int rfl rfl rfl rfl (by omega) (by assumption) Try.sizeOf5 rfl | exact m_store_one rfl rfl (by simp) rfl rfl Try.sizeOf5 rfl) ?_
      refine s_nil ?_
      refine n_blo ?_
      refine n_wp ?_
      refine c_reg (by kernel_rfl) rfl ?_
      refine s_p (by first | exact h_move (v := .s _) rfl | exact h_move (v := .agg _) rfl | exact h_move (v := .tup _) rfl) ?_
      refine s_p (by first | exact h_bin rfl rfl (b_add (Go.IntWalk.i64_in _ (by omega))) | exact h_bin rfl rfl (b_add rfl)) ?_
      refine s_p (by first | exact h_assign (v := .s _) rfl | exact h_assign (v := .agg _) rfl | exact h_assign (v := .tup _) rfl) ?_
      refine s_nil ?_
      exact n_round (256 - (i + 1)) (by omega) ⟨i + 1, by omega, rfl, rfl, by rw [hrs, hy] <;> rfl⟩ (weak' (by repeat (first | exact trivial | refine ⟨rfl, ?_⟩)) rfl rfl (Nat.le_of_ble_eq_true rfl))
  · skip
    obtain rfl : i = 256 := by have := of_decide_eq_false hc_t6; omega
    rw [rbox_eq]
    refine w_exit ?_
    refine x_thn ?_
    refine x_thn ?_
    refine x_eq ?_
    refine n_wp ?_
    refine w_seq ?_
    refine c_reg (by kernel_rfl) rfl ?_
    refine s_p (by first | exact h_load_agg rfl rfl (.whole rfl) Try.isAgg102 Try.sizeOf102 | exact h_load_agg rfl rfl (.seg rfl rfl) Try.isAgg102 Try.sizeOf102 | exact h_load_agg rfl rfl (.ints rfl (by omega)) Try.isAgg102 Try.sizeOf102) ?_
    refine s_st (by first | exact m_store_agg rfl rfl rfl (.whole (Nat.le_of_ble_eq_true rfl) rfl rfl) Try.sizeOf102 rfl | exact m_store_agg rfl rfl rfl (.seg (Nat.le_of_ble_eq_true rfl) rfl rfl rfl) Try.sizeOf102 rfl | exact m_store_agg rfl rfl rfl (.ints (Nat.le_of_ble_eq_true rfl) rfl (by omega)) Try.sizeOf102 rfl) ?_
    refine s_nil ?_
    refine n_wp ?_
    refine w_ret ?_
    exact ⟨.inl rfl, ret_cell_agg Try.results48 rfl rfl (.whole rfl) Try.isAgg102 Try.sizeOf102⟩

def bxb : List Seg := [.ints .u8 256 SB, .ints .u8 256 BK]
set_option maxRecDepth 100000 in
theorem SB_len : SB.length = 256 := rfl
set_option maxRecDepth 100000 in
theorem build_105 (w : World) : (Instr.build 105 #[(0, .agg (SB.map (Value.int .u8)).toArray)]).run Try.prog w = .ok (.agg ((SB ++ z 256).map (Value.int .u8)).toArray) w := by kernel_rfl
def I20 (n : Nat) (T : Tm) (H : Heap) : Prop := ∃ i : Nat, i ≤ 256 ∧ n = 256 - i ∧ T = [(1, .s (.ptr 0 0 0)), (2, .s (.int .i64 i))] ∧ H = [some ⟨true, [.ints .u8 256 SB, .ints .u8 256 (rback i)]⟩]
set_option maxRecDepth 100000 in
set_option maxHeartbeats 2000000 in
theorem NewBox_c (H : Heap) : ACall Try.prog 20 H [] (.s (.ptr (H.length + 0) 0 0)) [⟨true, [.ints .u8 256 SB, .ints .u8 256 BK]⟩] := by
  refine acall_gen (args0 := []) (H0 := []) (vf := (fun r => .s (.ptr (r 0) 0 0))) [] Try.func20 rfl Try.ntmps20 (by simp) rfl (fun k id sh b0 h => by simp at h) rfl (args_free rfl) rfl (ren_ptr (Nat.zero_lt_succ _)) (fun W w ρ0 hW hdom => ?_)
  refine w_seq ?_
  refine c_reg (by kernel_rfl) rfl ?_
  refine s_p (by first | exact h_assign (v := .s _) rfl | exact h_assign (v := .agg _) rfl | exact h_assign (v := .tup _) rfl) ?_
  refine s_nil ?_
  refine n_wp ?_
  refine w_seq ?_
  refine c_reg (by kernel_rfl) rfl ?_
  refine s_p (h_call callable_48 rfl (rbox_c _)) ?_
  refine s_p (h_build_agg rfl SB_len build_105 (segs := [.ints .u8 256 SB, .ints .u8 256 (rback 0)]) (by kernel_rfl)) ?_
  refine s_a (by first | exact h_box_agg rfl rfl | exact h_box rfl (by simp) rfl) rfl ?_
  refine s_p (by first | exact h_assign (v := .s _) rfl | exact h_assign (v := .agg _) rfl | exact h_assign (v := .tup _) rfl) ?_
  refine s_nil ?_
  refine n_wp ?_
  refine w_seq ?_
  refine w_seq ?_
  refine c_reg (by kernel_rfl) rfl ?_
  refine s_p (by first | exact h_assign (v := .s _) rfl | exact h_assign (v := .agg _) rfl | exact h_assign (v := .tup _) rfl) ?_
  refine s_nil ?_
  refine n_wp ?_
  refine w_block ?_
  refine c_loop (I20) 256 ⟨0, by omega, rfl, rfl, rfl⟩ (weak' (by repeat (first | exact trivial | refine ⟨rfl, ?_⟩)) rfl rfl (Nat.le_of_ble_eq_true rfl)) ?_
  rintro n T H ⟨i, hi, rfl, rfl, rfl⟩
  refine w_seq ?_
  refine w_seq ?_
  refine c_reg (by kernel_rfl) rfl ?_
  refine s_p (by first | exact h_move (v := .s _) rfl | exact h_move (v := .agg _) rfl | exact h_move (v := .tup _) rfl) ?_
  refine s_p (h_bin rfl rfl (b_lss rfl)) ?_
  refine s_nil ?_
  refine n_wp ?_
  refine w_cond rfl (fun hc_t7 => ?_) (fun hc_t7 => ?_)
  · skip
    have hlt : i < 256 := by have := of_decide_eq_true hc_t7; omega
    have hrs : rback (i + 1) = (rback i).set (SB.getD i 0).toNat i := rfl
    have hrl := rback_len i
    have e1 := (U8_SB i).1
    have e2 := (U8_SB i).2
    generalize rback i = r at *
    refine w_skip ?_
    refine n_wp ?_
    refine w_seq ?_
    refine w_block ?_
    refine c_any 11 mix (by kernel_rfl) (by kernel_rfl) rfl rfl rfl ?_
    refine t_p (by first | exact h_move (v := .s _) rfl | exact h_move (v := .agg _) rfl | exact h_move (v := .tup _) rfl) ?_
    refine t_p (by first | exact h_move (v := .s _) rfl | exact h_move (v := .agg _) rfl | exact h_move (v := .tup _) rfl) ?_
    refine t_p (by first | exact h_move (v := .s _) rfl | exact h_move (v := .agg _) rfl | exact h_move (v := .tup _) rfl) ?_
    refine t_p (h_nilCheck rfl) ?_
    refine t_p (h_field rfl Try.underlying105 rfl Try.sizeOf102 (by decide)) ?_
    refine t_p (by first | exact h_ix rfl rfl Try.underlying102 Try.sizeOf5 (by omega) | exact h_ixa rfl rfl Try.underlying102 Try.sizeOf5 (by omega) | exact h_ixl (Int.toNat _) rfl rfl (Int.toNat_of_nonneg (by omega)).symm Try.underlying102 Try.sizeOf5 (by omega)) ?_
    refine t_p (by first | exact h_load_ints rfl rfl rfl (by omega) rfl Try.isAgg5 | exact h_load_one rfl rfl rfl Try.isAgg5) ?_
    refine t_p (by first | exact h_move (v := .s _) rfl | exact h_move (v := .agg _) rfl | exact h_move (v := .tup _) rfl) ?_
    refine t_p (by first | exact h_conv rfl Try.underlying3 Try.underlying5 (Go.IntWalk.i64_in _ (by omega)) | exact h_conv rfl Try.underlying3 Try.underlying5 (wrap_u8 (by omega) (by omega)) | exact h_conv rfl Try.underlying3 Try.underlying5 rfl) ?_
    refine t_p (h_nilCheck rfl) ?_
    refine t_p (h_field rfl Try.underlying105 rfl Try.sizeOf102 (by decide)) ?_
    refine t_nil ?_
    refine s_p (by first | exact h_ix rfl rfl Try.underlying102 Try.sizeOf5 (by omega) | exact h_ixa rfl rfl Try.underlying102 Try.sizeOf5 (by omega) | exact h_ixl (Int.toNat _) rfl rfl (Int.toNat_of_nonneg (by omega)).symm Try.underlying102 Try.sizeOf5 (by omega)) ?_
    refine s_st (by first | exact m_store_int rfl rfl rfl rfl (by omega) (by assumption) Try.sizeOf5 rfl | exact m_store_one rfl rfl (by simp) rfl rfl Try.sizeOf5 rfl) ?_
    refine s_nil ?_
    refine n_blo ?_
    refine n_wp ?_
    refine c_reg (by kernel_rfl) rfl ?_
    refine s_p (by first | exact h_move (v := .s _) rfl | exact h_move (v := .agg _) rfl | exact h_move (v := .tup _) rfl) ?_
    refine s_p (by first | exact h_bin rfl rfl (b_add (Go.IntWalk.i64_in _ (by omega))) | exact h_bin rfl rfl (b_add rfl)) ?_
    refine s_p (by first | exact h_assign (v := .s _) rfl | exact h_assign (v := .agg _) rfl | exact h_assign (v := .tup _) rfl) ?_
    refine s_nil ?_
    exact n_round (256 - (i + 1)) (by omega) ⟨i + 1, by omega, rfl, rfl, by rw [hrs]⟩ (weak' (by repeat (first | exact trivial | refine ⟨rfl, ?_⟩)) rfl rfl (Nat.le_of_ble_eq_true rfl))
  · skip
    obtain rfl : i = 256 := by have := of_decide_eq_false hc_t7; omega
    rw [rback_eq]
    refine w_exit ?_
    refine x_thn ?_
    refine x_thn ?_
    refine x_eq ?_
    refine n_wp ?_
    refine w_seq ?_
    refine c_reg (by kernel_rfl) rfl ?_
    refine s_p (by first | exact h_move (v := .s _) rfl | exact h_move (v := .agg _) rfl | exact h_move (v := .tup _) rfl) ?_
    refine s_p (by first | exact h_assign (v := .s _) rfl | exact h_assign (v := .agg _) rfl | exact h_assign (v := .tup _) rfl) ?_
    refine s_nil ?_
    refine n_wp ?_
    refine w_ret ?_
    refine done1 (k := 0) (Nat.zero_le _) rfl ?_
    exact ret_tmp (t := 0) Try.results20 rfl

end Go.Proofs.X
