/- A part of the proofs of this claim: KeyL4. No conditions. -/
import Derived.Test.YtffflnpidipheaaKeyL1
import Derived.Test.YtffflnpidipheaaKeyW3
open Go Go.Ab Go.Proofs
namespace Go.Proofs.X
theorem callable_10 : Callable Try.prog 10 := ⟨_, Try.func10, by kernel_rfl, rfl⟩
set_option maxRecDepth 100000 in
set_option maxHeartbeats 2000000 in
theorem cut_l (H : Heap) (a : Option Addr) (n c pl at_ v : Nat) (hpl : pl < 256) (hn : 2000 < n) : ACall Try.prog 10 H [.agg [.one (.val (.slice a n c)), .one (.int .u8 ((pl : Nat) : Int)), .one (.int .u16 ((at_ : Nat) : Int)), .one (.int .u8 ((v : Nat) : Int))]] (.s (.bool true)) [] := by
  refine acall_gen2 (args0 := [.agg [.one (.val (.slice a n c)), .one (.int .u8 ((pl : Nat) : Int)), .one (.int .u16 ((at_ : Nat) : Int)), .one (.int .u8 ((v : Nat) : Int))]]) (H0 := []) (Hf := []) (v0 := .s (.bool true)) [] [] Try.func10 rfl Try.ntmps10 (by simp) rfl
    (fun k id sh b0 h1 h2 => by simp at h1) (fun W ρ vals w hH ha k id' sh' hk => by simp at hk) rfl rfl rfl (by decide) rfl rfl rfl (fun W w ρ0 hW hdom => ?_)
  refine w_seq ?_
  refine c_reg (by kernel_rfl) rfl ?_
  refine s_a (by first | exact h_box_agg rfl rfl | exact h_box rfl (by simp) rfl) rfl ?_
  refine s_p (by first | exact h_assign (v := .s _) rfl | exact h_assign (v := .agg _) rfl | exact h_assign (v := .tup _) rfl) ?_
  refine s_nil ?_
  refine n_wp ?_
  refine w_seq ?_
  refine c_reg (by kernel_rfl) rfl ?_
  refine s_p (h_field rfl Try.underlying54 rfl Try.sizeOf29 (by decide)) ?_
  refine s_p (by first | exact h_load_ints rfl rfl rfl (by omega) rfl Try.isAgg29 | exact h_load_one rfl rfl rfl Try.isAgg29) ?_
  refine s_p (by first | exact h_assign (v := .s _) rfl | exact h_assign (v := .agg _) rfl | exact h_assign (v := .tup _) rfl) ?_
  refine s_nil ?_
  refine n_wp ?_
  refine w_seq ?_
  refine c_reg (by kernel_rfl) rfl ?_
  refine s_p (h_field rfl Try.underlying54 rfl Try.sizeOf5 (by decide)) ?_
  refine s_p (by first | exact h_load_ints rfl rfl rfl (by omega) rfl Try.isAgg5 | exact h_load_one rfl rfl rfl Try.isAgg5) ?_
  refine s_p (by first | exact h_assign (v := .s _) rfl | exact h_assign (v := .agg _) rfl | exact h_assign (v := .tup _) rfl) ?_
  refine s_nil ?_
  refine n_wp ?_
  refine w_seq ?_
  refine c_reg (by kernel_rfl) rfl ?_
  refine s_p (h_field rfl Try.underlying54 rfl Try.sizeOf30 (by decide)) ?_
  refine s_p (by first | exact h_load_ints rfl rfl rfl (by omega) rfl Try.isAgg30 | exact h_load_one rfl rfl rfl Try.isAgg30) ?_
  refine s_p (by first | exact h_assign (v := .s _) rfl | exact h_assign (v := .agg _) rfl | exact h_assign (v := .tup _) rfl) ?_
  refine s_nil ?_
  refine n_wp ?_
  refine w_seq ?_
  refine c_reg (by kernel_rfl) rfl ?_
  refine s_p (h_field rfl Try.underlying54 rfl Try.sizeOf5 (by decide)) ?_
  refine s_p (by first | exact h_load_ints rfl rfl rfl (by omega) rfl Try.isAgg5 | exact h_load_one rfl rfl rfl Try.isAgg5) ?_
  refine s_p (by first | exact h_assign (v := .s _) rfl | exact h_assign (v := .agg _) rfl | exact h_assign (v := .tup _) rfl) ?_
  refine s_nil ?_
  refine n_wp ?_
  refine w_seq ?_
  refine c_reg (by kernel_rfl) rfl ?_
  refine s_p (by first | exact h_move (v := .s _) rfl | exact h_move (v := .agg _) rfl | exact h_move (v := .tup _) rfl) ?_
  refine s_p (h_conv (r := ((pl : Nat) : Int)) rfl Try.underlying5 Try.underlying3 (wr_n rfl (by omega))) ?_
  refine s_p (h_bin rfl rfl (b_rem (r := ((pl % 8 : Nat) : Int)) (by omega) rfl)) ?_
  refine s_p (by first | exact h_assign (v := .s _) rfl | exact h_assign (v := .agg _) rfl | exact h_assign (v := .tup _) rfl) ?_
  refine s_nil ?_
  refine n_wp ?_
  refine w_seq ?_
  refine w_seq ?_
  refine c_reg (by kernel_rfl) rfl ?_
  refine s_p (by first | exact h_move (v := .s _) rfl | exact h_move (v := .agg _) rfl | exact h_move (v := .tup _) rfl) ?_
  refine s_p (by first | exact h_len rfl Try.underlying29 | exact h_len_nil rfl Try.underlying29 | exact h_len_val rfl Try.underlying29) ?_
  refine s_p (h_bin rfl rfl (b_gtr (decide_eq_true (by omega)))) ?_
  refine s_p (by first | exact h_move (v := .s _) rfl | exact h_move (v := .agg _) rfl | exact h_move (v := .tup _) rfl) ?_
  first | refine s_on rfl rfl (by first | rfl | assumption) (by first | exact h_move (v := .s _) rfl | exact h_move (v := .agg _) rfl | exact h_move (v := .tup _) rfl) ?_ | refine s_off rfl rfl (by first | rfl | assumption) ?_
  first | refine s_on rfl rfl (by first | rfl | assumption) (by first | exact h_len rfl Try.underlying29 | exact h_len_nil rfl Try.underlying29 | exact h_len_val rfl Try.underlying29) ?_ | refine s_off rfl rfl (by first | rfl | assumption) ?_
  first | refine s_on rfl rfl (by first | rfl | assumption) (by first | exact h_move (v := .s _) rfl | exact h_move (v := .agg _) rfl | exact h_move (v := .tup _) rfl) ?_ | refine s_off rfl rfl (by first | rfl | assumption) ?_
  first | refine s_on rfl rfl (by first | rfl | assumption) (h_bin rfl rfl (b_mul (r := ((48 * (pl % 8) : Nat) : Int)) (wr_n (by omega) (by omega)))) ?_ | refine s_off rfl rfl (by first | rfl | assumption) ?_
  first | refine s_on rfl rfl (by first | rfl | assumption) (h_bin rfl rfl (b_add (r := ((48 * (pl % 8) + 48 : Nat) : Int)) (wr_n (by omega) (by omega)))) ?_ | refine s_off rfl rfl (by first | rfl | assumption) ?_
  first | refine s_on rfl rfl (by first | rfl | assumption) (h_bin rfl rfl (b_lss rfl)) ?_ | refine s_off rfl rfl (by first | rfl | assumption) ?_
  refine s_p (by first | exact h_pick_t rfl (by first | rfl | assumption) rfl | exact h_pick_f rfl (by first | rfl | assumption) rfl) ?_
  refine s_nil ?_
  refine n_wp ?_
  refine w_cond rfl (fun hc_t36 => ?_) (fun hc_t36 => ?_)
  rotate_left
  · exact absurd hc_t36 (by simp)
  refine w_seq ?_
  refine c_reg (by kernel_rfl) rfl ?_
  refine s_p (h_call callable_30 rfl (lives10 _)) ?_
  refine s_p (by first | exact h_assign (v := .s _) rfl | exact h_assign (v := .agg _) rfl | exact h_assign (v := .tup _) rfl) ?_
  refine s_nil ?_
  refine n_wp ?_
  refine w_ret ?_
  refine r_thn ?_
  exact doneM (by repeat (first | exact trivial | refine ⟨rfl, ?_⟩)) (ret_tmp Try.results10 rfl)
set_option maxRecDepth 100000 in
set_option maxHeartbeats 2000000 in
theorem cut_x (H : Heap) (a : Option Addr) (n c pl at_ v : Nat) (hpl : pl < 256) (hn : n ≤ 2000) (hx : n < 48 * (pl % 8) + 48) : ACall Try.prog 10 H [.agg [.one (.val (.slice a n c)), .one (.int .u8 ((pl : Nat) : Int)), .one (.int .u16 ((at_ : Nat) : Int)), .one (.int .u8 ((v : Nat) : Int))]] (.s (.bool true)) [] := by
  refine acall_gen2 (args0 := [.agg [.one (.val (.slice a n c)), .one (.int .u8 ((pl : Nat) : Int)), .one (.int .u16 ((at_ : Nat) : Int)), .one (.int .u8 ((v : Nat) : Int))]]) (H0 := []) (Hf := []) (v0 := .s (.bool true)) [] [] Try.func10 rfl Try.ntmps10 (by simp) rfl
    (fun k id sh b0 h1 h2 => by simp at h1) (fun W ρ vals w hH ha k id' sh' hk => by simp at hk) rfl rfl rfl (by decide) rfl rfl rfl (fun W w ρ0 hW hdom => ?_)
  refine w_seq ?_
  refine c_reg (by kernel_rfl) rfl ?_
  refine s_a (by first | exact h_box_agg rfl rfl | exact h_box rfl (by simp) rfl) rfl ?_
  refine s_p (by first | exact h_assign (v := .s _) rfl | exact h_assign (v := .agg _) rfl | exact h_assign (v := .tup _) rfl) ?_
  refine s_nil ?_
  refine n_wp ?_
  refine w_seq ?_
  refine c_reg (by kernel_rfl) rfl ?_
  refine s_p (h_field rfl Try.underlying54 rfl Try.sizeOf29 (by decide)) ?_
  refine s_p (by first | exact h_load_ints rfl rfl rfl (by omega) rfl Try.isAgg29 | exact h_load_one rfl rfl rfl Try.isAgg29) ?_
  refine s_p (by first | exact h_assign (v := .s _) rfl | exact h_assign (v := .agg _) rfl | exact h_assign (v := .tup _) rfl) ?_
  refine s_nil ?_
  refine n_wp ?_
  refine w_seq ?_
  refine c_reg (by kernel_rfl) rfl ?_
  refine s_p (h_field rfl Try.underlying54 rfl Try.sizeOf5 (by decide)) ?_
  refine s_p (by first | exact h_load_ints rfl rfl rfl (by omega) rfl Try.isAgg5 | exact h_load_one rfl rfl rfl Try.isAgg5) ?_
  refine s_p (by first | exact h_assign (v := .s _) rfl | exact h_assign (v := .agg _) rfl | exact h_assign (v := .tup _) rfl) ?_
  refine s_nil ?_
  refine n_wp ?_
  refine w_seq ?_
  refine c_reg (by kernel_rfl) rfl ?_
  refine s_p (h_field rfl Try.underlying54 rfl Try.sizeOf30 (by decide)) ?_
  refine s_p (by first | exact h_load_ints rfl rfl rfl (by omega) rfl Try.isAgg30 | exact h_load_one rfl rfl rfl Try.isAgg30) ?_
  refine s_p (by first | exact h_assign (v := .s _) rfl | exact h_assign (v := .agg _) rfl | exact h_assign (v := .tup _) rfl) ?_
  refine s_nil ?_
  refine n_wp ?_
  refine w_seq ?_
  refine c_reg (by kernel_rfl) rfl ?_
  refine s_p (h_field rfl Try.underlying54 rfl Try.sizeOf5 (by decide)) ?_
  refine s_p (by first | exact h_load_ints rfl rfl rfl (by omega) rfl Try.isAgg5 | exact h_load_one rfl rfl rfl Try.isAgg5) ?_
  refine s_p (by first | exact h_assign (v := .s _) rfl | exact h_assign (v := .agg _) rfl | exact h_assign (v := .tup _) rfl) ?_
  refine s_nil ?_
  refine n_wp ?_
  refine w_seq ?_
  refine c_reg (by kernel_rfl) rfl ?_
  refine s_p (by first | exact h_move (v := .s _) rfl | exact h_move (v := .agg _) rfl | exact h_move (v := .tup _) rfl) ?_
  refine s_p (h_conv (r := ((pl : Nat) : Int)) rfl Try.underlying5 Try.underlying3 (wr_n rfl (by omega))) ?_
  refine s_p (h_bin rfl rfl (b_rem (r := ((pl % 8 : Nat) : Int)) (by omega) rfl)) ?_
  refine s_p (by first | exact h_assign (v := .s _) rfl | exact h_assign (v := .agg _) rfl | exact h_assign (v := .tup _) rfl) ?_
  refine s_nil ?_
  refine n_wp ?_
  refine w_seq ?_
  refine w_seq ?_
  refine c_reg (by kernel_rfl) rfl ?_
  refine s_p (by first | exact h_move (v := .s _) rfl | exact h_move (v := .agg _) rfl | exact h_move (v := .tup _) rfl) ?_
  refine s_p (by first | exact h_len rfl Try.underlying29 | exact h_len_nil rfl Try.underlying29 | exact h_len_val rfl Try.underlying29) ?_
  refine s_p (h_bin rfl rfl (b_gtr (decide_eq_false (by omega)))) ?_
  refine s_p (by first | exact h_move (v := .s _) rfl | exact h_move (v := .agg _) rfl | exact h_move (v := .tup _) rfl) ?_
  first | refine s_on rfl rfl (by first | rfl | assumption) (by first | exact h_move (v := .s _) rfl | exact h_move (v := .agg _) rfl | exact h_move (v := .tup _) rfl) ?_ | refine s_off rfl rfl (by first | rfl | assumption) ?_
  first | refine s_on rfl rfl (by first | rfl | assumption) (by first | exact h_len rfl Try.underlying29 | exact h_len_nil rfl Try.underlying29 | exact h_len_val rfl Try.underlying29) ?_ | refine s_off rfl rfl (by first | rfl | assumption) ?_
  first | refine s_on rfl rfl (by first | rfl | assumption) (by first | exact h_move (v := .s _) rfl | exact h_move (v := .agg _) rfl | exact h_move (v := .tup _) rfl) ?_ | refine s_off rfl rfl (by first | rfl | assumption) ?_
  first | refine s_on rfl rfl (by first | rfl | assumption) (h_bin rfl rfl (b_mul (r := ((48 * (pl % 8) : Nat) : Int)) (wr_n (by omega) (by omega)))) ?_ | refine s_off rfl rfl (by first | rfl | assumption) ?_
  first | refine s_on rfl rfl (by first | rfl | assumption) (h_bin rfl rfl (b_add (r := ((48 * (pl % 8) + 48 : Nat) : Int)) (wr_n (by omega) (by omega)))) ?_ | refine s_off rfl rfl (by first | rfl | assumption) ?_
  first | refine s_on rfl rfl (by first | rfl | assumption) (h_bin rfl rfl (b_lss (decide_eq_true (by omega)))) ?_ | refine s_off rfl rfl (by first | rfl | assumption) ?_
  refine s_p (by first | exact h_pick_t rfl (by first | rfl | assumption) rfl | exact h_pick_f rfl (by first | rfl | assumption) rfl) ?_
  refine s_nil ?_
  refine n_wp ?_
  refine w_cond rfl (fun hc_t36 => ?_) (fun hc_t36 => ?_)
  rotate_left
  · exact absurd hc_t36 (by simp)
  refine w_seq ?_
  refine c_reg (by kernel_rfl) rfl ?_
  refine s_p (h_call callable_30 rfl (lives10 _)) ?_
  refine s_p (by first | exact h_assign (v := .s _) rfl | exact h_assign (v := .agg _) rfl | exact h_assign (v := .tup _) rfl) ?_
  refine s_nil ?_
  refine n_wp ?_
  refine w_ret ?_
  refine r_thn ?_
  exact doneM (by repeat (first | exact trivial | refine ⟨rfl, ?_⟩)) (ret_tmp Try.results10 rfl)
set_option maxRecDepth 100000 in
set_option maxHeartbeats 2000000 in
theorem cut_s (B : List Int) (len cap pl at_ v kk : Nat) (h8 : U8 B) (hBl : B.length = len) (hcap : len ≤ cap) (hpl : pl < 256) (hat : at_ < 65536) (hv : v < 256) (hn : len ≤ 2000) (hx : 48 * (pl % 8) + 48 ≤ len) (hk : kk = at_ % len) (c : Code) (hc : Try.f10.body = some c) (W : Nat → Prop) (w : World) (ρ0 : Rho) (hW : ∀ b, w.heap.size ≤ b → W b) (hdom : ∀ id, 1 ≤ id → ρ0 id = none) :
    Wp ⟨Try.prog, W, w, ρ0, 120, 1, hW, hdom⟩ c (argT 0 [.agg [.one (.slice 0 0 0 len cap), .one (.int .u8 ((pl : Nat) : Int)), .one (.int .u16 ((at_ : Nat) : Int)), .one (.int .u8 ((v : Nat) : Int))]]) [some ⟨false, [.ints .u8 len B]⟩] (DoneF ⟨Try.prog, W, w, ρ0, 120, 1, hW, hdom⟩ Try.f10 (.s (.bool true))) := by
  have hkk : kk < len := by rw [hk]; exact Nat.mod_lt _ (by omega)
  cases hc
  refine w_seq ?_
  refine c_reg (by kernel_rfl) rfl ?_
  refine s_a (by first | exact h_box_agg rfl rfl | exact h_box rfl (by simp) rfl) rfl ?_
  refine s_p (by first | exact h_assign (v := .s _) rfl | exact h_assign (v := .agg _) rfl | exact h_assign (v := .tup _) rfl) ?_
  refine s_nil ?_
  refine n_wp ?_
  refine w_seq ?_
  refine c_reg (by kernel_rfl) rfl ?_
  refine s_p (h_field rfl Try.underlying54 rfl Try.sizeOf29 (by decide)) ?_
  refine s_p (by first | exact h_load_ints rfl rfl rfl (by omega) rfl Try.isAgg29 | exact h_load_one rfl rfl rfl Try.isAgg29) ?_
  refine s_p (by first | exact h_assign (v := .s _) rfl | exact h_assign (v := .agg _) rfl | exact h_assign (v := .tup _) rfl) ?_
  refine s_nil ?_
  refine n_wp ?_
  refine w_seq ?_
  refine c_reg (by kernel_rfl) rfl ?_
  refine s_p (h_field rfl Try.underlying54 rfl Try.sizeOf5 (by decide)) ?_
  refine s_p (by first | exact h_load_ints rfl rfl rfl (by omega) rfl Try.isAgg5 | exact h_load_one rfl rfl rfl Try.isAgg5) ?_
  refine s_p (by first | exact h_assign (v := .s _) rfl | exact h_assign (v := .agg _) rfl | exact h_assign (v := .tup _) rfl) ?_
  refine s_nil ?_
  refine n_wp ?_
  refine w_seq ?_
  refine c_reg (by kernel_rfl) rfl ?_
  refine s_p (h_field rfl Try.underlying54 rfl Try.sizeOf30 (by decide)) ?_
  refine s_p (by first | exact h_load_ints rfl rfl rfl (by omega) rfl Try.isAgg30 | exact h_load_one rfl rfl rfl Try.isAgg30) ?_
  refine s_p (by first | exact h_assign (v := .s _) rfl | exact h_assign (v := .agg _) rfl | exact h_assign (v := .tup _) rfl) ?_
  refine s_nil ?_
  refine n_wp ?_
  refine w_seq ?_
  refine c_reg (by kernel_rfl) rfl ?_
  refine s_p (h_field rfl Try.underlying54 rfl Try.sizeOf5 (by decide)) ?_
  refine s_p (by first | exact h_load_ints rfl rfl rfl (by omega) rfl Try.isAgg5 | exact h_load_one rfl rfl rfl Try.isAgg5) ?_
  refine s_p (by first | exact h_assign (v := .s _) rfl | exact h_assign (v := .agg _) rfl | exact h_assign (v := .tup _) rfl) ?_
  refine s_nil ?_
  refine n_wp ?_
  refine w_seq ?_
  refine c_reg (by kernel_rfl) rfl ?_
  refine s_p (by first | exact h_move (v := .s _) rfl | exact h_move (v := .agg _) rfl | exact h_move (v := .tup _) rfl) ?_
  refine s_p (h_conv (r := ((pl : Nat) : Int)) rfl Try.underlying5 Try.underlying3 (wr_n rfl (by omega))) ?_
  refine s_p (h_bin rfl rfl (b_rem (r := ((pl % 8 : Nat) : Int)) (by omega) rfl)) ?_
  refine s_p (by first | exact h_assign (v := .s _) rfl | exact h_assign (v := .agg _) rfl | exact h_assign (v := .tup _) rfl) ?_
  refine s_nil ?_
  refine n_wp ?_
  refine w_seq ?_
  refine w_seq ?_
  refine c_reg (by kernel_rfl) rfl ?_
  refine s_p (by first | exact h_move (v := .s _) rfl | exact h_move (v := .agg _) rfl | exact h_move (v := .tup _) rfl) ?_
  refine s_p (by first | exact h_len rfl Try.underlying29 | exact h_len_nil rfl Try.underlying29 | exact h_len_val rfl Try.underlying29) ?_
  refine s_p (h_bin rfl rfl (b_gtr (decide_eq_false (by omega)))) ?_
  refine s_p (by first | exact h_move (v := .s _) rfl | exact h_move (v := .agg _) rfl | exact h_move (v := .tup _) rfl) ?_
  first | refine s_on rfl rfl (by first | rfl | assumption) (by first | exact h_move (v := .s _) rfl | exact h_move (v := .agg _) rfl | exact h_move (v := .tup _) rfl) ?_ | refine s_off rfl rfl (by first | rfl | assumption) ?_
  first | refine s_on rfl rfl (by first | rfl | assumption) (by first | exact h_len rfl Try.underlying29 | exact h_len_nil rfl Try.underlying29 | exact h_len_val rfl Try.underlying29) ?_ | refine s_off rfl rfl (by first | rfl | assumption) ?_
  first | refine s_on rfl rfl (by first | rfl | assumption) (by first | exact h_move (v := .s _) rfl | exact h_move (v := .agg _) rfl | exact h_move (v := .tup _) rfl) ?_ | refine s_off rfl rfl (by first | rfl | assumption) ?_
  first | refine s_on rfl rfl (by first | rfl | assumption) (h_bin rfl rfl (b_mul (r := ((48 * (pl % 8) : Nat) : Int)) (wr_n (by omega) (by omega)))) ?_ | refine s_off rfl rfl (by first | rfl | assumption) ?_
  first | refine s_on rfl rfl (by first | rfl | assumption) (h_bin rfl rfl (b_add (r := ((48 * (pl % 8) + 48 : Nat) : Int)) (wr_n (by omega) (by omega)))) ?_ | refine s_off rfl rfl (by first | rfl | assumption) ?_
  first | refine s_on rfl rfl (by first | rfl | assumption) (h_bin rfl rfl (b_lss (decide_eq_false (by omega)))) ?_ | refine s_off rfl rfl (by first | rfl | assumption) ?_
  refine s_p (by first | exact h_pick_t rfl (by first | rfl | assumption) rfl | exact h_pick_f rfl (by first | rfl | assumption) rfl) ?_
  refine s_nil ?_
  refine n_wp ?_
  refine w_cond rfl (fun hc_t36 => ?_) (fun hc_t36 => ?_)
  · exact absurd hc_t36 (by simp)
  refine w_skip ?_
  refine n_wp ?_
  refine w_seq ?_
  refine c_reg (by kernel_rfl) rfl ?_
  refine s_p (by first | exact h_move (v := .s _) rfl | exact h_move (v := .agg _) rfl | exact h_move (v := .tup _) rfl) ?_
  refine s_p (by first | exact h_move (v := .s _) rfl | exact h_move (v := .agg _) rfl | exact h_move (v := .tup _) rfl) ?_
  refine s_p (h_call callable_33 rfl (Cut_ok _ 0 0 len cap (pl % 8) B _ hBl hcap (by omega) rfl (fun i y hy => by rw [Nat.zero_add i]; exact hy) (by omega))) ?_
  refine s_p (by first | exact h_move (v := .s _) rfl | exact h_move (v := .agg _) rfl | exact h_move (v := .tup _) rfl) ?_
  refine s_p (h_extract rfl rfl (by simp)) ?_
  refine s_p (h_extract rfl rfl (by simp)) ?_
  refine s_a (h_alloc (segs := [.ints .u8 32 (z 32), .ints .u8 16 (z 16)]) Try.zeroValue56 (by kernel_rfl) rfl) rfl ?_
  refine s_st (m_store_agg (n := 48) (segs := [.ints .u8 32 (z 32), .ints .u8 16 (z 16)]) (sub := [.ints .u8 32 (cutM B (pl % 8)), .ints .u8 16 (cutC B (pl % 8))]) (id := 2) (base := 0) (idx := 0) rfl rfl rfl (.whole (Nat.le_of_ble_eq_true rfl) rfl rfl) Try.sizeOf56 rfl) ?_
  refine s_p (by first | exact h_assign (v := .s _) rfl | exact h_assign (v := .agg _) rfl | exact h_assign (v := .tup _) rfl) ?_
  refine s_nil ?_
  refine n_wp ?_
  refine w_seq ?_
  refine w_seq ?_
  refine c_any 26 mix (by kernel_rfl) (by kernel_rfl) rfl rfl rfl ?_
  refine t_p (by first | exact h_move (v := .s _) rfl | exact h_move (v := .agg _) rfl | exact h_move (v := .tup _) rfl) ?_
  refine t_p (h_bin rfl rfl (b_neq (decide_eq_false (fun h => h rfl)))) ?_
  refine t_p (by first | exact h_move (v := .s _) rfl | exact h_move (v := .agg _) rfl | exact h_move (v := .tup _) rfl) ?_
  first | refine t_on rfl rfl (by first | rfl | assumption) (h_field rfl Try.underlying56 rfl Try.sizeOf44 (by decide)) ?_ | refine t_off rfl rfl (by first | rfl | assumption) ?_
  first | refine t_on rfl rfl (by first | rfl | assumption) (h_asl_0 rfl Try.underlying44 Try.sizeOf5 (by omega)) ?_ | refine t_off rfl rfl (by first | rfl | assumption) ?_
  first | refine t_on rfl rfl (by first | rfl | assumption) (by first | exact h_move (v := .s _) rfl | exact h_move (v := .agg _) rfl | exact h_move (v := .tup _) rfl) ?_ | refine t_off rfl rfl (by first | rfl | assumption) ?_
  first | refine t_on rfl rfl (by first | rfl | assumption) (by first | exact h_move (v := .s _) rfl | exact h_move (v := .agg _) rfl | exact h_move (v := .tup _) rfl) ?_ | refine t_off rfl rfl (by first | rfl | assumption) ?_
  first | refine t_on rfl rfl (by first | rfl | assumption) (h_bin rfl rfl (b_mul (r := ((48 * (pl % 8) : Nat) : Int)) (wr_n (by omega) (by omega)))) ?_ | refine t_off rfl rfl (by first | rfl | assumption) ?_
  first | refine t_on rfl rfl (by first | rfl | assumption) (by first | exact h_move (v := .s _) rfl | exact h_move (v := .agg _) rfl | exact h_move (v := .tup _) rfl) ?_ | refine t_off rfl rfl (by first | rfl | assumption) ?_
  first | refine t_on rfl rfl (by first | rfl | assumption) (h_bin rfl rfl (b_mul (r := ((48 * (pl % 8) : Nat) : Int)) (wr_n (by omega) (by omega)))) ?_ | refine t_off rfl rfl (by first | rfl | assumption) ?_
  first | refine t_on rfl rfl (by first | rfl | assumption) (h_bin rfl rfl (b_add (r := ((48 * (pl % 8) + 32 : Nat) : Int)) (wr_n (by omega) (by omega)))) ?_ | refine t_off rfl rfl (by first | rfl | assumption) ?_
  first | refine t_on rfl rfl (by first | rfl | assumption) (h_slice_lh (l := 48 * (pl % 8)) (h := 48 * (pl % 8) + 32) (n := 32) rfl rfl rfl rfl rfl Try.underlying29 Try.sizeOf5 (by omega) (by omega) (by omega) (by omega) rfl) ?_ | refine t_off rfl rfl (by first | rfl | assumption) ?_
  first | refine t_on rfl rfl (by first | rfl | assumption) (h_call callable_27 rfl (same_ss (cutM B (pl % 8)) 32 _ _ (by omega) _ 2 0 0 32 _ (cutM B (pl % 8)) rfl rfl (by omega) (by rw [List.drop_zero, List.take_of_length_le (Nat.le_of_eq (cutM_len _ _))]) 0 0 (0 + 48 * (pl % 8)) len _ B rfl rfl (by omega) (cutM_eq B (pl % 8) len hBl (by omega)))) ?_ | refine t_off rfl rfl (by first | rfl | assumption) ?_
  first | refine t_on rfl rfl (by first | rfl | assumption) (h_not rfl) ?_ | refine t_off rfl rfl (by first | rfl | assumption) ?_
  refine t_p (by first | exact h_pick_t rfl (by first | rfl | assumption) rfl | exact h_pick_f rfl (by first | rfl | assumption) rfl) ?_
  refine t_p (by first | exact h_move (v := .s _) rfl | exact h_move (v := .agg _) rfl | exact h_move (v := .tup _) rfl) ?_
  first | refine t_on rfl rfl (by first | rfl | assumption) (h_field rfl Try.underlying56 rfl Try.sizeOf22 (by decide)) ?_ | refine t_off rfl rfl (by first | rfl | assumption) ?_
  first | refine t_on rfl rfl (by first | rfl | assumption) (h_asl_0 rfl Try.underlying22 Try.sizeOf5 (by omega)) ?_ | refine t_off rfl rfl (by first | rfl | assumption) ?_
  first | refine t_on rfl rfl (by first | rfl | assumption) (by first | exact h_move (v := .s _) rfl | exact h_move (v := .agg _) rfl | exact h_move (v := .tup _) rfl) ?_ | refine t_off rfl rfl (by first | rfl | assumption) ?_
  first | refine t_on rfl rfl (by first | rfl | assumption) (by first | exact h_move (v := .s _) rfl | exact h_move (v := .agg _) rfl | exact h_move (v := .tup _) rfl) ?_ | refine t_off rfl rfl (by first | rfl | assumption) ?_
  first | refine t_on rfl rfl (by first | rfl | assumption) (h_bin rfl rfl (b_mul (r := ((48 * (pl % 8) : Nat) : Int)) (wr_n (by omega) (by omega)))) ?_ | refine t_off rfl rfl (by first | rfl | assumption) ?_
  first | refine t_on rfl rfl (by first | rfl | assumption) (h_bin rfl rfl (b_add (r := ((48 * (pl % 8) + 32 : Nat) : Int)) (wr_n (by omega) (by omega)))) ?_ | refine t_off rfl rfl (by first | rfl | assumption) ?_
  first | refine t_on rfl rfl (by first | rfl | assumption) (by first | exact h_move (v := .s _) rfl | exact h_move (v := .agg _) rfl | exact h_move (v := .tup _) rfl) ?_ | refine t_off rfl rfl (by first | rfl | assumption) ?_
  first | refine t_on rfl rfl (by first | rfl | assumption) (h_bin rfl rfl (b_mul (r := ((48 * (pl % 8) : Nat) : Int)) (wr_n (by omega) (by omega)))) ?_ | refine t_off rfl rfl (by first | rfl | assumption) ?_
  first | refine t_on rfl rfl (by first | rfl | assumption) (h_bin rfl rfl (b_add (r := ((48 * (pl % 8) + 48 : Nat) : Int)) (wr_n (by omega) (by omega)))) ?_ | refine t_off rfl rfl (by first | rfl | assumption) ?_
  first | refine t_on rfl rfl (by first | rfl | assumption) (h_slice_lh (l := 48 * (pl % 8) + 32) (h := 48 * (pl % 8) + 48) (n := 16) rfl rfl rfl rfl rfl Try.underlying29 Try.sizeOf5 (by omega) (by omega) (by omega) (by omega) rfl) ?_ | refine t_off rfl rfl (by first | rfl | assumption) ?_
  refine t_nil ?_
  first | refine s_on rfl rfl (by first | rfl | assumption) (h_call callable_27 rfl (same_ss (cutC B (pl % 8)) 16 _ _ (by omega) _ 2 (0 + 32) 0 16 _ (cutC B (pl % 8)) rfl rfl (by omega) (by rw [List.drop_zero, List.take_of_length_le (Nat.le_of_eq (cutC_len _ _))]) 0 0 (0 + (48 * (pl % 8) + 32)) len _ B rfl rfl (by omega) (cutC_eq B (pl % 8) len hBl (by omega)))) ?_ | refine s_off rfl rfl (by first | rfl | assumption) ?_
  first | refine s_on rfl rfl (by first | rfl | assumption) (h_not rfl) ?_ | refine s_off rfl rfl (by first | rfl | assumption) ?_
  refine s_p (by first | exact h_pick_t rfl (by first | rfl | assumption) rfl | exact h_pick_f rfl (by first | rfl | assumption) rfl) ?_
  refine s_nil ?_
  refine n_wp ?_
  refine w_cond rfl (fun hc_t72 => ?_) (fun hc_t72 => ?_)
  · exact absurd hc_t72 (by simp)
  refine w_skip ?_
  refine n_wp ?_
  refine w_seq ?_
  refine c_reg (by kernel_rfl) rfl ?_
  refine s_p (by first | exact h_move (v := .s _) rfl | exact h_move (v := .agg _) rfl | exact h_move (v := .tup _) rfl) ?_
  refine s_a (h_call callable_34 rfl (twin_c _ 0 0 len cap B _ hBl hcap (by omega) rfl (fun i y hy => by rw [Nat.zero_add i]; exact hy))) rfl ?_
  refine s_p (by first | exact h_assign (v := .s _) rfl | exact h_assign (v := .agg _) rfl | exact h_assign (v := .tup _) rfl) ?_
  refine s_nil ?_
  refine n_wp ?_
  refine w_seq ?_
  refine c_reg (by kernel_rfl) rfl ?_
  refine s_p (by first | exact h_move (v := .s _) rfl | exact h_move (v := .agg _) rfl | exact h_move (v := .tup _) rfl) ?_
  refine s_p (h_conv (r := ((at_ : Nat) : Int)) rfl Try.underlying30 Try.underlying3 (wr_n rfl (by omega))) ?_
  refine s_p (by first | exact h_move (v := .s _) rfl | exact h_move (v := .agg _) rfl | exact h_move (v := .tup _) rfl) ?_
  refine s_p (by first | exact h_len rfl Try.underlying29 | exact h_len_nil rfl Try.underlying29 | exact h_len_val rfl Try.underlying29) ?_
  refine s_p (h_bin rfl rfl (b_rem (r := ((kk : Nat) : Int)) (by omega) (by rw [hk]; rfl))) ?_
  refine s_p (by first | exact h_assign (v := .s _) rfl | exact h_assign (v := .agg _) rfl | exact h_assign (v := .tup _) rfl) ?_
  refine s_nil ?_
  refine n_wp ?_
  refine w_seq ?_
  refine c_reg (by kernel_rfl) rfl ?_
  refine s_p (by first | exact h_move (v := .s _) rfl | exact h_move (v := .agg _) rfl | exact h_move (v := .tup _) rfl) ?_
  refine s_p (by first | exact h_move (v := .s _) rfl | exact h_move (v := .agg _) rfl | exact h_move (v := .tup _) rfl) ?_
  refine s_p (by first | exact h_ixs0 rfl rfl Try.underlying29 Try.sizeOf5 (by omega) | exact h_ixs rfl rfl Try.underlying29 Try.sizeOf5 (by omega) | exact h_ixsx rfl rfl Try.underlying29 Try.sizeOf5 (by omega)) ?_
  refine s_p (by first | exact h_load_ints rfl rfl rfl (by omega) rfl Try.isAgg5 | exact h_load_one rfl rfl rfl Try.isAgg5) ?_
  refine s_p (by first | exact h_move (v := .s _) rfl | exact h_move (v := .agg _) rfl | exact h_move (v := .tup _) rfl) ?_
  refine s_p (h_bin rfl rfl (b_xor rfl)) ?_
  refine s_p (by first | exact h_ixs0 rfl rfl Try.underlying29 Try.sizeOf5 (by omega) | exact h_ixs rfl rfl Try.underlying29 Try.sizeOf5 (by omega) | exact h_ixsx rfl rfl Try.underlying29 Try.sizeOf5 (by omega)) ?_
  refine s_st (by first | exact m_store_int rfl rfl rfl rfl (by omega) (by (first | exact z_len _ | exact twE_len _ _)) Try.sizeOf5 rfl | exact m_store_one rfl rfl (by simp) rfl rfl Try.sizeOf5 rfl) ?_
  refine s_nil ?_
  refine n_wp ?_
  refine w_seq ?_
  refine c_reg (by kernel_rfl) rfl ?_
  refine s_p (by first | exact h_move (v := .s _) rfl | exact h_move (v := .agg _) rfl | exact h_move (v := .tup _) rfl) ?_
  refine s_p (by first | exact h_move (v := .s _) rfl | exact h_move (v := .agg _) rfl | exact h_move (v := .tup _) rfl) ?_
  refine s_p (h_call callable_33 rfl (Cut_ok _ 3 0 len (len + 1) (pl % 8) (flipped B len kk ((v : Nat) : Int)) _ (flipped_len _ _ _ _) (by omega) (by omega) rfl (fun i y hy => win_ints (segs := [.ints .u8 (len + 1) ((twE B len).set kk (xorK .u8 ((twE B len).getD kk 0) ((v : Nat) : Int)))]) (base := 0) (idx := 0) (n := len) (m := len + 1) rfl (by omega) i y hy) (by omega))) ?_
  refine s_p (by first | exact h_move (v := .s _) rfl | exact h_move (v := .agg _) rfl | exact h_move (v := .tup _) rfl) ?_
  refine s_p (h_extract rfl rfl (by simp)) ?_
  refine s_p (h_extract rfl rfl (by simp)) ?_
  refine s_a (h_alloc (segs := [.ints .u8 32 (z 32), .ints .u8 16 (z 16)]) Try.zeroValue56 (by kernel_rfl) rfl) rfl ?_
  refine s_st (m_store_agg (n := 48) (segs := [.ints .u8 32 (z 32), .ints .u8 16 (z 16)]) (sub := [.ints .u8 32 (cutM (flipped B len kk ((v : Nat) : Int)) (pl % 8)), .ints .u8 16 (cutC (flipped B len kk ((v : Nat) : Int)) (pl % 8))]) (id := 4) (base := 0) (idx := 0) rfl rfl rfl (.whole (Nat.le_of_ble_eq_true rfl) rfl rfl) Try.sizeOf56 rfl) ?_
  refine s_p (by first | exact h_assign (v := .s _) rfl | exact h_assign (v := .agg _) rfl | exact h_assign (v := .tup _) rfl) ?_
  refine s_nil ?_
  refine n_wp ?_
  refine w_seq ?_
  refine c_reg (by kernel_rfl) rfl ?_
  refine s_p (by first | exact h_move (v := .s _) rfl | exact h_move (v := .agg _) rfl | exact h_move (v := .tup _) rfl) ?_
  refine s_p (by first | exact h_move (v := .s _) rfl | exact h_move (v := .agg _) rfl | exact h_move (v := .tup _) rfl) ?_
  refine s_p (h_bin rfl rfl (b_mul (r := ((48 * (pl % 8) : Nat) : Int)) (wr_n (by omega) (by omega)))) ?_
  refine s_p (h_bin rfl rfl (b_geq rfl)) ?_
  refine s_p (by first | exact h_move (v := .s _) rfl | exact h_move (v := .agg _) rfl | exact h_move (v := .tup _) rfl) ?_
  refine s_opt rfl rfl (fun hB => by rw [hB]; exact (by first | exact h_move (v := .s _) rfl | exact h_move (v := .agg _) rfl | exact h_move (v := .tup _) rfl)) ?_
  refine s_opt rfl rfl (fun hB => by rw [hB]; exact (by first | exact h_move (v := .s _) rfl | exact h_move (v := .agg _) rfl | exact h_move (v := .tup _) rfl)) ?_
  refine s_opt rfl rfl (fun hB => by rw [hB]; exact (h_bin rfl rfl (b_mul (r := ((48 * (pl % 8) : Nat) : Int)) (wr_n (by omega) (by omega))))) ?_
  refine s_opt rfl rfl (fun hB => by rw [hB]; exact (h_bin rfl rfl (b_add (r := ((48 * (pl % 8) + 48 : Nat) : Int)) (wr_n (by omega) (by omega))))) ?_
  refine s_opt rfl rfl (fun hB => by rw [hB]; exact (h_bin rfl rfl (b_lss rfl))) ?_
  refine s_p (h_pick_and rfl rfl rfl) ?_
  refine s_p (by first | exact h_move (v := .s _) rfl | exact h_move (v := .agg _) rfl | exact h_move (v := .tup _) rfl) ?_
  refine s_opt rfl rfl (fun hB => by rw [hB]; exact (by first | exact h_move (v := .s _) rfl | exact h_move (v := .agg _) rfl | exact h_move (v := .tup _) rfl)) ?_
  refine s_opt rfl rfl (fun hB => by rw [hB]; exact (h_bin rfl rfl (b_neq rfl))) ?_
  refine s_p (h_pick_and rfl rfl rfl) ?_
  refine s_p (by first | exact h_assign (v := .s _) rfl | exact h_assign (v := .agg _) rfl | exact h_assign (v := .tup _) rfl) ?_
  refine s_nil ?_
  refine n_wp ?_
  refine w_seq ?_
  refine c_reg (by kernel_rfl) rfl ?_
  refine s_p (by first | exact h_move (v := .s _) rfl | exact h_move (v := .agg _) rfl | exact h_move (v := .tup _) rfl) ?_
  refine s_p (h_bin rfl rfl (b_eql (decide_eq_true rfl))) ?_
  refine s_p (by first | exact h_move (v := .s _) rfl | exact h_move (v := .agg _) rfl | exact h_move (v := .tup _) rfl) ?_
  first | refine s_on rfl rfl (by first | rfl | assumption) (by first | exact h_load_agg rfl rfl (.whole rfl) Try.isAgg56 Try.sizeOf56 | exact h_load_agg rfl rfl (.seg rfl rfl) Try.isAgg56 Try.sizeOf56 | exact h_load_agg rfl rfl (.ints rfl (by omega)) Try.isAgg56 Try.sizeOf56) ?_ | refine s_off rfl rfl (by first | rfl | assumption) ?_
  first | refine s_on rfl rfl (by first | rfl | assumption) (by first | exact h_load_agg rfl rfl (.whole rfl) Try.isAgg56 Try.sizeOf56 | exact h_load_agg rfl rfl (.seg rfl rfl) Try.isAgg56 Try.sizeOf56 | exact h_load_agg rfl rfl (.ints rfl (by omega)) Try.isAgg56 Try.sizeOf56) ?_ | refine s_off rfl rfl (by first | rfl | assumption) ?_
  first | refine s_on rfl rfl (by first | rfl | assumption) (h_eql_two (n0 := 32) (n1 := 16) (e := 5) (k := .u8) rfl rfl Try.underlying56 (by kernel_rfl) rfl (by decide) (by decide) rfl rfl Try.underlying44 Try.underlying22 Try.underlying5 Try.sizeOf5 Try.isAgg5 Try.isAgg44 Try.isAgg22 Try.sizeOf44 Try.sizeOf22 (by kernel_rfl) rfl) ?_ | refine s_off rfl rfl (by first | rfl | assumption) ?_
  first | refine s_on rfl rfl (by first | rfl | assumption) (by first | exact h_move (v := .s _) rfl | exact h_move (v := .agg _) rfl | exact h_move (v := .tup _) rfl) ?_ | refine s_off rfl rfl (by first | rfl | assumption) ?_
  first | refine s_on rfl rfl (by first | rfl | assumption) (h_bneq rfl rfl Try.underlying4 (cut_law 32 16 rfl rfl B len (pl % 8) kk ((v : Nat) : Int) h8 (by omega) (by omega) hkk)) ?_ | refine s_off rfl rfl (by first | rfl | assumption) ?_
  refine s_p (by first | exact h_pick_t rfl (by first | rfl | assumption) rfl | exact h_pick_f rfl (by first | rfl | assumption) rfl) ?_
  refine s_p (by first | exact h_move (v := .s _) rfl | exact h_move (v := .agg _) rfl | exact h_move (v := .tup _) rfl) ?_
  first | refine s_on rfl rfl (by first | rfl | assumption) (h_call callable_30 rfl (lives10 _)) ?_ | refine s_off rfl rfl (by first | rfl | assumption) ?_
  refine s_p (by first | exact h_pick_t rfl (by first | rfl | assumption) rfl | exact h_pick_f rfl (by first | rfl | assumption) rfl) ?_
  refine s_p (by first | exact h_assign (v := .s _) rfl | exact h_assign (v := .agg _) rfl | exact h_assign (v := .tup _) rfl) ?_
  refine s_nil ?_
  refine n_wp ?_
  refine w_ret ?_
  exact ⟨.inl rfl, ret_tmp Try.results10 rfl⟩
end Go.Proofs.X
