/- A part of the proofs of this claim: LaneL2 (LaneL2). No conditions. -/
import Derived.Test.YtffflnpidipheaaLaneL1
set_option linter.unusedVariables false
set_option linter.unusedSimpArgs false
open Go Go.Ab Go.Proofs
namespace Go.Proofs.X
theorem callable_18 : Callable Try.prog 18 := ⟨_, Try.func18, by kernel_rfl, rfl⟩
def J18s (M C : List Int) (kk mm : Nat) (len cap : Nat) (B : List Int) (q : Nat) (T : Tm) (H : Heap) : Prop := ∃ i u, i ≤ kk ∧ q = kk - i ∧ u = (min i 64) ∧
  T = [(1, .s (.slice 0 0 0 len cap)), (2, .s (.int .u8 ((mm : Nat) : Int))), (7, .s (.ptr 2 0 0)), (8, .s (.int .i64 ((u : Nat) : Int))), (9, .s (.int .i64 ((i : Nat) : Int)))] ∧ H = [some ⟨false, [.ints .u8 len B]⟩, some ⟨true, [.ints .u8 32 M, .ints .u8 16 C]⟩, some ⟨true, [.ints .u8 32 M, .ints .u8 16 C, .one (.int .u32 ((3 : Nat) : Int)), .one (.int .i64 1), .one (.int .i64 ((u : Nat) : Int))]⟩]
set_option maxRecDepth 100000 in
set_option maxHeartbeats 2000000 in
theorem full_s (M C : List Int) (hM : M.length = 32) (hC : C.length = 16) (hC8 : U8 C) (mm kk : Nat) (hmm : mm < 256) (hkk : kk = mm % 100) (len cap : Nat) (B : List Int) (h8 : U8 B) (hBl : B.length = len) (hcap : len ≤ cap) (h0 : 0 < len) (h2k : len ≤ 2019) (cd : Code) (hc : Try.f18.body = some cd) (W : Nat → Prop) (w : World) (ρ0 : Rho) (hW : ∀ b, w.heap.size ≤ b → W b) (hdom : ∀ id, 1 ≤ id → ρ0 id = none) :
    Wp ⟨Try.prog, W, w, ρ0, 69, 1, hW, hdom⟩ cd (argT 0 [.agg [.ints .u8 32 M, .ints .u8 16 C], .s (.slice 0 0 0 len cap), .s (.int .u8 ((mm : Nat) : Int))]) [some ⟨false, [.ints .u8 len B]⟩] (DoneF ⟨Try.prog, W, w, ρ0, 69, 1, hW, hdom⟩ Try.f18 (.s (.bool true))) := by
  cases hc
  refine w_seq ?_
  refine c_reg (by kernel_rfl) rfl ?_
  refine s_a (by first | exact h_box_agg rfl rfl | exact h_box rfl (by simp) rfl) rfl ?_
  refine s_p (by first | exact h_assign (v := .s _) rfl | exact h_assign (v := .agg _) rfl | exact h_assign (v := .tup _) rfl) ?_
  refine s_nil ?_
  refine n_wp ?_
  refine w_seq ?_
  refine w_seq ?_
  refine c_reg (by kernel_rfl) rfl ?_
  refine s_p (h_call callable_44 rfl (alive20 _)) ?_
  refine s_p (h_not rfl) ?_
  refine s_p (by first | exact h_move (v := .s _) rfl | exact h_move (v := .agg _) rfl | exact h_move (v := .tup _) rfl) ?_
  first | refine s_on rfl rfl (by first | rfl | assumption) (by first | exact h_move (v := .s _) rfl | exact h_move (v := .agg _) rfl | exact h_move (v := .tup _) rfl) ?_ | refine s_off rfl rfl (by first | rfl | assumption) ?_
  first | refine s_on rfl rfl (by first | rfl | assumption) (by first | exact h_len rfl Try.underlying29 | exact h_len_nil rfl Try.underlying29 | exact h_len_val rfl Try.underlying29) ?_ | refine s_off rfl rfl (by first | rfl | assumption) ?_
  first | refine s_on rfl rfl (by first | rfl | assumption) (h_bin rfl rfl (b_gtr (decide_eq_false (by omega)))) ?_ | refine s_off rfl rfl (by first | rfl | assumption) ?_
  refine s_p (by first | exact h_pick_t rfl (by first | rfl | assumption) rfl | exact h_pick_f rfl (by first | rfl | assumption) rfl) ?_
  refine s_nil ?_
  refine n_wp ?_
  refine w_cond rfl (fun hc_t19 => ?_) (fun hc_t19 => ?_)
  · exact absurd hc_t19 (by simp)
  refine w_skip ?_
  refine n_wp ?_
  refine w_seq ?_
  refine c_reg (by kernel_rfl) rfl ?_
  refine s_p (h_load_agg rfl rfl (.whole rfl) Try.isAgg56 Try.sizeOf56) ?_
  refine s_a (h_call callable_46 rfl (NewOut_c _ M C 3)) rfl ?_
  refine s_p (by first | exact h_assign (v := .s _) rfl | exact h_assign (v := .agg _) rfl | exact h_assign (v := .tup _) rfl) ?_
  refine s_nil ?_
  refine n_wp ?_
  refine w_seq ?_
  refine c_reg (by kernel_rfl) rfl ?_
  refine s_p (by first | exact h_assign (v := .s _) rfl | exact h_assign (v := .agg _) rfl | exact h_assign (v := .tup _) rfl) ?_
  refine s_nil ?_
  refine n_wp ?_
  refine w_seq ?_
  refine w_seq ?_
  refine c_reg (by kernel_rfl) rfl ?_
  refine s_p (by first | exact h_assign (v := .s _) rfl | exact h_assign (v := .agg _) rfl | exact h_assign (v := .tup _) rfl) ?_
  refine s_nil ?_
  refine n_wp ?_
  refine w_block ?_
  refine c_loop (J18s M C kk mm len cap B) kk ⟨0, 0, Nat.zero_le _, rfl, rfl, rfl, rfl⟩ (weak' (by repeat (first | exact trivial | refine ⟨rfl, ?_⟩)) rfl rfl (Nat.le_of_ble_eq_true rfl)) ?_
  rintro n T H ⟨i, u, hi, rfl, hus, rfl, rfl⟩
  rcases Nat.lt_or_ge u 64 with hu | hu
  · skip
    refine w_seq ?_
    refine w_seq ?_
    refine c_reg (by kernel_rfl) rfl ?_
    refine s_p (by first | exact h_move (v := .s _) rfl | exact h_move (v := .agg _) rfl | exact h_move (v := .tup _) rfl) ?_
    refine s_p (by first | exact h_move (v := .s _) rfl | exact h_move (v := .agg _) rfl | exact h_move (v := .tup _) rfl) ?_
    refine s_p (h_conv (r := ((mm : Nat) : Int)) rfl Try.underlying5 Try.underlying3 (wr_n rfl (by omega))) ?_
    refine s_p (h_bin rfl rfl (b_rem (r := ((kk : Nat) : Int)) (by omega) (by rw [hkk]; rfl))) ?_
    refine s_p (h_bin rfl rfl (b_lss rfl)) ?_
    refine s_nil ?_
    refine n_wp ?_
    refine w_cond rfl (fun hc_t27 => ?_) (fun hc_t27 => ?_)
    · skip
      have hlt : i < kk := by have := of_decide_eq_true hc_t27; omega
      refine w_skip ?_
      refine n_wp ?_
      refine w_seq ?_
      refine w_block ?_
      refine w_seq ?_
      refine c_reg (by kernel_rfl) rfl ?_
      refine s_p (by first | exact h_move (v := .s _) rfl | exact h_move (v := .agg _) rfl | exact h_move (v := .tup _) rfl) ?_
      refine s_p (by first | exact h_move (v := .s _) rfl | exact h_move (v := .agg _) rfl | exact h_move (v := .tup _) rfl) ?_
      refine s_m (m_call callable_39 rfl (put_s _ 2 M C 3 u rfl hM hC hC8 (by omega) hu 0 0 len cap B _ hBl hcap (by omega) rfl (fun i y hy => by rw [Nat.zero_add i]; exact hy) h0 h2k (by decide))) ?_
      refine s_heap (H' := [some ⟨false, [.ints .u8 len B]⟩, some ⟨true, [.ints .u8 32 M, .ints .u8 16 C]⟩, some ⟨true, [.ints .u8 32 M, .ints .u8 16 C, .one (.int .u32 ((3 : Nat) : Int)), .one (.int .i64 1), .one (.int .i64 (((u + 1) : Nat) : Int))]⟩, some ⟨true, [.ints .u8 (29 + len) (sealL M C ((3 : Nat) : Int) ((u + 1 : Nat) : Int) B len)]⟩]) (by kernel_rfl) ?_
      refine s_p (by first | exact h_move (v := .s _) rfl | exact h_move (v := .agg _) rfl | exact h_move (v := .tup _) rfl) ?_
      refine s_p (h_extract rfl rfl (by simp)) ?_
      refine s_p (h_extract rfl rfl (by simp)) ?_
      refine s_p (h_extract rfl rfl (by simp)) ?_
      refine s_p (by first | exact h_assign (v := .s _) rfl | exact h_assign (v := .agg _) rfl | exact h_assign (v := .tup _) rfl) ?_
      refine s_p (by first | exact h_assign (v := .s _) rfl | exact h_assign (v := .agg _) rfl | exact h_assign (v := .tup _) rfl) ?_
      refine s_p (by first | exact h_assign (v := .s _) rfl | exact h_assign (v := .agg _) rfl | exact h_assign (v := .tup _) rfl) ?_
      refine s_nil ?_
      refine n_wp ?_
      refine w_seq ?_
      refine w_seq ?_
      refine c_reg (by kernel_rfl) rfl ?_
      refine s_p (by first | exact h_move (v := .s _) rfl | exact h_move (v := .agg _) rfl | exact h_move (v := .tup _) rfl) ?_
      refine s_p (h_bin rfl rfl (b_eql (decide_eq_false (by omega)))) ?_
      refine s_nil ?_
      refine n_wp ?_
      refine w_cond rfl (fun hc_t38 => ?_) (fun hc_t38 => ?_)
      · exact absurd hc_t38 (by simp)
      refine w_skip ?_
      refine n_wp ?_
      refine w_seq ?_
      refine w_seq ?_
      refine c_reg (by kernel_rfl) rfl ?_
      refine s_p (by first | exact h_move (v := .s _) rfl | exact h_move (v := .agg _) rfl | exact h_move (v := .tup _) rfl) ?_
      refine s_p (by first | exact h_len rfl Try.underlying29 | exact h_len_nil rfl Try.underlying29 | exact h_len_val rfl Try.underlying29) ?_
      refine s_p (h_bin rfl rfl (b_gtr (decide_eq_false (by omega)))) ?_
      refine s_nil ?_
      refine n_wp ?_
      refine w_cond rfl (fun hc_t52 => ?_) (fun hc_t52 => ?_)
      · exact absurd hc_t52 (by simp)
      refine w_skip ?_
      refine n_wp ?_
      refine w_seq ?_
      refine c_reg (by kernel_rfl) rfl ?_
      refine s_p (by first | exact h_move (v := .s _) rfl | exact h_move (v := .agg _) rfl | exact h_move (v := .tup _) rfl) ?_
      refine s_p (h_bin rfl rfl (b_add (r := ((u + 1 : Nat) : Int)) (wr_n (by omega) (by omega)))) ?_
      refine s_p (by first | exact h_assign (v := .s _) rfl | exact h_assign (v := .agg _) rfl | exact h_assign (v := .tup _) rfl) ?_
      refine s_nil ?_
      refine n_wp ?_
      refine w_seq ?_
      refine c_reg (by kernel_rfl) rfl ?_
      refine s_p (by first | exact h_move (v := .s _) rfl | exact h_move (v := .agg _) rfl | exact h_move (v := .tup _) rfl) ?_
      refine s_p (h_bin rfl rfl (b_neq (decide_eq_false (fun h => h rfl)))) ?_
      refine s_p (by first | exact h_move (v := .s _) rfl | exact h_move (v := .agg _) rfl | exact h_move (v := .tup _) rfl) ?_
      first | refine s_on rfl rfl (by first | rfl | assumption) (by first | exact h_move (v := .s _) rfl | exact h_move (v := .agg _) rfl | exact h_move (v := .tup _) rfl) ?_ | refine s_off rfl rfl (by first | rfl | assumption) ?_
      first | refine s_on rfl rfl (by first | rfl | assumption) (by first | exact h_move (v := .s _) rfl | exact h_move (v := .agg _) rfl | exact h_move (v := .tup _) rfl) ?_ | refine s_off rfl rfl (by first | rfl | assumption) ?_
      first | refine s_on rfl rfl (by first | rfl | assumption) (h_conv (r := ((u + 1 : Nat) : Int)) rfl Try.underlying3 Try.underlying40 (wrap64 (by omega) (by omega))) ?_ | refine s_off rfl rfl (by first | rfl | assumption) ?_
      first | refine s_on rfl rfl (by first | rfl | assumption) (h_bin rfl rfl (b_neq (decide_eq_false (fun h => h rfl)))) ?_ | refine s_off rfl rfl (by first | rfl | assumption) ?_
      refine s_p (by first | exact h_pick_t rfl (by first | rfl | assumption) rfl | exact h_pick_f rfl (by first | rfl | assumption) rfl) ?_
      refine s_nil ?_
      refine n_wp ?_
      refine w_cond rfl (fun hc_t64 => ?_) (fun hc_t64 => ?_)
      · exact absurd hc_t64 (by simp)
      refine w_skip ?_
      refine n_blo ?_
      refine n_wp ?_
      refine c_reg (by kernel_rfl) rfl ?_
      refine s_p (by first | exact h_move (v := .s _) rfl | exact h_move (v := .agg _) rfl | exact h_move (v := .tup _) rfl) ?_
      refine s_p (by first | exact h_bin rfl rfl (b_add (Go.IntWalk.i64_in _ (by omega))) | exact h_bin rfl rfl (b_add rfl)) ?_
      refine s_p (by first | exact h_assign (v := .s _) rfl | exact h_assign (v := .agg _) rfl | exact h_assign (v := .tup _) rfl) ?_
      refine s_nil ?_
      exact n_round (kk - (i + 1)) (by omega) ⟨i + 1, u + 1, by omega, rfl, by omega, rfl, rfl⟩ (weak' (by repeat (first | exact trivial | refine ⟨rfl, ?_⟩)) rfl rfl (Nat.le_of_ble_eq_true rfl))
    · skip
      refine w_exit ?_
      refine x_thn ?_
      refine x_thn ?_
      refine x_eq ?_
      refine n_wp ?_
      refine w_seq ?_
      refine c_reg (by kernel_rfl) rfl ?_
      refine s_p (by first | exact h_move (v := .s _) rfl | exact h_move (v := .agg _) rfl | exact h_move (v := .tup _) rfl) ?_
      refine s_p (h_call callable_41 rfl (Used_c _ 2 M C 3 u _ rfl rfl)) ?_
      refine s_p (by first | exact h_move (v := .s _) rfl | exact h_move (v := .agg _) rfl | exact h_move (v := .tup _) rfl) ?_
      refine s_p (h_bin rfl rfl (b_eql (decide_eq_true rfl))) ?_
      refine s_p (by first | exact h_assign (v := .s _) rfl | exact h_assign (v := .agg _) rfl | exact h_assign (v := .tup _) rfl) ?_
      refine s_nil ?_
      refine n_wp ?_
      refine w_ret ?_
      exact ⟨.inl rfl, ret_tmp Try.results18 rfl⟩
  · skip
    refine w_seq ?_
    refine w_seq ?_
    refine c_reg (by kernel_rfl) rfl ?_
    refine s_p (by first | exact h_move (v := .s _) rfl | exact h_move (v := .agg _) rfl | exact h_move (v := .tup _) rfl) ?_
    refine s_p (by first | exact h_move (v := .s _) rfl | exact h_move (v := .agg _) rfl | exact h_move (v := .tup _) rfl) ?_
    refine s_p (h_conv (r := ((mm : Nat) : Int)) rfl Try.underlying5 Try.underlying3 (wr_n rfl (by omega))) ?_
    refine s_p (h_bin rfl rfl (b_rem (r := ((kk : Nat) : Int)) (by omega) (by rw [hkk]; rfl))) ?_
    refine s_p (h_bin rfl rfl (b_lss rfl)) ?_
    refine s_nil ?_
    refine n_wp ?_
    refine w_cond rfl (fun hc_t27 => ?_) (fun hc_t27 => ?_)
    · skip
      have hlt : i < kk := by have := of_decide_eq_true hc_t27; omega
      refine w_skip ?_
      refine n_wp ?_
      refine w_seq ?_
      refine w_block ?_
      refine w_seq ?_
      refine c_reg (by kernel_rfl) rfl ?_
      refine s_p (by first | exact h_move (v := .s _) rfl | exact h_move (v := .agg _) rfl | exact h_move (v := .tup _) rfl) ?_
      refine s_p (by first | exact h_move (v := .s _) rfl | exact h_move (v := .agg _) rfl | exact h_move (v := .tup _) rfl) ?_
      refine s_p (h_call callable_39 rfl (put_full_s _ 2 M C 3 u _ rfl rfl 0 0 0 len cap (by simp) hu)) ?_
      refine s_p (by first | exact h_move (v := .s _) rfl | exact h_move (v := .agg _) rfl | exact h_move (v := .tup _) rfl) ?_
      refine s_p (h_extract rfl rfl (by simp)) ?_
      refine s_p (h_extract rfl rfl (by simp)) ?_
      refine s_p (h_extract rfl rfl (by simp)) ?_
      refine s_p (by first | exact h_assign (v := .s _) rfl | exact h_assign (v := .agg _) rfl | exact h_assign (v := .tup _) rfl) ?_
      refine s_p (by first | exact h_assign (v := .s _) rfl | exact h_assign (v := .agg _) rfl | exact h_assign (v := .tup _) rfl) ?_
      refine s_p (by first | exact h_assign (v := .s _) rfl | exact h_assign (v := .agg _) rfl | exact h_assign (v := .tup _) rfl) ?_
      refine s_nil ?_
      refine n_wp ?_
      refine w_seq ?_
      refine w_seq ?_
      refine c_reg (by kernel_rfl) rfl ?_
      refine s_p (by first | exact h_move (v := .s _) rfl | exact h_move (v := .agg _) rfl | exact h_move (v := .tup _) rfl) ?_
      refine s_p (h_bin rfl rfl (b_eql (decide_eq_true (by omega)))) ?_
      refine s_nil ?_
      refine n_wp ?_
      refine w_cond rfl (fun hc_t38 => ?_) (fun hc_t38 => ?_)
      rotate_left
      · exact absurd hc_t38 (by simp)
      refine w_seq ?_
      refine w_seq ?_
      refine c_reg (by kernel_rfl) rfl ?_
      refine s_p (by first | exact h_move (v := .s _) rfl | exact h_move (v := .agg _) rfl | exact h_move (v := .tup _) rfl) ?_
      refine s_p (h_bin rfl rfl (b_neq (decide_eq_false (fun h => h rfl)))) ?_
      refine s_p (by first | exact h_move (v := .s _) rfl | exact h_move (v := .agg _) rfl | exact h_move (v := .tup _) rfl) ?_
      first | refine s_on rfl rfl (by first | rfl | assumption) (by first | exact h_move (v := .s _) rfl | exact h_move (v := .agg _) rfl | exact h_move (v := .tup _) rfl) ?_ | refine s_off rfl rfl (by first | rfl | assumption) ?_
      first | refine s_on rfl rfl (by first | rfl | assumption) (by first | exact h_len rfl Try.underlying29 | exact h_len_nil rfl Try.underlying29 | exact h_len_val rfl Try.underlying29) ?_ | refine s_off rfl rfl (by first | rfl | assumption) ?_
      first | refine s_on rfl rfl (by first | rfl | assumption) (h_bin rfl rfl (b_neq (decide_eq_false (fun h => h rfl)))) ?_ | refine s_off rfl rfl (by first | rfl | assumption) ?_
      refine s_p (by first | exact h_pick_t rfl (by first | rfl | assumption) rfl | exact h_pick_f rfl (by first | rfl | assumption) rfl) ?_
      refine s_p (by first | exact h_move (v := .s _) rfl | exact h_move (v := .agg _) rfl | exact h_move (v := .tup _) rfl) ?_
      first | refine s_on rfl rfl (by first | rfl | assumption) (by first | exact h_move (v := .s _) rfl | exact h_move (v := .agg _) rfl | exact h_move (v := .tup _) rfl) ?_ | refine s_off rfl rfl (by first | rfl | assumption) ?_
      first | refine s_on rfl rfl (by first | rfl | assumption) (h_bin rfl rfl (b_neq (decide_eq_false (fun h => h rfl)))) ?_ | refine s_off rfl rfl (by first | rfl | assumption) ?_
      refine s_p (by first | exact h_pick_t rfl (by first | rfl | assumption) rfl | exact h_pick_f rfl (by first | rfl | assumption) rfl) ?_
      refine s_nil ?_
      refine n_wp ?_
      refine w_cond rfl (fun hc_t49 => ?_) (fun hc_t49 => ?_)
      · exact absurd hc_t49 (by simp)
      refine w_skip ?_
      refine n_wp ?_
      refine w_exit ?_
      refine x_thn ?_
      refine x_eq ?_
      refine n_wp ?_
      refine c_reg (by kernel_rfl) rfl ?_
      refine s_p (by first | exact h_move (v := .s _) rfl | exact h_move (v := .agg _) rfl | exact h_move (v := .tup _) rfl) ?_
      refine s_p (by first | exact h_bin rfl rfl (b_add (Go.IntWalk.i64_in _ (by omega))) | exact h_bin rfl rfl (b_add rfl)) ?_
      refine s_p (by first | exact h_assign (v := .s _) rfl | exact h_assign (v := .agg _) rfl | exact h_assign (v := .tup _) rfl) ?_
      refine s_nil ?_
      exact n_round (kk - (i + 1)) (by omega) ⟨i + 1, u, by omega, rfl, by omega, rfl, rfl⟩ (weak' (by repeat (first | exact trivial | refine ⟨rfl, ?_⟩)) rfl rfl (Nat.le_of_ble_eq_true rfl))
    · skip
      refine w_exit ?_
      refine x_thn ?_
      refine x_thn ?_
      refine x_eq ?_
      refine n_wp ?_
      refine w_seq ?_
      refine c_reg (by kernel_rfl) rfl ?_
      refine s_p (by first | exact h_move (v := .s _) rfl | exact h_move (v := .agg _) rfl | exact h_move (v := .tup _) rfl) ?_
      refine s_p (h_call callable_41 rfl (Used_c _ 2 M C 3 u _ rfl rfl)) ?_
      refine s_p (by first | exact h_move (v := .s _) rfl | exact h_move (v := .agg _) rfl | exact h_move (v := .tup _) rfl) ?_
      refine s_p (h_bin rfl rfl (b_eql (decide_eq_true rfl))) ?_
      refine s_p (by first | exact h_assign (v := .s _) rfl | exact h_assign (v := .agg _) rfl | exact h_assign (v := .tup _) rfl) ?_
      refine s_nil ?_
      refine n_wp ?_
      refine w_ret ?_
      exact ⟨.inl rfl, ret_tmp Try.results18 rfl⟩
def J18v (M C : List Int) (kk mm : Nat) (a : Option Addr) (c : Nat) (q : Nat) (T : Tm) (H : Heap) : Prop := ∃ i u, i ≤ kk ∧ q = kk - i ∧ u = (min i 64) ∧
  T = [(1, .s (.val (.slice a 0 c))), (2, .s (.int .u8 ((mm : Nat) : Int))), (7, .s (.ptr 1 0 0)), (8, .s (.int .i64 ((u : Nat) : Int))), (9, .s (.int .i64 ((i : Nat) : Int)))] ∧ H = [some ⟨true, [.ints .u8 32 M, .ints .u8 16 C]⟩, some ⟨true, [.ints .u8 32 M, .ints .u8 16 C, .one (.int .u32 ((3 : Nat) : Int)), .one (.int .i64 1), .one (.int .i64 ((u : Nat) : Int))]⟩]
set_option maxRecDepth 100000 in
set_option maxHeartbeats 2000000 in
theorem full_v (M C : List Int) (hM : M.length = 32) (hC : C.length = 16) (hC8 : U8 C) (mm kk : Nat) (hmm : mm < 256) (hkk : kk = mm % 100) (a : Option Addr) (c : Nat)  (cd : Code) (hc : Try.f18.body = some cd) (W : Nat → Prop) (w : World) (ρ0 : Rho) (hW : ∀ b, w.heap.size ≤ b → W b) (hdom : ∀ id, 0 ≤ id → ρ0 id = none) :
    Wp ⟨Try.prog, W, w, ρ0, 69, 0, hW, hdom⟩ cd (argT 0 [.agg [.ints .u8 32 M, .ints .u8 16 C], .s (.val (.slice a 0 c)), .s (.int .u8 ((mm : Nat) : Int))]) [] (DoneF ⟨Try.prog, W, w, ρ0, 69, 0, hW, hdom⟩ Try.f18 (.s (.bool true))) := by
  cases hc
  refine w_seq ?_
  refine c_reg (by kernel_rfl) rfl ?_
  refine s_a (by first | exact h_box_agg rfl rfl | exact h_box rfl (by simp) rfl) rfl ?_
  refine s_p (by first | exact h_assign (v := .s _) rfl | exact h_assign (v := .agg _) rfl | exact h_assign (v := .tup _) rfl) ?_
  refine s_nil ?_
  refine n_wp ?_
  refine w_seq ?_
  refine w_seq ?_
  refine c_reg (by kernel_rfl) rfl ?_
  refine s_p (h_call callable_44 rfl (alive20 _)) ?_
  refine s_p (h_not rfl) ?_
  refine s_p (by first | exact h_move (v := .s _) rfl | exact h_move (v := .agg _) rfl | exact h_move (v := .tup _) rfl) ?_
  first | refine s_on rfl rfl (by first | rfl | assumption) (by first | exact h_move (v := .s _) rfl | exact h_move (v := .agg _) rfl | exact h_move (v := .tup _) rfl) ?_ | refine s_off rfl rfl (by first | rfl | assumption) ?_
  first | refine s_on rfl rfl (by first | rfl | assumption) (by first | exact h_len rfl Try.underlying29 | exact h_len_nil rfl Try.underlying29 | exact h_len_val rfl Try.underlying29) ?_ | refine s_off rfl rfl (by first | rfl | assumption) ?_
  first | refine s_on rfl rfl (by first | rfl | assumption) (h_bin rfl rfl (b_gtr (decide_eq_false (by omega)))) ?_ | refine s_off rfl rfl (by first | rfl | assumption) ?_
  refine s_p (by first | exact h_pick_t rfl (by first | rfl | assumption) rfl | exact h_pick_f rfl (by first | rfl | assumption) rfl) ?_
  refine s_nil ?_
  refine n_wp ?_
  refine w_cond rfl (fun hc_t19 => ?_) (fun hc_t19 => ?_)
  · exact absurd hc_t19 (by simp)
  refine w_skip ?_
  refine n_wp ?_
  refine w_seq ?_
  refine c_reg (by kernel_rfl) rfl ?_
  refine s_p (h_load_agg rfl rfl (.whole rfl) Try.isAgg56 Try.sizeOf56) ?_
  refine s_a (h_call callable_46 rfl (NewOut_c _ M C 3)) rfl ?_
  refine s_p (by first | exact h_assign (v := .s _) rfl | exact h_assign (v := .agg _) rfl | exact h_assign (v := .tup _) rfl) ?_
  refine s_nil ?_
  refine n_wp ?_
  refine w_seq ?_
  refine c_reg (by kernel_rfl) rfl ?_
  refine s_p (by first | exact h_assign (v := .s _) rfl | exact h_assign (v := .agg _) rfl | exact h_assign (v := .tup _) rfl) ?_
  refine s_nil ?_
  refine n_wp ?_
  refine w_seq ?_
  refine w_seq ?_
  refine c_reg (by kernel_rfl) rfl ?_
  refine s_p (by first | exact h_assign (v := .s _) rfl | exact h_assign (v := .agg _) rfl | exact h_assign (v := .tup _) rfl) ?_
  refine s_nil ?_
  refine n_wp ?_
  refine w_block ?_
  refine c_loop (J18v M C kk mm a c) kk ⟨0, 0, Nat.zero_le _, rfl, rfl, rfl, rfl⟩ (weak' (by repeat (first | exact trivial | refine ⟨rfl, ?_⟩)) rfl rfl (Nat.le_of_ble_eq_true rfl)) ?_
  rintro n T H ⟨i, u, hi, rfl, hus, rfl, rfl⟩
  rcases Nat.lt_or_ge u 64 with hu | hu
  · skip
    refine w_seq ?_
    refine w_seq ?_
    refine c_reg (by kernel_rfl) rfl ?_
    refine s_p (by first | exact h_move (v := .s _) rfl | exact h_move (v := .agg _) rfl | exact h_move (v := .tup _) rfl) ?_
    refine s_p (by first | exact h_move (v := .s _) rfl | exact h_move (v := .agg _) rfl | exact h_move (v := .tup _) rfl) ?_
    refine s_p (h_conv (r := ((mm : Nat) : Int)) rfl Try.underlying5 Try.underlying3 (wr_n rfl (by omega))) ?_
    refine s_p (h_bin rfl rfl (b_rem (r := ((kk : Nat) : Int)) (by omega) (by rw [hkk]; rfl))) ?_
    refine s_p (h_bin rfl rfl (b_lss rfl)) ?_
    refine s_nil ?_
    refine n_wp ?_
    refine w_cond rfl (fun hc_t27 => ?_) (fun hc_t27 => ?_)
    · skip
      have hlt : i < kk := by have := of_decide_eq_true hc_t27; omega
      refine w_skip ?_
      refine n_wp ?_
      refine w_seq ?_
      refine w_block ?_
      refine w_seq ?_
      refine c_reg (by kernel_rfl) rfl ?_
      refine s_p (by first | exact h_move (v := .s _) rfl | exact h_move (v := .agg _) rfl | exact h_move (v := .tup _) rfl) ?_
      refine s_p (by first | exact h_move (v := .s _) rfl | exact h_move (v := .agg _) rfl | exact h_move (v := .tup _) rfl) ?_
      refine s_m (m_call callable_39 rfl (put_v _ 1 M C 3 u rfl hM hC hC8 (by omega) hu a c)) ?_
      refine s_heap (H' := [some ⟨true, [.ints .u8 32 M, .ints .u8 16 C]⟩, some ⟨true, [.ints .u8 32 M, .ints .u8 16 C, .one (.int .u32 ((3 : Nat) : Int)), .one (.int .i64 1), .one (.int .i64 (((u + 1) : Nat) : Int))]⟩, some ⟨true, [.ints .u8 (29 + 0) (sealL M C ((3 : Nat) : Int) ((u + 1 : Nat) : Int) [] 0)]⟩]) (by kernel_rfl) ?_
      refine s_p (by first | exact h_move (v := .s _) rfl | exact h_move (v := .agg _) rfl | exact h_move (v := .tup _) rfl) ?_
      refine s_p (h_extract rfl rfl (by simp)) ?_
      refine s_p (h_extract rfl rfl (by simp)) ?_
      refine s_p (h_extract rfl rfl (by simp)) ?_
      refine s_p (by first | exact h_assign (v := .s _) rfl | exact h_assign (v := .agg _) rfl | exact h_assign (v := .tup _) rfl) ?_
      refine s_p (by first | exact h_assign (v := .s _) rfl | exact h_assign (v := .agg _) rfl | exact h_assign (v := .tup _) rfl) ?_
      refine s_p (by first | exact h_assign (v := .s _) rfl | exact h_assign (v := .agg _) rfl | exact h_assign (v := .tup _) rfl) ?_
      refine s_nil ?_
      refine n_wp ?_
      refine w_seq ?_
      refine w_seq ?_
      refine c_reg (by kernel_rfl) rfl ?_
      refine s_p (by first | exact h_move (v := .s _) rfl | exact h_move (v := .agg _) rfl | exact h_move (v := .tup _) rfl) ?_
      refine s_p (h_bin rfl rfl (b_eql (decide_eq_false (by omega)))) ?_
      refine s_nil ?_
      refine n_wp ?_
      refine w_cond rfl (fun hc_t38 => ?_) (fun hc_t38 => ?_)
      · exact absurd hc_t38 (by simp)
      refine w_skip ?_
      refine n_wp ?_
      refine w_seq ?_
      refine w_seq ?_
      refine c_reg (by kernel_rfl) rfl ?_
      refine s_p (by first | exact h_move (v := .s _) rfl | exact h_move (v := .agg _) rfl | exact h_move (v := .tup _) rfl) ?_
      refine s_p (by first | exact h_len rfl Try.underlying29 | exact h_len_nil rfl Try.underlying29 | exact h_len_val rfl Try.underlying29) ?_
      refine s_p (h_bin rfl rfl (b_gtr (decide_eq_false (by omega)))) ?_
      refine s_nil ?_
      refine n_wp ?_
      refine w_cond rfl (fun hc_t52 => ?_) (fun hc_t52 => ?_)
      · exact absurd hc_t52 (by simp)
      refine w_skip ?_
      refine n_wp ?_
      refine w_seq ?_
      refine c_reg (by kernel_rfl) rfl ?_
      refine s_p (by first | exact h_move (v := .s _) rfl | exact h_move (v := .agg _) rfl | exact h_move (v := .tup _) rfl) ?_
      refine s_p (h_bin rfl rfl (b_add (r := ((u + 1 : Nat) : Int)) (wr_n (by omega) (by omega)))) ?_
      refine s_p (by first | exact h_assign (v := .s _) rfl | exact h_assign (v := .agg _) rfl | exact h_assign (v := .tup _) rfl) ?_
      refine s_nil ?_
      refine n_wp ?_
      refine w_seq ?_
      refine c_reg (by kernel_rfl) rfl ?_
      refine s_p (by first | exact h_move (v := .s _) rfl | exact h_move (v := .agg _) rfl | exact h_move (v := .tup _) rfl) ?_
      refine s_p (h_bin rfl rfl (b_neq (decide_eq_false (fun h => h rfl)))) ?_
      refine s_p (by first | exact h_move (v := .s _) rfl | exact h_move (v := .agg _) rfl | exact h_move (v := .tup _) rfl) ?_
      first | refine s_on rfl rfl (by first | rfl | assumption) (by first | exact h_move (v := .s _) rfl | exact h_move (v := .agg _) rfl | exact h_move (v := .tup _) rfl) ?_ | refine s_off rfl rfl (by first | rfl | assumption) ?_
      first | refine s_on rfl rfl (by first | rfl | assumption) (by first | exact h_move (v := .s _) rfl | exact h_move (v := .agg _) rfl | exact h_move (v := .tup _) rfl) ?_ | refine s_off rfl rfl (by first | rfl | assumption) ?_
      first | refine s_on rfl rfl (by first | rfl | assumption) (h_conv (r := ((u + 1 : Nat) : Int)) rfl Try.underlying3 Try.underlying40 (wrap64 (by omega) (by omega))) ?_ | refine s_off rfl rfl (by first | rfl | assumption) ?_
      first | refine s_on rfl rfl (by first | rfl | assumption) (h_bin rfl rfl (b_neq (decide_eq_false (fun h => h rfl)))) ?_ | refine s_off rfl rfl (by first | rfl | assumption) ?_
      refine s_p (by first | exact h_pick_t rfl (by first | rfl | assumption) rfl | exact h_pick_f rfl (by first | rfl | assumption) rfl) ?_
      refine s_nil ?_
      refine n_wp ?_
      refine w_cond rfl (fun hc_t64 => ?_) (fun hc_t64 => ?_)
      · exact absurd hc_t64 (by simp)
      refine w_skip ?_
      refine n_blo ?_
      refine n_wp ?_
      refine c_reg (by kernel_rfl) rfl ?_
      refine s_p (by first | exact h_move (v := .s _) rfl | exact h_move (v := .agg _) rfl | exact h_move (v := .tup _) rfl) ?_
      refine s_p (by first | exact h_bin rfl rfl (b_add (Go.IntWalk.i64_in _ (by omega))) | exact h_bin rfl rfl (b_add rfl)) ?_
      refine s_p (by first | exact h_assign (v := .s _) rfl | exact h_assign (v := .agg _) rfl | exact h_assign (v := .tup _) rfl) ?_
      refine s_nil ?_
      exact n_round (kk - (i + 1)) (by omega) ⟨i + 1, u + 1, by omega, rfl, by omega, rfl, rfl⟩ (weak' (by repeat (first | exact trivial | refine ⟨rfl, ?_⟩)) rfl rfl (Nat.le_of_ble_eq_true rfl))
    · skip
      refine w_exit ?_
      refine x_thn ?_
      refine x_thn ?_
      refine x_eq ?_
      refine n_wp ?_
      refine w_seq ?_
      refine c_reg (by kernel_rfl) rfl ?_
      refine s_p (by first | exact h_move (v := .s _) rfl | exact h_move (v := .agg _) rfl | exact h_move (v := .tup _) rfl) ?_
      refine s_p (h_call callable_41 rfl (Used_c _ 1 M C 3 u _ rfl rfl)) ?_
      refine s_p (by first | exact h_move (v := .s _) rfl | exact h_move (v := .agg _) rfl | exact h_move (v := .tup _) rfl) ?_
      refine s_p (h_bin rfl rfl (b_eql (decide_eq_true rfl))) ?_
      refine s_p (by first | exact h_assign (v := .s _) rfl | exact h_assign (v := .agg _) rfl | exact h_assign (v := .tup _) rfl) ?_
      refine s_nil ?_
      refine n_wp ?_
      refine w_ret ?_
      exact ⟨.inl rfl, ret_tmp Try.results18 rfl⟩
  · skip
    refine w_seq ?_
    refine w_seq ?_
    refine c_reg (by kernel_rfl) rfl ?_
    refine s_p (by first | exact h_move (v := .s _) rfl | exact h_move (v := .agg _) rfl | exact h_move (v := .tup _) rfl) ?_
    refine s_p (by first | exact h_move (v := .s _) rfl | exact h_move (v := .agg _) rfl | exact h_move (v := .tup _) rfl) ?_
    refine s_p (h_conv (r := ((mm : Nat) : Int)) rfl Try.underlying5 Try.underlying3 (wr_n rfl (by omega))) ?_
    refine s_p (h_bin rfl rfl (b_rem (r := ((kk : Nat) : Int)) (by omega) (by rw [hkk]; rfl))) ?_
    refine s_p (h_bin rfl rfl (b_lss rfl)) ?_
    refine s_nil ?_
    refine n_wp ?_
    refine w_cond rfl (fun hc_t27 => ?_) (fun hc_t27 => ?_)
    · skip
      have hlt : i < kk := by have := of_decide_eq_true hc_t27; omega
      refine w_skip ?_
      refine n_wp ?_
      refine w_seq ?_
      refine w_block ?_
      refine w_seq ?_
      refine c_reg (by kernel_rfl) rfl ?_
      refine s_p (by first | exact h_move (v := .s _) rfl | exact h_move (v := .agg _) rfl | exact h_move (v := .tup _) rfl) ?_
      refine s_p (by first | exact h_move (v := .s _) rfl | exact h_move (v := .agg _) rfl | exact h_move (v := .tup _) rfl) ?_
      refine s_p (h_call callable_39 rfl (put_full_v _ 1 M C 3 u _ rfl rfl a 0 c hu)) ?_
      refine s_p (by first | exact h_move (v := .s _) rfl | exact h_move (v := .agg _) rfl | exact h_move (v := .tup _) rfl) ?_
      refine s_p (h_extract rfl rfl (by simp)) ?_
      refine s_p (h_extract rfl rfl (by simp)) ?_
      refine s_p (h_extract rfl rfl (by simp)) ?_
      refine s_p (by first | exact h_assign (v := .s _) rfl | exact h_assign (v := .agg _) rfl | exact h_assign (v := .tup _) rfl) ?_
      refine s_p (by first | exact h_assign (v := .s _) rfl | exact h_assign (v := .agg _) rfl | exact h_assign (v := .tup _) rfl) ?_
      refine s_p (by first | exact h_assign (v := .s _) rfl | exact h_assign (v := .agg _) rfl | exact h_assign (v := .tup _) rfl) ?_
      refine s_nil ?_
      refine n_wp ?_
      refine w_seq ?_
      refine w_seq ?_
      refine c_reg (by kernel_rfl) rfl ?_
      refine s_p (by first | exact h_move (v := .s _) rfl | exact h_move (v := .agg _) rfl | exact h_move (v := .tup _) rfl) ?_
      refine s_p (h_bin rfl rfl (b_eql (decide_eq_true (by omega)))) ?_
      refine s_nil ?_
      refine n_wp ?_
      refine w_cond rfl (fun hc_t38 => ?_) (fun hc_t38 => ?_)
      rotate_left
      · exact absurd hc_t38 (by simp)
      refine w_seq ?_
      refine w_seq ?_
      refine c_reg (by kernel_rfl) rfl ?_
      refine s_p (by first | exact h_move (v := .s _) rfl | exact h_move (v := .agg _) rfl | exact h_move (v := .tup _) rfl) ?_
      refine s_p (h_bin rfl rfl (b_neq (decide_eq_false (fun h => h rfl)))) ?_
      refine s_p (by first | exact h_move (v := .s _) rfl | exact h_move (v := .agg _) rfl | exact h_move (v := .tup _) rfl) ?_
      first | refine s_on rfl rfl (by first | rfl | assumption) (by first | exact h_move (v := .s _) rfl | exact h_move (v := .agg _) rfl | exact h_move (v := .tup _) rfl) ?_ | refine s_off rfl rfl (by first | rfl | assumption) ?_
      first | refine s_on rfl rfl (by first | rfl | assumption) (by first | exact h_len rfl Try.underlying29 | exact h_len_nil rfl Try.underlying29 | exact h_len_val rfl Try.underlying29) ?_ | refine s_off rfl rfl (by first | rfl | assumption) ?_
      first | refine s_on rfl rfl (by first | rfl | assumption) (h_bin rfl rfl (b_neq (decide_eq_false (fun h => h rfl)))) ?_ | refine s_off rfl rfl (by first | rfl | assumption) ?_
      refine s_p (by first | exact h_pick_t rfl (by first | rfl | assumption) rfl | exact h_pick_f rfl (by first | rfl | assumption) rfl) ?_
      refine s_p (by first | exact h_move (v := .s _) rfl | exact h_move (v := .agg _) rfl | exact h_move (v := .tup _) rfl) ?_
      first | refine s_on rfl rfl (by first | rfl | assumption) (by first | exact h_move (v := .s _) rfl | exact h_move (v := .agg _) rfl | exact h_move (v := .tup _) rfl) ?_ | refine s_off rfl rfl (by first | rfl | assumption) ?_
      first | refine s_on rfl rfl (by first | rfl | assumption) (h_bin rfl rfl (b_neq (decide_eq_false (fun h => h rfl)))) ?_ | refine s_off rfl rfl (by first | rfl | assumption) ?_
      refine s_p (by first | exact h_pick_t rfl (by first | rfl | assumption) rfl | exact h_pick_f rfl (by first | rfl | assumption) rfl) ?_
      refine s_nil ?_
      refine n_wp ?_
      refine w_cond rfl (fun hc_t49 => ?_) (fun hc_t49 => ?_)
      · exact absurd hc_t49 (by simp)
      refine w_skip ?_
      refine n_wp ?_
      refine w_exit ?_
      refine x_thn ?_
      refine x_eq ?_
      refine n_wp ?_
      refine c_reg (by kernel_rfl) rfl ?_
      refine s_p (by first | exact h_move (v := .s _) rfl | exact h_move (v := .agg _) rfl | exact h_move (v := .tup _) rfl) ?_
      refine s_p (by first | exact h_bin rfl rfl (b_add (Go.IntWalk.i64_in _ (by omega))) | exact h_bin rfl rfl (b_add rfl)) ?_
      refine s_p (by first | exact h_assign (v := .s _) rfl | exact h_assign (v := .agg _) rfl | exact h_assign (v := .tup _) rfl) ?_
      refine s_nil ?_
      exact n_round (kk - (i + 1)) (by omega) ⟨i + 1, u, by omega, rfl, by omega, rfl, rfl⟩ (weak' (by repeat (first | exact trivial | refine ⟨rfl, ?_⟩)) rfl rfl (Nat.le_of_ble_eq_true rfl))
    · skip
      refine w_exit ?_
      refine x_thn ?_
      refine x_thn ?_
      refine x_eq ?_
      refine n_wp ?_
      refine w_seq ?_
      refine c_reg (by kernel_rfl) rfl ?_
      refine s_p (by first | exact h_move (v := .s _) rfl | exact h_move (v := .agg _) rfl | exact h_move (v := .tup _) rfl) ?_
      refine s_p (h_call callable_41 rfl (Used_c _ 1 M C 3 u _ rfl rfl)) ?_
      refine s_p (by first | exact h_move (v := .s _) rfl | exact h_move (v := .agg _) rfl | exact h_move (v := .tup _) rfl) ?_
      refine s_p (h_bin rfl rfl (b_eql (decide_eq_true rfl))) ?_
      refine s_p (by first | exact h_assign (v := .s _) rfl | exact h_assign (v := .agg _) rfl | exact h_assign (v := .tup _) rfl) ?_
      refine s_nil ?_
      refine n_wp ?_
      refine w_ret ?_
      exact ⟨.inl rfl, ret_tmp Try.results18 rfl⟩
def J18b (M C : List Int) (kk mm : Nat) (a : Option Addr) (k c : Nat) (q : Nat) (T : Tm) (H : Heap) : Prop := ∃ i u, i ≤ kk ∧ q = kk - i ∧ u = 0 ∧
  T = [(1, .s (.val (.slice a k c))), (2, .s (.int .u8 ((mm : Nat) : Int))), (7, .s (.ptr 1 0 0)), (8, .s (.int .i64 ((u : Nat) : Int))), (9, .s (.int .i64 ((i : Nat) : Int)))] ∧ H = [some ⟨true, [.ints .u8 32 M, .ints .u8 16 C]⟩, some ⟨true, [.ints .u8 32 M, .ints .u8 16 C, .one (.int .u32 ((3 : Nat) : Int)), .one (.int .i64 1), .one (.int .i64 ((u : Nat) : Int))]⟩]
set_option maxRecDepth 100000 in
set_option maxHeartbeats 2000000 in
theorem full_b (M C : List Int) (hM : M.length = 32) (hC : C.length = 16) (hC8 : U8 C) (mm kk : Nat) (hmm : mm < 256) (hkk : kk = mm % 100) (a : Option Addr) (k c : Nat) (hk : 2019 < k) (hk2 : k ≤ 3000) (cd : Code) (hc : Try.f18.body = some cd) (W : Nat → Prop) (w : World) (ρ0 : Rho) (hW : ∀ b, w.heap.size ≤ b → W b) (hdom : ∀ id, 0 ≤ id → ρ0 id = none) :
    Wp ⟨Try.prog, W, w, ρ0, 69, 0, hW, hdom⟩ cd (argT 0 [.agg [.ints .u8 32 M, .ints .u8 16 C], .s (.val (.slice a k c)), .s (.int .u8 ((mm : Nat) : Int))]) [] (DoneF ⟨Try.prog, W, w, ρ0, 69, 0, hW, hdom⟩ Try.f18 (.s (.bool true))) := by
  cases hc
  refine w_seq ?_
  refine c_reg (by kernel_rfl) rfl ?_
  refine s_a (by first | exact h_box_agg rfl rfl | exact h_box rfl (by simp) rfl) rfl ?_
  refine s_p (by first | exact h_assign (v := .s _) rfl | exact h_assign (v := .agg _) rfl | exact h_assign (v := .tup _) rfl) ?_
  refine s_nil ?_
  refine n_wp ?_
  refine w_seq ?_
  refine w_seq ?_
  refine c_reg (by kernel_rfl) rfl ?_
  refine s_p (h_call callable_44 rfl (alive20 _)) ?_
  refine s_p (h_not rfl) ?_
  refine s_p (by first | exact h_move (v := .s _) rfl | exact h_move (v := .agg _) rfl | exact h_move (v := .tup _) rfl) ?_
  first | refine s_on rfl rfl (by first | rfl | assumption) (by first | exact h_move (v := .s _) rfl | exact h_move (v := .agg _) rfl | exact h_move (v := .tup _) rfl) ?_ | refine s_off rfl rfl (by first | rfl | assumption) ?_
  first | refine s_on rfl rfl (by first | rfl | assumption) (by first | exact h_len rfl Try.underlying29 | exact h_len_nil rfl Try.underlying29 | exact h_len_val rfl Try.underlying29) ?_ | refine s_off rfl rfl (by first | rfl | assumption) ?_
  first | refine s_on rfl rfl (by first | rfl | assumption) (h_bin rfl rfl (b_gtr (decide_eq_false (by omega)))) ?_ | refine s_off rfl rfl (by first | rfl | assumption) ?_
  refine s_p (by first | exact h_pick_t rfl (by first | rfl | assumption) rfl | exact h_pick_f rfl (by first | rfl | assumption) rfl) ?_
  refine s_nil ?_
  refine n_wp ?_
  refine w_cond rfl (fun hc_t19 => ?_) (fun hc_t19 => ?_)
  · exact absurd hc_t19 (by simp)
  refine w_skip ?_
  refine n_wp ?_
  refine w_seq ?_
  refine c_reg (by kernel_rfl) rfl ?_
  refine s_p (h_load_agg rfl rfl (.whole rfl) Try.isAgg56 Try.sizeOf56) ?_
  refine s_a (h_call callable_46 rfl (NewOut_c _ M C 3)) rfl ?_
  refine s_p (by first | exact h_assign (v := .s _) rfl | exact h_assign (v := .agg _) rfl | exact h_assign (v := .tup _) rfl) ?_
  refine s_nil ?_
  refine n_wp ?_
  refine w_seq ?_
  refine c_reg (by kernel_rfl) rfl ?_
  refine s_p (by first | exact h_assign (v := .s _) rfl | exact h_assign (v := .agg _) rfl | exact h_assign (v := .tup _) rfl) ?_
  refine s_nil ?_
  refine n_wp ?_
  refine w_seq ?_
  refine w_seq ?_
  refine c_reg (by kernel_rfl) rfl ?_
  refine s_p (by first | exact h_assign (v := .s _) rfl | exact h_assign (v := .agg _) rfl | exact h_assign (v := .tup _) rfl) ?_
  refine s_nil ?_
  refine n_wp ?_
  refine w_block ?_
  refine c_loop (J18b M C kk mm a k c) kk ⟨0, 0, Nat.zero_le _, rfl, rfl, rfl, rfl⟩ (weak' (by repeat (first | exact trivial | refine ⟨rfl, ?_⟩)) rfl rfl (Nat.le_of_ble_eq_true rfl)) ?_
  rintro n T H ⟨i, u, hi, rfl, hus, rfl, rfl⟩
  refine w_seq ?_
  refine w_seq ?_
  refine c_reg (by kernel_rfl) rfl ?_
  refine s_p (by first | exact h_move (v := .s _) rfl | exact h_move (v := .agg _) rfl | exact h_move (v := .tup _) rfl) ?_
  refine s_p (by first | exact h_move (v := .s _) rfl | exact h_move (v := .agg _) rfl | exact h_move (v := .tup _) rfl) ?_
  refine s_p (h_conv (r := ((mm : Nat) : Int)) rfl Try.underlying5 Try.underlying3 (wr_n rfl (by omega))) ?_
  refine s_p (h_bin rfl rfl (b_rem (r := ((kk : Nat) : Int)) (by omega) (by rw [hkk]; rfl))) ?_
  refine s_p (h_bin rfl rfl (b_lss rfl)) ?_
  refine s_nil ?_
  refine n_wp ?_
  refine w_cond rfl (fun hc_t27 => ?_) (fun hc_t27 => ?_)
  · skip
    have hlt : i < kk := by have := of_decide_eq_true hc_t27; omega
    refine w_skip ?_
    refine n_wp ?_
    refine w_seq ?_
    refine w_block ?_
    refine w_seq ?_
    refine c_reg (by kernel_rfl) rfl ?_
    refine s_p (by first | exact h_move (v := .s _) rfl | exact h_move (v := .agg _) rfl | exact h_move (v := .tup _) rfl) ?_
    refine s_p (by first | exact h_move (v := .s _) rfl | exact h_move (v := .agg _) rfl | exact h_move (v := .tup _) rfl) ?_
    refine s_p (h_call callable_39 rfl (put_big _ 1 M C 3 u _ rfl rfl a k c (by omega) hk)) ?_
    refine s_p (by first | exact h_move (v := .s _) rfl | exact h_move (v := .agg _) rfl | exact h_move (v := .tup _) rfl) ?_
    refine s_p (h_extract rfl rfl (by simp)) ?_
    refine s_p (h_extract rfl rfl (by simp)) ?_
    refine s_p (h_extract rfl rfl (by simp)) ?_
    refine s_p (by first | exact h_assign (v := .s _) rfl | exact h_assign (v := .agg _) rfl | exact h_assign (v := .tup _) rfl) ?_
    refine s_p (by first | exact h_assign (v := .s _) rfl | exact h_assign (v := .agg _) rfl | exact h_assign (v := .tup _) rfl) ?_
    refine s_p (by first | exact h_assign (v := .s _) rfl | exact h_assign (v := .agg _) rfl | exact h_assign (v := .tup _) rfl) ?_
    refine s_nil ?_
    refine n_wp ?_
    refine w_seq ?_
    refine w_seq ?_
    refine c_reg (by kernel_rfl) rfl ?_
    refine s_p (by first | exact h_move (v := .s _) rfl | exact h_move (v := .agg _) rfl | exact h_move (v := .tup _) rfl) ?_
    refine s_p (h_bin rfl rfl (b_eql (decide_eq_false (by omega)))) ?_
    refine s_nil ?_
    refine n_wp ?_
    refine w_cond rfl (fun hc_t38 => ?_) (fun hc_t38 => ?_)
    · exact absurd hc_t38 (by simp)
    refine w_skip ?_
    refine n_wp ?_
    refine w_seq ?_
    refine w_seq ?_
    refine c_reg (by kernel_rfl) rfl ?_
    refine s_p (by first | exact h_move (v := .s _) rfl | exact h_move (v := .agg _) rfl | exact h_move (v := .tup _) rfl) ?_
    refine s_p (by first | exact h_len rfl Try.underlying29 | exact h_len_nil rfl Try.underlying29 | exact h_len_val rfl Try.underlying29) ?_
    refine s_p (h_bin rfl rfl (b_gtr (decide_eq_true (by omega)))) ?_
    refine s_nil ?_
    refine n_wp ?_
    refine w_cond rfl (fun hc_t52 => ?_) (fun hc_t52 => ?_)
    rotate_left
    · exact absurd hc_t52 (by simp)
    refine w_seq ?_
    refine w_seq ?_
    refine c_reg (by kernel_rfl) rfl ?_
    refine s_p (by first | exact h_move (v := .s _) rfl | exact h_move (v := .agg _) rfl | exact h_move (v := .tup _) rfl) ?_
    refine s_p (h_bin rfl rfl (b_neq (decide_eq_false (fun h => h rfl)))) ?_
    refine s_nil ?_
    refine n_wp ?_
    refine w_cond rfl (fun hc_t54 => ?_) (fun hc_t54 => ?_)
    · exact absurd hc_t54 (by simp)
    refine w_skip ?_
    refine n_wp ?_
    refine w_exit ?_
    refine x_thn ?_
    refine x_eq ?_
    refine n_wp ?_
    refine c_reg (by kernel_rfl) rfl ?_
    refine s_p (by first | exact h_move (v := .s _) rfl | exact h_move (v := .agg _) rfl | exact h_move (v := .tup _) rfl) ?_
    refine s_p (by first | exact h_bin rfl rfl (b_add (Go.IntWalk.i64_in _ (by omega))) | exact h_bin rfl rfl (b_add rfl)) ?_
    refine s_p (by first | exact h_assign (v := .s _) rfl | exact h_assign (v := .agg _) rfl | exact h_assign (v := .tup _) rfl) ?_
    refine s_nil ?_
    exact n_round (kk - (i + 1)) (by omega) ⟨i + 1, u, by omega, rfl, hus, rfl, rfl⟩ (weak' (by repeat (first | exact trivial | refine ⟨rfl, ?_⟩)) rfl rfl (Nat.le_of_ble_eq_true rfl))
  · skip
    refine w_exit ?_
    refine x_thn ?_
    refine x_thn ?_
    refine x_eq ?_
    refine n_wp ?_
    refine w_seq ?_
    refine c_reg (by kernel_rfl) rfl ?_
    refine s_p (by first | exact h_move (v := .s _) rfl | exact h_move (v := .agg _) rfl | exact h_move (v := .tup _) rfl) ?_
    refine s_p (h_call callable_41 rfl (Used_c _ 1 M C 3 u _ rfl rfl)) ?_
    refine s_p (by first | exact h_move (v := .s _) rfl | exact h_move (v := .agg _) rfl | exact h_move (v := .tup _) rfl) ?_
    refine s_p (h_bin rfl rfl (b_eql (decide_eq_true rfl))) ?_
    refine s_p (by first | exact h_assign (v := .s _) rfl | exact h_assign (v := .agg _) rfl | exact h_assign (v := .tup _) rfl) ?_
    refine s_nil ?_
    refine n_wp ?_
    refine w_ret ?_
    exact ⟨.inl rfl, ret_tmp Try.results18 rfl⟩
set_option maxRecDepth 100000 in
set_option maxHeartbeats 2000000 in
theorem full_h (M C : List Int) (hM : M.length = 32) (hC : C.length = 16) (hC8 : U8 C) (mm kk : Nat) (hmm : mm < 256) (hkk : kk = mm % 100) (a : Option Addr) (k c : Nat) (hk : 3000 < k) (cd : Code) (hc : Try.f18.body = some cd) (W : Nat → Prop) (w : World) (ρ0 : Rho) (hW : ∀ b, w.heap.size ≤ b → W b) (hdom : ∀ id, 0 ≤ id → ρ0 id = none) :
    Wp ⟨Try.prog, W, w, ρ0, 69, 0, hW, hdom⟩ cd (argT 0 [.agg [.ints .u8 32 M, .ints .u8 16 C], .s (.val (.slice a k c)), .s (.int .u8 ((mm : Nat) : Int))]) [] (DoneF ⟨Try.prog, W, w, ρ0, 69, 0, hW, hdom⟩ Try.f18 (.s (.bool true))) := by
  cases hc
  refine w_seq ?_
  refine c_reg (by kernel_rfl) rfl ?_
  refine s_a (by first | exact h_box_agg rfl rfl | exact h_box rfl (by simp) rfl) rfl ?_
  refine s_p (by first | exact h_assign (v := .s _) rfl | exact h_assign (v := .agg _) rfl | exact h_assign (v := .tup _) rfl) ?_
  refine s_nil ?_
  refine n_wp ?_
  refine w_seq ?_
  refine w_seq ?_
  refine c_reg (by kernel_rfl) rfl ?_
  refine s_p (h_call callable_44 rfl (alive20 _)) ?_
  refine s_p (h_not rfl) ?_
  refine s_p (by first | exact h_move (v := .s _) rfl | exact h_move (v := .agg _) rfl | exact h_move (v := .tup _) rfl) ?_
  first | refine s_on rfl rfl (by first | rfl | assumption) (by first | exact h_move (v := .s _) rfl | exact h_move (v := .agg _) rfl | exact h_move (v := .tup _) rfl) ?_ | refine s_off rfl rfl (by first | rfl | assumption) ?_
  first | refine s_on rfl rfl (by first | rfl | assumption) (by first | exact h_len rfl Try.underlying29 | exact h_len_nil rfl Try.underlying29 | exact h_len_val rfl Try.underlying29) ?_ | refine s_off rfl rfl (by first | rfl | assumption) ?_
  first | refine s_on rfl rfl (by first | rfl | assumption) (h_bin rfl rfl (b_gtr (decide_eq_true (by omega)))) ?_ | refine s_off rfl rfl (by first | rfl | assumption) ?_
  refine s_p (by first | exact h_pick_t rfl (by first | rfl | assumption) rfl | exact h_pick_f rfl (by first | rfl | assumption) rfl) ?_
  refine s_nil ?_
  refine n_wp ?_
  refine w_cond rfl (fun hc_t19 => ?_) (fun hc_t19 => ?_)
  rotate_left
  · exact absurd hc_t19 (by simp)
  refine w_seq ?_
  refine c_reg (by kernel_rfl) rfl ?_
  refine s_p (h_call callable_44 rfl (alive20 _)) ?_
  refine s_p (by first | exact h_assign (v := .s _) rfl | exact h_assign (v := .agg _) rfl | exact h_assign (v := .tup _) rfl) ?_
  refine s_nil ?_
  refine n_wp ?_
  refine w_ret ?_
  refine r_thn ?_
  exact ⟨.inl rfl, ret_tmp Try.results18 rfl⟩
end Go.Proofs.X
