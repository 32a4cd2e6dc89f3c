/- A part of the proofs of this claim: SealL2 (SealL2). No conditions. -/
import Derived.Test.YtffflnpidipheaaSealL1
import Derived.Test.YtffflnpidipheaaSameW
set_option linter.unusedVariables false
set_option linter.unusedSimpArgs false
open Go Go.Ab Go.Proofs
namespace Go.Proofs.X
theorem callable_11 : Callable Try.prog 11 := ⟨_, Try.func11, by kernel_rfl, rfl⟩
set_option maxRecDepth 100000 in
set_option maxHeartbeats 2000000 in
theorem back_s (M C B : List Int) (l n len cap : Nat) (hM : M.length = 32) (hC : C.length = 16) (hC8 : U8 C) (hl : l < 4294967296) (hn : n < 18446744073709551616) (h8 : U8 B) (hBl : B.length = len) (hcap : len ≤ cap) (h0 : 0 < len) (h2k : len ≤ 2019) (c : Code) (hc : Try.f11.body = some c) (W : Nat → Prop) (w : World) (ρ0 : Rho) (hW : ∀ b, w.heap.size ≤ b → W b) (hdom : ∀ id, 1 ≤ id → ρ0 id = none) :
    Wp ⟨Try.prog, W, w, ρ0, 116, 1, hW, hdom⟩ c (argT 0 [.agg [.ints .u8 32 M, .ints .u8 16 C, .one (.int .u32 ((l : Nat) : Int)), .one (.int .u64 ((n : Nat) : Int))], .s (.slice 0 0 0 len cap)]) [some ⟨false, [.ints .u8 len B]⟩] (DoneF ⟨Try.prog, W, w, ρ0, 116, 1, hW, hdom⟩ Try.f11 (.s (.bool true))) := by
  obtain ⟨X, hX⟩ : ∃ L : List Int, (sealL M C ((l : Nat) : Int) ((n : Nat) : Int) B len) = L := ⟨_, rfl⟩
  have hXl : X.length = 29 + len := by rw [← hX]; exact sealL_len _ _ _ _ _ _
  have hX8 : U8 X := by rw [← hX]; exact U8_seal _ _ _ _ _ _
  have hX9 : X.getD 0 0 = 9 := by rw [← hX]; exact seal_nine _ _ _ _ _ _
  have hXg : getI ((X.drop (0 + 1)).take (29 + len - 1)) 4 = ((l : Nat) : Int) := by rw [← hX]; exact seal_lane _ _ l _ _ len hl
  have hXn : getI ((X.drop (0 + 5)).take (29 + len - 5)) 8 = ((n : Nat) : Int) := by rw [← hX]; exact seal_num _ _ _ n _ len hn
  have hXm : mo (((sMac M X (13 + len)).drop 0).take 16) ((X.drop (13 + len)).take 16) 16 = 0 := by rw [← hX]; exact seal_mo _ _ _ _ _ _
  have hXs : streamN C (fiL X) ((X.drop (0 + 13)).take len) len = B := by rw [← hX]; exact seal_back' _ _ _ _ _ _ hBl h8
  cases hc
  refine w_seq ?_
  refine c_reg (by kernel_rfl) rfl ?_
  refine s_a (by first | exact h_box_agg rfl rfl | exact h_box rfl (by simp) rfl) rfl ?_
  refine s_p (by first | exact h_assign (v := .s _) rfl | exact h_assign (v := .agg _) rfl | exact h_assign (v := .tup _) rfl) ?_
  refine s_nil ?_
  refine n_wp ?_
  refine w_seq ?_
  refine c_reg (by kernel_rfl) rfl ?_
  refine s_p (h_field rfl Try.underlying63 rfl Try.sizeOf56 (by decide)) ?_
  refine s_p (h_load_agg rfl rfl (.two (m := 32) (n := 16) rfl rfl (.seg rfl rfl)) Try.isAgg56 Try.sizeOf56) ?_
  refine s_p (h_field rfl Try.underlying63 rfl Try.sizeOf61 (by decide)) ?_
  refine s_p (by first | exact h_load_ints rfl rfl rfl (by omega) rfl Try.isAgg61 | exact h_load_one rfl rfl rfl Try.isAgg61) ?_
  refine s_p (h_field rfl Try.underlying63 rfl Try.sizeOf40 (by decide)) ?_
  refine s_p (by first | exact h_load_ints rfl rfl rfl (by omega) rfl Try.isAgg40 | exact h_load_one rfl rfl rfl Try.isAgg40) ?_
  refine s_p (by first | exact h_move (v := .s _) rfl | exact h_move (v := .agg _) rfl | exact h_move (v := .tup _) rfl) ?_
  refine s_a (h_call callable_35 rfl ((show ACall _ _ _ _ _ [⟨true, [.ints .u8 (29 + len) X]⟩] by rw [← hX]; exact seal_s _ M C l n hM hC hC8 hl 0 0 len cap B _ hBl hcap (by omega) rfl (fun i y hy => by rw [Nat.zero_add i]; exact hy) h0 h2k))) rfl ?_
  refine s_p (by first | exact h_move (v := .s _) rfl | exact h_move (v := .agg _) rfl | exact h_move (v := .tup _) rfl) ?_
  refine s_p (h_extract rfl rfl (by simp)) ?_
  refine s_p (h_extract rfl rfl (by simp)) ?_
  refine s_p (by first | exact h_assign (v := .s _) rfl | exact h_assign (v := .agg _) rfl | exact h_assign (v := .tup _) rfl) ?_
  refine s_p (by first | exact h_assign (v := .s _) rfl | exact h_assign (v := .agg _) rfl | exact h_assign (v := .tup _) rfl) ?_
  refine s_nil ?_
  refine n_wp ?_
  refine w_seq ?_
  refine w_seq ?_
  refine c_reg (by kernel_rfl) rfl ?_
  refine s_p (by first | exact h_move (v := .s _) rfl | exact h_move (v := .agg _) rfl | exact h_move (v := .tup _) rfl) ?_
  refine s_p (by first | exact h_len rfl Try.underlying29 | exact h_len_nil rfl Try.underlying29 | exact h_len_val rfl Try.underlying29) ?_
  refine s_p (h_bin rfl rfl (b_gtr rfl)) ?_
  refine s_nil ?_
  refine n_wp ?_
  refine w_cond rfl (fun hc_t28 => ?_) (fun hc_t28 => ?_)
  · exact absurd hc_t28 (by intro h; have := of_decide_eq_true h; omega)
  refine w_skip ?_
  refine n_wp ?_
  refine w_seq ?_
  refine c_reg (by kernel_rfl) rfl ?_
  refine s_p (h_field rfl Try.underlying63 rfl Try.sizeOf56 (by decide)) ?_
  refine s_p (h_load_agg rfl rfl (.two (m := 32) (n := 16) rfl rfl (.seg rfl rfl)) Try.isAgg56 Try.sizeOf56) ?_
  refine s_p (h_field rfl Try.underlying63 rfl Try.sizeOf61 (by decide)) ?_
  refine s_p (by first | exact h_load_ints rfl rfl rfl (by omega) rfl Try.isAgg61 | exact h_load_one rfl rfl rfl Try.isAgg61) ?_
  refine s_p (h_field rfl Try.underlying63 rfl Try.sizeOf40 (by decide)) ?_
  refine s_p (by first | exact h_load_ints rfl rfl rfl (by omega) rfl Try.isAgg40 | exact h_load_one rfl rfl rfl Try.isAgg40) ?_
  refine s_p (by first | exact h_move (v := .s _) rfl | exact h_move (v := .agg _) rfl | exact h_move (v := .tup _) rfl) ?_
  refine s_a (h_call callable_35 rfl ((show ACall _ _ _ _ _ [⟨true, [.ints .u8 (29 + len) X]⟩] by rw [← hX]; exact seal_s _ M C l n hM hC hC8 hl 0 0 len cap B _ hBl hcap (by omega) rfl (fun i y hy => by rw [Nat.zero_add i]; exact hy) h0 h2k))) rfl ?_
  refine s_p (by first | exact h_move (v := .s _) rfl | exact h_move (v := .agg _) rfl | exact h_move (v := .tup _) rfl) ?_
  refine s_p (h_extract rfl rfl (by simp)) ?_
  refine s_p (h_extract rfl rfl (by simp)) ?_
  refine s_p (by first | exact h_assign (v := .s _) rfl | exact h_assign (v := .agg _) rfl | exact h_assign (v := .tup _) rfl) ?_
  refine s_p (by first | exact h_assign (v := .s _) rfl | exact h_assign (v := .agg _) rfl | exact h_assign (v := .tup _) rfl) ?_
  refine s_nil ?_
  refine n_wp ?_
  refine w_seq ?_
  refine c_reg (by kernel_rfl) rfl ?_
  refine s_p (h_field rfl Try.underlying63 rfl Try.sizeOf56 (by decide)) ?_
  refine s_p (h_load_agg rfl rfl (.two (m := 32) (n := 16) rfl rfl (.seg rfl rfl)) Try.isAgg56 Try.sizeOf56) ?_
  refine s_p (by first | exact h_move (v := .s _) rfl | exact h_move (v := .agg _) rfl | exact h_move (v := .tup _) rfl) ?_
  refine s_a (h_call callable_37 rfl (open_ok _ M C len hM hC hC8 2 0 (29 + len) (29 + len) X _ hXl (Nat.le_refl _) (by omega) rfl (fun i y hy => by rw [Nat.zero_add i]; exact hy) hX8 rfl (by omega) hX9 l hl hXg hXm h0)) rfl ?_
  refine s_p (by first | exact h_move (v := .s _) rfl | exact h_move (v := .agg _) rfl | exact h_move (v := .tup _) rfl) ?_
  refine s_p (h_extract rfl rfl (by simp)) ?_
  refine s_p (h_extract rfl rfl (by simp)) ?_
  refine s_p (h_extract rfl rfl (by simp)) ?_
  refine s_p (h_extract rfl rfl (by simp)) ?_
  refine s_p (by first | exact h_assign (v := .s _) rfl | exact h_assign (v := .agg _) rfl | exact h_assign (v := .tup _) rfl) ?_
  refine s_p (by first | exact h_assign (v := .s _) rfl | exact h_assign (v := .agg _) rfl | exact h_assign (v := .tup _) rfl) ?_
  refine s_p (by first | exact h_assign (v := .s _) rfl | exact h_assign (v := .agg _) rfl | exact h_assign (v := .tup _) rfl) ?_
  refine s_p (by first | exact h_assign (v := .s _) rfl | exact h_assign (v := .agg _) rfl | exact h_assign (v := .tup _) rfl) ?_
  refine s_nil ?_
  refine n_wp ?_
  refine w_seq ?_
  refine c_reg (by kernel_rfl) rfl ?_
  refine s_p (by first | exact h_move (v := .s _) rfl | exact h_move (v := .agg _) rfl | exact h_move (v := .tup _) rfl) ?_
  refine s_p (h_call callable_38 rfl (Lane_ok _ 2 0 (29 + len) (29 + len) X _ hXl (Nat.le_refl _) (by omega) rfl (fun i y hy => by rw [Nat.zero_add i]; exact hy) (by omega) (by omega) hX9 l hl hXg)) ?_
  refine s_p (by first | exact h_move (v := .s _) rfl | exact h_move (v := .agg _) rfl | exact h_move (v := .tup _) rfl) ?_
  refine s_p (h_extract rfl rfl (by simp)) ?_
  refine s_p (h_extract rfl rfl (by simp)) ?_
  refine s_p (by first | exact h_assign (v := .s _) rfl | exact h_assign (v := .agg _) rfl | exact h_assign (v := .tup _) rfl) ?_
  refine s_p (by first | exact h_assign (v := .s _) rfl | exact h_assign (v := .agg _) rfl | exact h_assign (v := .tup _) rfl) ?_
  refine s_nil ?_
  refine n_wp ?_
  refine w_seq ?_
  refine c_reg (by kernel_rfl) rfl ?_
  refine s_p (h_call callable_36 rfl (alive19 _)) ?_
  refine s_p (by first | exact h_move (v := .s _) rfl | exact h_move (v := .agg _) rfl | exact h_move (v := .tup _) rfl) ?_
  first | refine s_on rfl rfl (by first | rfl | assumption) (by first | exact h_move (v := .s _) rfl | exact h_move (v := .agg _) rfl | exact h_move (v := .tup _) rfl) ?_ | refine s_off rfl rfl (by first | rfl | assumption) ?_
  first | refine s_on rfl rfl (by first | rfl | assumption) (h_bin rfl rfl (b_eql (decide_eq_true rfl))) ?_ | refine s_off rfl rfl (by first | rfl | assumption) ?_
  refine s_p (by first | exact h_pick_t rfl (by first | rfl | assumption) rfl | exact h_pick_f rfl (by first | rfl | assumption) rfl) ?_
  refine s_p (by first | exact h_move (v := .s _) rfl | exact h_move (v := .agg _) rfl | exact h_move (v := .tup _) rfl) ?_
  first | refine s_on rfl rfl (by first | rfl | assumption) (by first | exact h_move (v := .s _) rfl | exact h_move (v := .agg _) rfl | exact h_move (v := .tup _) rfl) ?_ | refine s_off rfl rfl (by first | rfl | assumption) ?_
  first | refine s_on rfl rfl (by first | rfl | assumption) (h_bin rfl rfl (b_eql (decide_eq_true rfl))) ?_ | refine s_off rfl rfl (by first | rfl | assumption) ?_
  refine s_p (by first | exact h_pick_t rfl (by first | rfl | assumption) rfl | exact h_pick_f rfl (by first | rfl | assumption) rfl) ?_
  refine s_p (by first | exact h_move (v := .s _) rfl | exact h_move (v := .agg _) rfl | exact h_move (v := .tup _) rfl) ?_
  first | refine s_on rfl rfl (by first | rfl | assumption) (by first | exact h_move (v := .s _) rfl | exact h_move (v := .agg _) rfl | exact h_move (v := .tup _) rfl) ?_ | refine s_off rfl rfl (by first | rfl | assumption) ?_
  first | refine s_on rfl rfl (by first | rfl | assumption) (h_bin rfl rfl (b_eql (decide_eq_true rfl))) ?_ | refine s_off rfl rfl (by first | rfl | assumption) ?_
  refine s_p (by first | exact h_pick_t rfl (by first | rfl | assumption) rfl | exact h_pick_f rfl (by first | rfl | assumption) rfl) ?_
  refine s_p (by first | exact h_move (v := .s _) rfl | exact h_move (v := .agg _) rfl | exact h_move (v := .tup _) rfl) ?_
  first | refine s_on rfl rfl (by first | rfl | assumption) (by first | exact h_move (v := .s _) rfl | exact h_move (v := .agg _) rfl | exact h_move (v := .tup _) rfl) ?_ | refine s_off rfl rfl (by first | rfl | assumption) ?_
  first | refine s_on rfl rfl (by first | rfl | assumption) (h_bin rfl rfl (b_eql (decide_eq_true rfl))) ?_ | refine s_off rfl rfl (by first | rfl | assumption) ?_
  refine s_p (by first | exact h_pick_t rfl (by first | rfl | assumption) rfl | exact h_pick_f rfl (by first | rfl | assumption) rfl) ?_
  refine s_p (by first | exact h_move (v := .s _) rfl | exact h_move (v := .agg _) rfl | exact h_move (v := .tup _) rfl) ?_
  first | refine s_on rfl rfl (by first | rfl | assumption) (by first | exact h_move (v := .s _) rfl | exact h_move (v := .agg _) rfl | exact h_move (v := .tup _) rfl) ?_ | refine s_off rfl rfl (by first | rfl | assumption) ?_
  first | refine s_on rfl rfl (by first | rfl | assumption) (by first | exact h_len rfl Try.underlying29 | exact h_len_nil rfl Try.underlying29 | exact h_len_val rfl Try.underlying29) ?_ | refine s_off rfl rfl (by first | rfl | assumption) ?_
  first | refine s_on rfl rfl (by first | rfl | assumption) (by first | exact h_move (v := .s _) rfl | exact h_move (v := .agg _) rfl | exact h_move (v := .tup _) rfl) ?_ | refine s_off rfl rfl (by first | rfl | assumption) ?_
  first | refine s_on rfl rfl (by first | rfl | assumption) (by first | exact h_len rfl Try.underlying29 | exact h_len_nil rfl Try.underlying29 | exact h_len_val rfl Try.underlying29) ?_ | refine s_off rfl rfl (by first | rfl | assumption) ?_
  first | refine s_on rfl rfl (by first | rfl | assumption) (h_bin rfl rfl (b_add (r := ((len + 29 : Nat) : Int)) (wr_n (by omega) (by omega)))) ?_ | refine s_off rfl rfl (by first | rfl | assumption) ?_
  first | refine s_on rfl rfl (by first | rfl | assumption) (h_bin rfl rfl (b_eql (decide_eq_true (by omega)))) ?_ | refine s_off rfl rfl (by first | rfl | assumption) ?_
  refine s_p (by first | exact h_pick_t rfl (by first | rfl | assumption) rfl | exact h_pick_f rfl (by first | rfl | assumption) rfl) ?_
  refine s_p (by first | exact h_move (v := .s _) rfl | exact h_move (v := .agg _) rfl | exact h_move (v := .tup _) rfl) ?_
  first | refine s_on rfl rfl (by first | rfl | assumption) (by first | exact h_move (v := .s _) rfl | exact h_move (v := .agg _) rfl | exact h_move (v := .tup _) rfl) ?_ | refine s_off rfl rfl (by first | rfl | assumption) ?_
  first | refine s_on rfl rfl (by first | rfl | assumption) (by first | exact h_move (v := .s _) rfl | exact h_move (v := .agg _) rfl | exact h_move (v := .tup _) rfl) ?_ | refine s_off rfl rfl (by first | rfl | assumption) ?_
  first | refine s_on rfl rfl (by first | rfl | assumption) (h_call callable_27 rfl (same_ss X (29 + len) _ _ (by omega) _ 2 0 0 (29 + len) _ X rfl rfl (by omega) (by rw [List.drop_zero, List.take_of_length_le (Nat.le_of_eq hXl)]) 3 0 0 (29 + len) _ X rfl rfl (by omega) (by rw [List.drop_zero, List.take_of_length_le (Nat.le_of_eq hXl)]))) ?_ | refine s_off rfl rfl (by first | rfl | assumption) ?_
  refine s_p (by first | exact h_pick_t rfl (by first | rfl | assumption) rfl | exact h_pick_f rfl (by first | rfl | assumption) rfl) ?_
  refine s_p (by first | exact h_move (v := .s _) rfl | exact h_move (v := .agg _) rfl | exact h_move (v := .tup _) rfl) ?_
  first | refine s_on rfl rfl (by first | rfl | assumption) (by first | exact h_move (v := .s _) rfl | exact h_move (v := .agg _) rfl | exact h_move (v := .tup _) rfl) ?_ | refine s_off rfl rfl (by first | rfl | assumption) ?_
  first | refine s_on rfl rfl (by first | rfl | assumption) (h_field rfl Try.underlying63 rfl Try.sizeOf61 (by decide)) ?_ | refine s_off rfl rfl (by first | rfl | assumption) ?_
  first | refine s_on rfl rfl (by first | rfl | assumption) (by first | exact h_load_ints rfl rfl rfl (by omega) rfl Try.isAgg61 | exact h_load_one rfl rfl rfl Try.isAgg61) ?_ | refine s_off rfl rfl (by first | rfl | assumption) ?_
  first | refine s_on rfl rfl (by first | rfl | assumption) (h_bin rfl rfl (b_eql (decide_eq_true rfl))) ?_ | refine s_off rfl rfl (by first | rfl | assumption) ?_
  refine s_p (by first | exact h_pick_t rfl (by first | rfl | assumption) rfl | exact h_pick_f rfl (by first | rfl | assumption) rfl) ?_
  refine s_p (by first | exact h_move (v := .s _) rfl | exact h_move (v := .agg _) rfl | exact h_move (v := .tup _) rfl) ?_
  first | refine s_on rfl rfl (by first | rfl | assumption) (by first | exact h_move (v := .s _) rfl | exact h_move (v := .agg _) rfl | exact h_move (v := .tup _) rfl) ?_ | refine s_off rfl rfl (by first | rfl | assumption) ?_
  first | refine s_on rfl rfl (by first | rfl | assumption) (h_field rfl Try.underlying63 rfl Try.sizeOf40 (by decide)) ?_ | refine s_off rfl rfl (by first | rfl | assumption) ?_
  first | refine s_on rfl rfl (by first | rfl | assumption) (by first | exact h_load_ints rfl rfl rfl (by omega) rfl Try.isAgg40 | exact h_load_one rfl rfl rfl Try.isAgg40) ?_ | refine s_off rfl rfl (by first | rfl | assumption) ?_
  first | refine s_on rfl rfl (by first | rfl | assumption) (h_bin rfl rfl (b_eql (decide_eq_true hXn))) ?_ | refine s_off rfl rfl (by first | rfl | assumption) ?_
  refine s_p (by first | exact h_pick_t rfl (by first | rfl | assumption) rfl | exact h_pick_f rfl (by first | rfl | assumption) rfl) ?_
  refine s_p (by first | exact h_move (v := .s _) rfl | exact h_move (v := .agg _) rfl | exact h_move (v := .tup _) rfl) ?_
  first | refine s_on rfl rfl (by first | rfl | assumption) (by first | exact h_move (v := .s _) rfl | exact h_move (v := .agg _) rfl | exact h_move (v := .tup _) rfl) ?_ | refine s_off rfl rfl (by first | rfl | assumption) ?_
  first | refine s_on rfl rfl (by first | rfl | assumption) (by first | exact h_move (v := .s _) rfl | exact h_move (v := .agg _) rfl | exact h_move (v := .tup _) rfl) ?_ | refine s_off rfl rfl (by first | rfl | assumption) ?_
  first | refine s_on rfl rfl (by first | rfl | assumption) (h_bin rfl rfl (b_eql (decide_eq_true rfl))) ?_ | refine s_off rfl rfl (by first | rfl | assumption) ?_
  refine s_p (by first | exact h_pick_t rfl (by first | rfl | assumption) rfl | exact h_pick_f rfl (by first | rfl | assumption) rfl) ?_
  refine s_p (by first | exact h_move (v := .s _) rfl | exact h_move (v := .agg _) rfl | exact h_move (v := .tup _) rfl) ?_
  first | refine s_on rfl rfl (by first | rfl | assumption) (by first | exact h_move (v := .s _) rfl | exact h_move (v := .agg _) rfl | exact h_move (v := .tup _) rfl) ?_ | refine s_off rfl rfl (by first | rfl | assumption) ?_
  first | refine s_on rfl rfl (by first | rfl | assumption) (by first | exact h_move (v := .s _) rfl | exact h_move (v := .agg _) rfl | exact h_move (v := .tup _) rfl) ?_ | refine s_off rfl rfl (by first | rfl | assumption) ?_
  first | refine s_on rfl rfl (by first | rfl | assumption) (h_call callable_27 rfl (same_ss B len _ _ (by omega) _ 4 0 0 len _ (streamN C (fiL X) ((X.drop (0 + 13)).take len) len) rfl rfl (by omega) (by rw [hXs, List.drop_zero, List.take_of_length_le (Nat.le_of_eq hBl)]) 0 0 0 len _ B rfl rfl (by omega) (by rw [List.drop_zero, List.take_of_length_le (Nat.le_of_eq hBl)]))) ?_ | refine s_off rfl rfl (by first | rfl | assumption) ?_
  refine s_p (by first | exact h_pick_t rfl (by first | rfl | assumption) rfl | exact h_pick_f rfl (by first | rfl | assumption) rfl) ?_
  refine s_p (by first | exact h_assign (v := .s _) rfl | exact h_assign (v := .agg _) rfl | exact h_assign (v := .tup _) rfl) ?_
  refine s_nil ?_
  refine n_wp ?_
  refine w_ret ?_
  exact ⟨.inl rfl, ret_tmp Try.results11 rfl⟩
set_option maxRecDepth 100000 in
set_option maxHeartbeats 2000000 in
theorem back_0 (H : Heap) (M C : List Int) (l n : Nat) (hM : M.length = 32) (hC : C.length = 16) (hC8 : U8 C) (hl : l < 4294967296) (hn : n < 18446744073709551616) (a : Option Addr) (c : Nat) : ACall Try.prog 11 H [.agg [.ints .u8 32 M, .ints .u8 16 C, .one (.int .u32 ((l : Nat) : Int)), .one (.int .u64 ((n : Nat) : Int))], .s (.val (.slice a 0 c))] (.s (.bool true)) [] := by
  obtain ⟨X, hX⟩ : ∃ L : List Int, (sealL M C ((l : Nat) : Int) ((n : Nat) : Int) [] 0) = L := ⟨_, rfl⟩
  have hXl : X.length = 29 + 0 := by rw [← hX]; exact sealL_len _ _ _ _ _ _
  have hX8 : U8 X := by rw [← hX]; exact U8_seal _ _ _ _ _ _
  have hX9 : X.getD 0 0 = 9 := by rw [← hX]; exact seal_nine _ _ _ _ _ _
  have hXg : getI ((X.drop (0 + 1)).take (29 + 0 - 1)) 4 = ((l : Nat) : Int) := by rw [← hX]; exact seal_lane _ _ l _ _ 0 hl
  have hXn : getI ((X.drop (0 + 5)).take (29 + 0 - 5)) 8 = ((n : Nat) : Int) := by rw [← hX]; exact seal_num _ _ _ n _ 0 hn
  have hXm : mo (((sMac M X (13 + 0)).drop 0).take 16) ((X.drop (13 + 0)).take 16) 16 = 0 := by rw [← hX]; exact seal_mo _ _ _ _ _ _
  have hXs : streamN C (fiL X) ((X.drop (0 + 13)).take 0) 0 = [] := by rw [← hX]; exact seal_back' _ _ _ _ _ _ rfl U8_nil
  refine acall_gen2 (args0 := [.agg [.ints .u8 32 M, .ints .u8 16 C, .one (.int .u32 ((l : Nat) : Int)), .one (.int .u64 ((n : Nat) : Int))], .s (.val (.slice a 0 c))]) (H0 := []) (Hf := []) (v0 := .s (.bool true)) [] [] Try.func11 rfl Try.ntmps11 (by simp) rfl
    (fun k id sh b0 h1 h2 => by simp at h1) (fun W ρ vals w hH ha k id' sh' hk => by simp at hk) rfl rfl rfl (by decide) rfl rfl rfl (fun W w ρ0 hW hdom => ?_)
  refine w_seq ?_
  refine c_reg (by kernel_rfl) rfl ?_
  refine s_a (by first | exact h_box_agg rfl rfl | exact h_box rfl (by simp) rfl) rfl ?_
  refine s_p (by first | exact h_assign (v := .s _) rfl | exact h_assign (v := .agg _) rfl | exact h_assign (v := .tup _) rfl) ?_
  refine s_nil ?_
  refine n_wp ?_
  refine w_seq ?_
  refine c_reg (by kernel_rfl) rfl ?_
  refine s_p (h_field rfl Try.underlying63 rfl Try.sizeOf56 (by decide)) ?_
  refine s_p (h_load_agg rfl rfl (.two (m := 32) (n := 16) rfl rfl (.seg rfl rfl)) Try.isAgg56 Try.sizeOf56) ?_
  refine s_p (h_field rfl Try.underlying63 rfl Try.sizeOf61 (by decide)) ?_
  refine s_p (by first | exact h_load_ints rfl rfl rfl (by omega) rfl Try.isAgg61 | exact h_load_one rfl rfl rfl Try.isAgg61) ?_
  refine s_p (h_field rfl Try.underlying63 rfl Try.sizeOf40 (by decide)) ?_
  refine s_p (by first | exact h_load_ints rfl rfl rfl (by omega) rfl Try.isAgg40 | exact h_load_one rfl rfl rfl Try.isAgg40) ?_
  refine s_p (by first | exact h_move (v := .s _) rfl | exact h_move (v := .agg _) rfl | exact h_move (v := .tup _) rfl) ?_
  refine s_a (h_call callable_35 rfl ((show ACall _ _ _ _ _ [⟨true, [.ints .u8 (29 + 0) X]⟩] by rw [← hX]; exact seal_v _ M C l n hM hC hC8 hl a c))) rfl ?_
  refine s_p (by first | exact h_move (v := .s _) rfl | exact h_move (v := .agg _) rfl | exact h_move (v := .tup _) rfl) ?_
  refine s_p (h_extract rfl rfl (by simp)) ?_
  refine s_p (h_extract rfl rfl (by simp)) ?_
  refine s_p (by first | exact h_assign (v := .s _) rfl | exact h_assign (v := .agg _) rfl | exact h_assign (v := .tup _) rfl) ?_
  refine s_p (by first | exact h_assign (v := .s _) rfl | exact h_assign (v := .agg _) rfl | exact h_assign (v := .tup _) rfl) ?_
  refine s_nil ?_
  refine n_wp ?_
  refine w_seq ?_
  refine w_seq ?_
  refine c_reg (by kernel_rfl) rfl ?_
  refine s_p (by first | exact h_move (v := .s _) rfl | exact h_move (v := .agg _) rfl | exact h_move (v := .tup _) rfl) ?_
  refine s_p (by first | exact h_len rfl Try.underlying29 | exact h_len_nil rfl Try.underlying29 | exact h_len_val rfl Try.underlying29) ?_
  refine s_p (h_bin rfl rfl (b_gtr rfl)) ?_
  refine s_nil ?_
  refine n_wp ?_
  refine w_cond rfl (fun hc_t28 => ?_) (fun hc_t28 => ?_)
  · exact absurd hc_t28 (by decide)
  refine w_skip ?_
  refine n_wp ?_
  refine w_seq ?_
  refine c_reg (by kernel_rfl) rfl ?_
  refine s_p (h_field rfl Try.underlying63 rfl Try.sizeOf56 (by decide)) ?_
  refine s_p (h_load_agg rfl rfl (.two (m := 32) (n := 16) rfl rfl (.seg rfl rfl)) Try.isAgg56 Try.sizeOf56) ?_
  refine s_p (h_field rfl Try.underlying63 rfl Try.sizeOf61 (by decide)) ?_
  refine s_p (by first | exact h_load_ints rfl rfl rfl (by omega) rfl Try.isAgg61 | exact h_load_one rfl rfl rfl Try.isAgg61) ?_
  refine s_p (h_field rfl Try.underlying63 rfl Try.sizeOf40 (by decide)) ?_
  refine s_p (by first | exact h_load_ints rfl rfl rfl (by omega) rfl Try.isAgg40 | exact h_load_one rfl rfl rfl Try.isAgg40) ?_
  refine s_p (by first | exact h_move (v := .s _) rfl | exact h_move (v := .agg _) rfl | exact h_move (v := .tup _) rfl) ?_
  refine s_a (h_call callable_35 rfl ((show ACall _ _ _ _ _ [⟨true, [.ints .u8 (29 + 0) X]⟩] by rw [← hX]; exact seal_v _ M C l n hM hC hC8 hl a c))) rfl ?_
  refine s_p (by first | exact h_move (v := .s _) rfl | exact h_move (v := .agg _) rfl | exact h_move (v := .tup _) rfl) ?_
  refine s_p (h_extract rfl rfl (by simp)) ?_
  refine s_p (h_extract rfl rfl (by simp)) ?_
  refine s_p (by first | exact h_assign (v := .s _) rfl | exact h_assign (v := .agg _) rfl | exact h_assign (v := .tup _) rfl) ?_
  refine s_p (by first | exact h_assign (v := .s _) rfl | exact h_assign (v := .agg _) rfl | exact h_assign (v := .tup _) rfl) ?_
  refine s_nil ?_
  refine n_wp ?_
  refine w_seq ?_
  refine c_reg (by kernel_rfl) rfl ?_
  refine s_p (h_field rfl Try.underlying63 rfl Try.sizeOf56 (by decide)) ?_
  refine s_p (h_load_agg rfl rfl (.two (m := 32) (n := 16) rfl rfl (.seg rfl rfl)) Try.isAgg56 Try.sizeOf56) ?_
  refine s_p (by first | exact h_move (v := .s _) rfl | exact h_move (v := .agg _) rfl | exact h_move (v := .tup _) rfl) ?_
  refine s_p (h_call callable_37 rfl (open_ok0 _ M C 0 hM hC hC8 1 0 (29 + 0) (29 + 0) X _ hXl (Nat.le_refl _) (by omega) rfl (fun i y hy => by rw [Nat.zero_add i]; exact hy) hX8 rfl (by omega) hX9 l hl hXg hXm rfl)) ?_
  refine s_p (by first | exact h_move (v := .s _) rfl | exact h_move (v := .agg _) rfl | exact h_move (v := .tup _) rfl) ?_
  refine s_p (h_extract rfl rfl (by simp)) ?_
  refine s_p (h_extract rfl rfl (by simp)) ?_
  refine s_p (h_extract rfl rfl (by simp)) ?_
  refine s_p (h_extract rfl rfl (by simp)) ?_
  refine s_p (by first | exact h_assign (v := .s _) rfl | exact h_assign (v := .agg _) rfl | exact h_assign (v := .tup _) rfl) ?_
  refine s_p (by first | exact h_assign (v := .s _) rfl | exact h_assign (v := .agg _) rfl | exact h_assign (v := .tup _) rfl) ?_
  refine s_p (by first | exact h_assign (v := .s _) rfl | exact h_assign (v := .agg _) rfl | exact h_assign (v := .tup _) rfl) ?_
  refine s_p (by first | exact h_assign (v := .s _) rfl | exact h_assign (v := .agg _) rfl | exact h_assign (v := .tup _) rfl) ?_
  refine s_nil ?_
  refine n_wp ?_
  refine w_seq ?_
  refine c_reg (by kernel_rfl) rfl ?_
  refine s_p (by first | exact h_move (v := .s _) rfl | exact h_move (v := .agg _) rfl | exact h_move (v := .tup _) rfl) ?_
  refine s_p (h_call callable_38 rfl (Lane_ok _ 1 0 (29 + 0) (29 + 0) X _ hXl (Nat.le_refl _) (by omega) rfl (fun i y hy => by rw [Nat.zero_add i]; exact hy) (by omega) (by omega) hX9 l hl hXg)) ?_
  refine s_p (by first | exact h_move (v := .s _) rfl | exact h_move (v := .agg _) rfl | exact h_move (v := .tup _) rfl) ?_
  refine s_p (h_extract rfl rfl (by simp)) ?_
  refine s_p (h_extract rfl rfl (by simp)) ?_
  refine s_p (by first | exact h_assign (v := .s _) rfl | exact h_assign (v := .agg _) rfl | exact h_assign (v := .tup _) rfl) ?_
  refine s_p (by first | exact h_assign (v := .s _) rfl | exact h_assign (v := .agg _) rfl | exact h_assign (v := .tup _) rfl) ?_
  refine s_nil ?_
  refine n_wp ?_
  refine w_seq ?_
  refine c_reg (by kernel_rfl) rfl ?_
  refine s_p (h_call callable_36 rfl (alive19 _)) ?_
  refine s_p (by first | exact h_move (v := .s _) rfl | exact h_move (v := .agg _) rfl | exact h_move (v := .tup _) rfl) ?_
  first | refine s_on rfl rfl (by first | rfl | assumption) (by first | exact h_move (v := .s _) rfl | exact h_move (v := .agg _) rfl | exact h_move (v := .tup _) rfl) ?_ | refine s_off rfl rfl (by first | rfl | assumption) ?_
  first | refine s_on rfl rfl (by first | rfl | assumption) (h_bin rfl rfl (b_eql (decide_eq_true rfl))) ?_ | refine s_off rfl rfl (by first | rfl | assumption) ?_
  refine s_p (by first | exact h_pick_t rfl (by first | rfl | assumption) rfl | exact h_pick_f rfl (by first | rfl | assumption) rfl) ?_
  refine s_p (by first | exact h_move (v := .s _) rfl | exact h_move (v := .agg _) rfl | exact h_move (v := .tup _) rfl) ?_
  first | refine s_on rfl rfl (by first | rfl | assumption) (by first | exact h_move (v := .s _) rfl | exact h_move (v := .agg _) rfl | exact h_move (v := .tup _) rfl) ?_ | refine s_off rfl rfl (by first | rfl | assumption) ?_
  first | refine s_on rfl rfl (by first | rfl | assumption) (h_bin rfl rfl (b_eql (decide_eq_true rfl))) ?_ | refine s_off rfl rfl (by first | rfl | assumption) ?_
  refine s_p (by first | exact h_pick_t rfl (by first | rfl | assumption) rfl | exact h_pick_f rfl (by first | rfl | assumption) rfl) ?_
  refine s_p (by first | exact h_move (v := .s _) rfl | exact h_move (v := .agg _) rfl | exact h_move (v := .tup _) rfl) ?_
  first | refine s_on rfl rfl (by first | rfl | assumption) (by first | exact h_move (v := .s _) rfl | exact h_move (v := .agg _) rfl | exact h_move (v := .tup _) rfl) ?_ | refine s_off rfl rfl (by first | rfl | assumption) ?_
  first | refine s_on rfl rfl (by first | rfl | assumption) (h_bin rfl rfl (b_eql (decide_eq_true rfl))) ?_ | refine s_off rfl rfl (by first | rfl | assumption) ?_
  refine s_p (by first | exact h_pick_t rfl (by first | rfl | assumption) rfl | exact h_pick_f rfl (by first | rfl | assumption) rfl) ?_
  refine s_p (by first | exact h_move (v := .s _) rfl | exact h_move (v := .agg _) rfl | exact h_move (v := .tup _) rfl) ?_
  first | refine s_on rfl rfl (by first | rfl | assumption) (by first | exact h_move (v := .s _) rfl | exact h_move (v := .agg _) rfl | exact h_move (v := .tup _) rfl) ?_ | refine s_off rfl rfl (by first | rfl | assumption) ?_
  first | refine s_on rfl rfl (by first | rfl | assumption) (h_bin rfl rfl (b_eql (decide_eq_true rfl))) ?_ | refine s_off rfl rfl (by first | rfl | assumption) ?_
  refine s_p (by first | exact h_pick_t rfl (by first | rfl | assumption) rfl | exact h_pick_f rfl (by first | rfl | assumption) rfl) ?_
  refine s_p (by first | exact h_move (v := .s _) rfl | exact h_move (v := .agg _) rfl | exact h_move (v := .tup _) rfl) ?_
  first | refine s_on rfl rfl (by first | rfl | assumption) (by first | exact h_move (v := .s _) rfl | exact h_move (v := .agg _) rfl | exact h_move (v := .tup _) rfl) ?_ | refine s_off rfl rfl (by first | rfl | assumption) ?_
  first | refine s_on rfl rfl (by first | rfl | assumption) (by first | exact h_len rfl Try.underlying29 | exact h_len_nil rfl Try.underlying29 | exact h_len_val rfl Try.underlying29) ?_ | refine s_off rfl rfl (by first | rfl | assumption) ?_
  first | refine s_on rfl rfl (by first | rfl | assumption) (by first | exact h_move (v := .s _) rfl | exact h_move (v := .agg _) rfl | exact h_move (v := .tup _) rfl) ?_ | refine s_off rfl rfl (by first | rfl | assumption) ?_
  first | refine s_on rfl rfl (by first | rfl | assumption) (by first | exact h_len rfl Try.underlying29 | exact h_len_nil rfl Try.underlying29 | exact h_len_val rfl Try.underlying29) ?_ | refine s_off rfl rfl (by first | rfl | assumption) ?_
  first | refine s_on rfl rfl (by first | rfl | assumption) (h_bin rfl rfl (b_add (r := ((0 + 29 : Nat) : Int)) (wr_n (by omega) (by omega)))) ?_ | refine s_off rfl rfl (by first | rfl | assumption) ?_
  first | refine s_on rfl rfl (by first | rfl | assumption) (h_bin rfl rfl (b_eql (decide_eq_true (by omega)))) ?_ | refine s_off rfl rfl (by first | rfl | assumption) ?_
  refine s_p (by first | exact h_pick_t rfl (by first | rfl | assumption) rfl | exact h_pick_f rfl (by first | rfl | assumption) rfl) ?_
  refine s_p (by first | exact h_move (v := .s _) rfl | exact h_move (v := .agg _) rfl | exact h_move (v := .tup _) rfl) ?_
  first | refine s_on rfl rfl (by first | rfl | assumption) (by first | exact h_move (v := .s _) rfl | exact h_move (v := .agg _) rfl | exact h_move (v := .tup _) rfl) ?_ | refine s_off rfl rfl (by first | rfl | assumption) ?_
  first | refine s_on rfl rfl (by first | rfl | assumption) (by first | exact h_move (v := .s _) rfl | exact h_move (v := .agg _) rfl | exact h_move (v := .tup _) rfl) ?_ | refine s_off rfl rfl (by first | rfl | assumption) ?_
  first | refine s_on rfl rfl (by first | rfl | assumption) (h_call callable_27 rfl (same_ss X (29 + 0) _ _ (by omega) _ 1 0 0 (29 + 0) _ X rfl rfl (by omega) (by rw [List.drop_zero, List.take_of_length_le (Nat.le_of_eq hXl)]) 2 0 0 (29 + 0) _ X rfl rfl (by omega) (by rw [List.drop_zero, List.take_of_length_le (Nat.le_of_eq hXl)]))) ?_ | refine s_off rfl rfl (by first | rfl | assumption) ?_
  refine s_p (by first | exact h_pick_t rfl (by first | rfl | assumption) rfl | exact h_pick_f rfl (by first | rfl | assumption) rfl) ?_
  refine s_p (by first | exact h_move (v := .s _) rfl | exact h_move (v := .agg _) rfl | exact h_move (v := .tup _) rfl) ?_
  first | refine s_on rfl rfl (by first | rfl | assumption) (by first | exact h_move (v := .s _) rfl | exact h_move (v := .agg _) rfl | exact h_move (v := .tup _) rfl) ?_ | refine s_off rfl rfl (by first | rfl | assumption) ?_
  first | refine s_on rfl rfl (by first | rfl | assumption) (h_field rfl Try.underlying63 rfl Try.sizeOf61 (by decide)) ?_ | refine s_off rfl rfl (by first | rfl | assumption) ?_
  first | refine s_on rfl rfl (by first | rfl | assumption) (by first | exact h_load_ints rfl rfl rfl (by omega) rfl Try.isAgg61 | exact h_load_one rfl rfl rfl Try.isAgg61) ?_ | refine s_off rfl rfl (by first | rfl | assumption) ?_
  first | refine s_on rfl rfl (by first | rfl | assumption) (h_bin rfl rfl (b_eql (decide_eq_true rfl))) ?_ | refine s_off rfl rfl (by first | rfl | assumption) ?_
  refine s_p (by first | exact h_pick_t rfl (by first | rfl | assumption) rfl | exact h_pick_f rfl (by first | rfl | assumption) rfl) ?_
  refine s_p (by first | exact h_move (v := .s _) rfl | exact h_move (v := .agg _) rfl | exact h_move (v := .tup _) rfl) ?_
  first | refine s_on rfl rfl (by first | rfl | assumption) (by first | exact h_move (v := .s _) rfl | exact h_move (v := .agg _) rfl | exact h_move (v := .tup _) rfl) ?_ | refine s_off rfl rfl (by first | rfl | assumption) ?_
  first | refine s_on rfl rfl (by first | rfl | assumption) (h_field rfl Try.underlying63 rfl Try.sizeOf40 (by decide)) ?_ | refine s_off rfl rfl (by first | rfl | assumption) ?_
  first | refine s_on rfl rfl (by first | rfl | assumption) (by first | exact h_load_ints rfl rfl rfl (by omega) rfl Try.isAgg40 | exact h_load_one rfl rfl rfl Try.isAgg40) ?_ | refine s_off rfl rfl (by first | rfl | assumption) ?_
  first | refine s_on rfl rfl (by first | rfl | assumption) (h_bin rfl rfl (b_eql (decide_eq_true hXn))) ?_ | refine s_off rfl rfl (by first | rfl | assumption) ?_
  refine s_p (by first | exact h_pick_t rfl (by first | rfl | assumption) rfl | exact h_pick_f rfl (by first | rfl | assumption) rfl) ?_
  refine s_p (by first | exact h_move (v := .s _) rfl | exact h_move (v := .agg _) rfl | exact h_move (v := .tup _) rfl) ?_
  first | refine s_on rfl rfl (by first | rfl | assumption) (by first | exact h_move (v := .s _) rfl | exact h_move (v := .agg _) rfl | exact h_move (v := .tup _) rfl) ?_ | refine s_off rfl rfl (by first | rfl | assumption) ?_
  first | refine s_on rfl rfl (by first | rfl | assumption) (by first | exact h_move (v := .s _) rfl | exact h_move (v := .agg _) rfl | exact h_move (v := .tup _) rfl) ?_ | refine s_off rfl rfl (by first | rfl | assumption) ?_
  first | refine s_on rfl rfl (by first | rfl | assumption) (h_bin rfl rfl (b_eql (decide_eq_true rfl))) ?_ | refine s_off rfl rfl (by first | rfl | assumption) ?_
  refine s_p (by first | exact h_pick_t rfl (by first | rfl | assumption) rfl | exact h_pick_f rfl (by first | rfl | assumption) rfl) ?_
  refine s_p (by first | exact h_move (v := .s _) rfl | exact h_move (v := .agg _) rfl | exact h_move (v := .tup _) rfl) ?_
  first | refine s_on rfl rfl (by first | rfl | assumption) (by first | exact h_move (v := .s _) rfl | exact h_move (v := .agg _) rfl | exact h_move (v := .tup _) rfl) ?_ | refine s_off rfl rfl (by first | rfl | assumption) ?_
  first | refine s_on rfl rfl (by first | rfl | assumption) (by first | exact h_move (v := .s _) rfl | exact h_move (v := .agg _) rfl | exact h_move (v := .tup _) rfl) ?_ | refine s_off rfl rfl (by first | rfl | assumption) ?_
  first | refine s_on rfl rfl (by first | rfl | assumption) (h_call callable_27 rfl (same_nv a c _)) ?_ | refine s_off rfl rfl (by first | rfl | assumption) ?_
  refine s_p (by first | exact h_pick_t rfl (by first | rfl | assumption) rfl | exact h_pick_f rfl (by first | rfl | assumption) rfl) ?_
  refine s_p (by first | exact h_assign (v := .s _) rfl | exact h_assign (v := .agg _) rfl | exact h_assign (v := .tup _) rfl) ?_
  refine s_nil ?_
  refine n_wp ?_
  refine w_ret ?_
  exact doneM (by repeat (first | exact trivial | refine ⟨rfl, ?_⟩)) (ret_tmp Try.results11 rfl)
set_option maxRecDepth 100000 in
set_option maxHeartbeats 2000000 in
theorem back_big (H : Heap) (M C : List Int) (l n : Nat) (a : Option Addr) (k c : Nat) (hk : 2019 < k) : ACall Try.prog 11 H [.agg [.ints .u8 32 M, .ints .u8 16 C, .one (.int .u32 ((l : Nat) : Int)), .one (.int .u64 ((n : Nat) : Int))], .s (.val (.slice a k c))] (.s (.bool true)) [] := by
  refine acall_gen2 (args0 := [.agg [.ints .u8 32 M, .ints .u8 16 C, .one (.int .u32 ((l : Nat) : Int)), .one (.int .u64 ((n : Nat) : Int))], .s (.val (.slice a k c))]) (H0 := []) (Hf := []) (v0 := .s (.bool true)) [] [] Try.func11 rfl Try.ntmps11 (by simp) rfl
    (fun k id sh b0 h1 h2 => by simp at h1) (fun W ρ vals w hH ha k id' sh' hk => by simp at hk) rfl rfl rfl (by decide) rfl rfl rfl (fun W w ρ0 hW hdom => ?_)
  refine w_seq ?_
  refine c_reg (by kernel_rfl) rfl ?_
  refine s_a (by first | exact h_box_agg rfl rfl | exact h_box rfl (by simp) rfl) rfl ?_
  refine s_p (by first | exact h_assign (v := .s _) rfl | exact h_assign (v := .agg _) rfl | exact h_assign (v := .tup _) rfl) ?_
  refine s_nil ?_
  refine n_wp ?_
  refine w_seq ?_
  refine c_reg (by kernel_rfl) rfl ?_
  refine s_p (h_field rfl Try.underlying63 rfl Try.sizeOf56 (by decide)) ?_
  refine s_p (h_load_agg rfl rfl (.two (m := 32) (n := 16) rfl rfl (.seg rfl rfl)) Try.isAgg56 Try.sizeOf56) ?_
  refine s_p (h_field rfl Try.underlying63 rfl Try.sizeOf61 (by decide)) ?_
  refine s_p (by first | exact h_load_ints rfl rfl rfl (by omega) rfl Try.isAgg61 | exact h_load_one rfl rfl rfl Try.isAgg61) ?_
  refine s_p (h_field rfl Try.underlying63 rfl Try.sizeOf40 (by decide)) ?_
  refine s_p (by first | exact h_load_ints rfl rfl rfl (by omega) rfl Try.isAgg40 | exact h_load_one rfl rfl rfl Try.isAgg40) ?_
  refine s_p (by first | exact h_move (v := .s _) rfl | exact h_move (v := .agg _) rfl | exact h_move (v := .tup _) rfl) ?_
  refine s_p (h_call callable_35 rfl (seal_big _ M C ((l : Nat) : Int) ((n : Nat) : Int) a k c hk)) ?_
  refine s_p (by first | exact h_move (v := .s _) rfl | exact h_move (v := .agg _) rfl | exact h_move (v := .tup _) rfl) ?_
  refine s_p (h_extract rfl rfl (by simp)) ?_
  refine s_p (h_extract rfl rfl (by simp)) ?_
  refine s_p (by first | exact h_assign (v := .s _) rfl | exact h_assign (v := .agg _) rfl | exact h_assign (v := .tup _) rfl) ?_
  refine s_p (by first | exact h_assign (v := .s _) rfl | exact h_assign (v := .agg _) rfl | exact h_assign (v := .tup _) rfl) ?_
  refine s_nil ?_
  refine n_wp ?_
  refine w_seq ?_
  refine w_seq ?_
  refine c_reg (by kernel_rfl) rfl ?_
  refine s_p (by first | exact h_move (v := .s _) rfl | exact h_move (v := .agg _) rfl | exact h_move (v := .tup _) rfl) ?_
  refine s_p (by first | exact h_len rfl Try.underlying29 | exact h_len_nil rfl Try.underlying29 | exact h_len_val rfl Try.underlying29) ?_
  refine s_p (h_bin rfl rfl (b_gtr rfl)) ?_
  refine s_nil ?_
  refine n_wp ?_
  refine w_cond rfl (fun hc_t28 => ?_) (fun hc_t28 => ?_)
  rotate_left
  · exact absurd hc_t28 (by intro h; have := of_decide_eq_false h; omega)
  refine w_seq ?_
  refine c_reg (by kernel_rfl) rfl ?_
  refine s_p (h_call callable_36 rfl (alive19 _)) ?_
  refine s_p (by first | exact h_move (v := .s _) rfl | exact h_move (v := .agg _) rfl | exact h_move (v := .tup _) rfl) ?_
  first | refine s_on rfl rfl (by first | rfl | assumption) (by first | exact h_move (v := .s _) rfl | exact h_move (v := .agg _) rfl | exact h_move (v := .tup _) rfl) ?_ | refine s_off rfl rfl (by first | rfl | assumption) ?_
  first | refine s_on rfl rfl (by first | rfl | assumption) (h_bin rfl rfl (b_eql (decide_eq_true rfl))) ?_ | refine s_off rfl rfl (by first | rfl | assumption) ?_
  refine s_p (by first | exact h_pick_t rfl (by first | rfl | assumption) rfl | exact h_pick_f rfl (by first | rfl | assumption) rfl) ?_
  refine s_p (by first | exact h_move (v := .s _) rfl | exact h_move (v := .agg _) rfl | exact h_move (v := .tup _) rfl) ?_
  first | refine s_on rfl rfl (by first | rfl | assumption) (by first | exact h_move (v := .s _) rfl | exact h_move (v := .agg _) rfl | exact h_move (v := .tup _) rfl) ?_ | refine s_off rfl rfl (by first | rfl | assumption) ?_
  first | refine s_on rfl rfl (by first | rfl | assumption) (by first | exact h_len rfl Try.underlying29 | exact h_len_nil rfl Try.underlying29 | exact h_len_val rfl Try.underlying29) ?_ | refine s_off rfl rfl (by first | rfl | assumption) ?_
  first | refine s_on rfl rfl (by first | rfl | assumption) (h_bin rfl rfl (b_eql (decide_eq_true rfl))) ?_ | refine s_off rfl rfl (by first | rfl | assumption) ?_
  refine s_p (by first | exact h_pick_t rfl (by first | rfl | assumption) rfl | exact h_pick_f rfl (by first | rfl | assumption) rfl) ?_
  refine s_p (by first | exact h_assign (v := .s _) rfl | exact h_assign (v := .agg _) rfl | exact h_assign (v := .tup _) rfl) ?_
  refine s_nil ?_
  refine n_wp ?_
  refine w_ret ?_
  refine r_thn ?_
  exact doneM (by repeat (first | exact trivial | refine ⟨rfl, ?_⟩)) (ret_tmp Try.results11 rfl)
end Go.Proofs.X
