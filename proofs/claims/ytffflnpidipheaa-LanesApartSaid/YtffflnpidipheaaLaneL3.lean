/- A part of the proofs of this claim: LaneL3 (LaneL3). No conditions. -/
import Derived.Test.YtffflnpidipheaaLaneL1
import Derived.Test.YtffflnpidipheaaSameW
set_option linter.unusedVariables false
set_option linter.unusedSimpArgs false
open Go Go.Ab Go.Proofs
namespace Go.Proofs.X
theorem callable_19 : Callable Try.prog 19 := ⟨_, Try.func19, by kernel_rfl, rfl⟩
set_option maxRecDepth 100000 in
set_option maxHeartbeats 2000000 in
theorem apart_s (M C M2 C2 : List Int) (n0 n1 : Nat) (hM : M.length = 32) (hC : C.length = 16) (hC8 : U8 C) (hM2 : M2.length = 32) (hC2 : C2.length = 16) (hn0 : n0 < 4294967296) (hn1 : n1 < 4294967296) (len cap : Nat) (B : List Int) (h8 : U8 B) (hBl : B.length = len) (hcap : len ≤ cap) (h0 : 0 < len) (h2k : len ≤ 2019) (hnn : n0 ≠ n1) (cd : Code) (hc : Try.f19.body = some cd) (W : Nat → Prop) (w : World) (ρ0 : Rho) (hW : ∀ b, w.heap.size ≤ b → W b) (hdom : ∀ id, 1 ≤ id → ρ0 id = none) :
    Wp ⟨Try.prog, W, w, ρ0, 112, 1, hW, hdom⟩ cd (argT 0 [.agg [.ints .u8 32 M, .ints .u8 16 C, .ints .u8 32 M2, .ints .u8 16 C2], .agg [.ints .u32 2 [((n0 : Nat) : Int), ((n1 : Nat) : Int)]], .s (.slice 0 0 0 len cap)]) [some ⟨false, [.ints .u8 len B]⟩] (DoneF ⟨Try.prog, W, w, ρ0, 112, 1, hW, hdom⟩ Try.f19 (.s (.bool true))) := by
  obtain ⟨X, hX⟩ : ∃ L : List Int, (sealL M C ((n0 : Nat) : Int) ((0 + 1 : Nat) : Int) B len) = L := ⟨_, rfl⟩
  have hXl : X.length = 29 + len := by rw [← hX]; exact sealL_len _ _ _ _ _ _
  have hX8 : U8 X := by rw [← hX]; exact U8_seal _ _ _ _ _ _
  have hX9 : X.getD 0 0 = 9 := by rw [← hX]; exact seal_nine _ _ _ _ _ _
  have hXg : getI ((X.drop (0 + 1)).take (29 + len - 1)) 4 = ((n0 : Nat) : Int) := by rw [← hX]; exact seal_lane _ _ n0 _ _ len hn0
  have hXn : getI ((X.drop (0 + 5)).take (29 + len - 5)) 8 = ((0 + 1 : Nat) : Int) := by rw [← hX]; exact seal_num _ _ _ (0 + 1) _ len (by omega)
  have hXm : mo (((sMac M X (13 + len)).drop 0).take 16) ((X.drop (13 + len)).take 16) 16 = 0 := by rw [← hX]; exact seal_mo _ _ _ _ _ _
  have hXs : (streamN C (fiL X) ((X.drop (0 + 13)).take len) len) = B := by rw [← hX]; exact seal_back' _ _ _ _ _ _ hBl h8
  cases hc
  refine w_seq ?_
  refine c_reg (by kernel_rfl) rfl ?_
  refine s_a (by first | exact h_box_agg rfl rfl | exact h_box rfl (by simp) rfl) rfl ?_
  refine s_a (by first | exact h_box_agg rfl rfl | exact h_box rfl (by simp) rfl) rfl ?_
  refine s_p (by first | exact h_assign (v := .s _) rfl | exact h_assign (v := .agg _) rfl | exact h_assign (v := .tup _) rfl) ?_
  refine s_nil ?_
  refine n_wp ?_
  refine w_seq ?_
  refine w_seq ?_
  refine c_reg (by kernel_rfl) rfl ?_
  refine s_p (h_call callable_44 rfl (alive20 _)) ?_
  refine s_p (h_not rfl) ?_
  refine s_p (by first | exact h_move (v := .s _) rfl | exact h_move (v := .agg _) rfl | exact h_move (v := .tup _) rfl) ?_
  first | refine s_on rfl rfl (by first | rfl | assumption) (by first | exact h_move (v := .s _) rfl | exact h_move (v := .agg _) rfl | exact h_move (v := .tup _) rfl) ?_ | refine s_off rfl rfl (by first | rfl | assumption) ?_
  first | refine s_on rfl rfl (by first | rfl | assumption) (by first | exact h_len rfl Try.underlying29 | exact h_len_nil rfl Try.underlying29 | exact h_len_val rfl Try.underlying29) ?_ | refine s_off rfl rfl (by first | rfl | assumption) ?_
  first | refine s_on rfl rfl (by first | rfl | assumption) (h_bin rfl rfl (b_gtr (decide_eq_false (by omega)))) ?_ | refine s_off rfl rfl (by first | rfl | assumption) ?_
  refine s_p (by first | exact h_pick_t rfl (by first | rfl | assumption) rfl | exact h_pick_f rfl (by first | rfl | assumption) rfl) ?_
  refine s_p (by first | exact h_move (v := .s _) rfl | exact h_move (v := .agg _) rfl | exact h_move (v := .tup _) rfl) ?_
  first | refine s_on rfl rfl (by first | rfl | assumption) (h_ixl 0 rfl rfl rfl Try.underlying100 Try.sizeOf61 (by omega)) ?_ | refine s_off rfl rfl (by first | rfl | assumption) ?_
  first | refine s_on rfl rfl (by first | rfl | assumption) (by first | exact h_load_ints rfl rfl rfl (by omega) rfl Try.isAgg61 | exact h_load_one rfl rfl rfl Try.isAgg61) ?_ | refine s_off rfl rfl (by first | rfl | assumption) ?_
  first | refine s_on rfl rfl (by first | rfl | assumption) (h_ixl 1 rfl rfl rfl Try.underlying100 Try.sizeOf61 (by omega)) ?_ | refine s_off rfl rfl (by first | rfl | assumption) ?_
  first | refine s_on rfl rfl (by first | rfl | assumption) (by first | exact h_load_ints rfl rfl rfl (by omega) rfl Try.isAgg61 | exact h_load_one rfl rfl rfl Try.isAgg61) ?_ | refine s_off rfl rfl (by first | rfl | assumption) ?_
  first | refine s_on rfl rfl (by first | rfl | assumption) (h_bin rfl rfl (b_eql (decide_eq_false (fun h => by have h : ((n0 : Nat) : Int) = ((n1 : Nat) : Int) := h; omega)))) ?_ | refine s_off rfl rfl (by first | rfl | assumption) ?_
  refine s_p (by first | exact h_pick_t rfl (by first | rfl | assumption) rfl | exact h_pick_f rfl (by first | rfl | assumption) rfl) ?_
  refine s_nil ?_
  refine n_wp ?_
  refine w_cond rfl (fun hc_t35 => ?_) (fun hc_t35 => ?_)
  · exact absurd hc_t35 (by simp)
  refine w_skip ?_
  refine n_wp ?_
  refine w_seq ?_
  refine c_reg (by kernel_rfl) rfl ?_
  refine s_p (by first | exact h_ixwl 0 rfl rfl rfl Try.underlying99 Try.sizeOf56 (by omega) | exact h_ixgl 0 rfl rfl rfl Try.underlying99 Try.sizeOf56 (by omega)) ?_
  refine s_p (h_load_agg rfl rfl (.two (m := 32) (n := 16) rfl rfl (.seg rfl rfl)) Try.isAgg56 Try.sizeOf56) ?_
  refine s_p (h_ixl 0 rfl rfl rfl Try.underlying100 Try.sizeOf61 (by omega)) ?_
  refine s_p (by first | exact h_load_ints rfl rfl rfl (by omega) rfl Try.isAgg61 | exact h_load_one rfl rfl rfl Try.isAgg61) ?_
  refine s_a (h_call callable_46 rfl (NewOut_c _ M C n0)) rfl ?_
  refine s_p (by first | exact h_assign (v := .s _) rfl | exact h_assign (v := .agg _) rfl | exact h_assign (v := .tup _) rfl) ?_
  refine s_nil ?_
  refine n_wp ?_
  refine w_seq ?_
  refine c_reg (by kernel_rfl) rfl ?_
  refine s_p (by first | exact h_ixwl 1 rfl rfl rfl Try.underlying99 Try.sizeOf56 (by omega) | exact h_ixgl 1 rfl rfl rfl Try.underlying99 Try.sizeOf56 (by omega)) ?_
  refine s_p (h_load_agg rfl rfl (.two (m := 32) (n := 16) rfl rfl (.seg rfl rfl)) Try.isAgg56 Try.sizeOf56) ?_
  refine s_p (h_ixl 1 rfl rfl rfl Try.underlying100 Try.sizeOf61 (by omega)) ?_
  refine s_p (by first | exact h_load_ints rfl rfl rfl (by omega) rfl Try.isAgg61 | exact h_load_one rfl rfl rfl Try.isAgg61) ?_
  refine s_nb (h_call callable_47 rfl (NewIn_c _ M2 C2 n1)) rfl ?_
  refine s_p (by first | exact h_assign (v := .s _) rfl | exact h_assign (v := .agg _) rfl | exact h_assign (v := .tup _) rfl) ?_
  refine s_nil ?_
  refine n_wp ?_
  refine w_seq ?_
  refine c_reg (by kernel_rfl) rfl ?_
  refine s_p (by first | exact h_ixwl 0 rfl rfl rfl Try.underlying99 Try.sizeOf56 (by omega) | exact h_ixgl 0 rfl rfl rfl Try.underlying99 Try.sizeOf56 (by omega)) ?_
  refine s_p (h_load_agg rfl rfl (.two (m := 32) (n := 16) rfl rfl (.seg rfl rfl)) Try.isAgg56 Try.sizeOf56) ?_
  refine s_p (h_ixl 0 rfl rfl rfl Try.underlying100 Try.sizeOf61 (by omega)) ?_
  refine s_p (by first | exact h_load_ints rfl rfl rfl (by omega) rfl Try.isAgg61 | exact h_load_one rfl rfl rfl Try.isAgg61) ?_
  refine s_nb (h_call callable_47 rfl (NewIn_c _ M C n0)) rfl ?_
  refine s_heap (H' := [some ⟨false, [.ints .u8 len B]⟩, some ⟨true, [.ints .u8 32 M, .ints .u8 16 C, .ints .u8 32 M2, .ints .u8 16 C2]⟩, some ⟨true, [.ints .u32 2 [((n0 : Nat) : Int), ((n1 : Nat) : Int)]]⟩, some ⟨true, [.ints .u8 32 M, .ints .u8 16 C, .one (.int .u32 ((n0 : Nat) : Int)), .one (.int .i64 1), .one (.int .i64 ((0 : Nat) : Int))]⟩, some ⟨true, [.ints .i64 1 [1], .ints .u64 64 (z 64), .one (.int .u64 ((0 : Nat) : Int)), .one (.int .u64 ((0 : Nat) : Int))]⟩, some ⟨true, [.ints .u8 32 M2, .ints .u8 16 C2, .one (.int .u32 ((n1 : Nat) : Int)), .one (.int .i64 1), .one (.ptr 4 0 0)]⟩, some ⟨true, [.ints .i64 1 [1], .ints .u64 64 (z 64), .one (.int .u64 ((0 : Nat) : Int)), .one (.int .u64 ((0 : Nat) : Int))]⟩, some ⟨true, [.ints .u8 32 M, .ints .u8 16 C, .one (.int .u32 ((n0 : Nat) : Int)), .one (.int .i64 1), .one (.ptr 6 0 0)]⟩]) (by kernel_rfl) ?_
  refine s_p (by first | exact h_assign (v := .s _) rfl | exact h_assign (v := .agg _) rfl | exact h_assign (v := .tup _) rfl) ?_
  refine s_nil ?_
  refine n_wp ?_
  refine w_seq ?_
  refine c_reg (by kernel_rfl) rfl ?_
  refine s_p (by first | exact h_move (v := .s _) rfl | exact h_move (v := .agg _) rfl | exact h_move (v := .tup _) rfl) ?_
  refine s_p (by first | exact h_move (v := .s _) rfl | exact h_move (v := .agg _) rfl | exact h_move (v := .tup _) rfl) ?_
  refine s_m (m_call callable_39 rfl ((by have h := put_s [some ⟨false, [.ints .u8 len B]⟩, some ⟨true, [.ints .u8 32 M, .ints .u8 16 C, .ints .u8 32 M2, .ints .u8 16 C2]⟩, some ⟨true, [.ints .u32 2 [((n0 : Nat) : Int), ((n1 : Nat) : Int)]]⟩, some ⟨true, [.ints .u8 32 M, .ints .u8 16 C, .one (.int .u32 ((n0 : Nat) : Int)), .one (.int .i64 1), .one (.int .i64 ((0 : Nat) : Int))]⟩, some ⟨true, [.ints .i64 1 [1], .ints .u64 64 (z 64), .one (.int .u64 ((0 : Nat) : Int)), .one (.int .u64 ((0 : Nat) : Int))]⟩, some ⟨true, [.ints .u8 32 M2, .ints .u8 16 C2, .one (.int .u32 ((n1 : Nat) : Int)), .one (.int .i64 1), .one (.ptr 4 0 0)]⟩, some ⟨true, [.ints .i64 1 [1], .ints .u64 64 (z 64), .one (.int .u64 ((0 : Nat) : Int)), .one (.int .u64 ((0 : Nat) : Int))]⟩, some ⟨true, [.ints .u8 32 M, .ints .u8 16 C, .one (.int .u32 ((n0 : Nat) : Int)), .one (.int .i64 1), .one (.ptr 6 0 0)]⟩] 3 M C n0 0 rfl hM hC hC8 hn0 (by omega) 0 0 len cap B _ hBl hcap (by omega) rfl (fun i y hy => by rw [Nat.zero_add i]; exact hy) h0 h2k (by decide); rw [hX] at h; exact h))) ?_
  refine s_heap (H' := [some ⟨false, [.ints .u8 len B]⟩, some ⟨true, [.ints .u8 32 M, .ints .u8 16 C, .ints .u8 32 M2, .ints .u8 16 C2]⟩, some ⟨true, [.ints .u32 2 [((n0 : Nat) : Int), ((n1 : Nat) : Int)]]⟩, some ⟨true, [.ints .u8 32 M, .ints .u8 16 C, .one (.int .u32 ((n0 : Nat) : Int)), .one (.int .i64 1), .one (.int .i64 (((0 + 1) : Nat) : Int))]⟩, some ⟨true, [.ints .i64 1 [1], .ints .u64 64 (z 64), .one (.int .u64 ((0 : Nat) : Int)), .one (.int .u64 ((0 : Nat) : Int))]⟩, some ⟨true, [.ints .u8 32 M2, .ints .u8 16 C2, .one (.int .u32 ((n1 : Nat) : Int)), .one (.int .i64 1), .one (.ptr 4 0 0)]⟩, some ⟨true, [.ints .i64 1 [1], .ints .u64 64 (z 64), .one (.int .u64 ((0 : Nat) : Int)), .one (.int .u64 ((0 : Nat) : Int))]⟩, some ⟨true, [.ints .u8 32 M, .ints .u8 16 C, .one (.int .u32 ((n0 : Nat) : Int)), .one (.int .i64 1), .one (.ptr 6 0 0)]⟩, some ⟨true, [.ints .u8 (29 + len) X]⟩]) (by kernel_rfl) ?_
  refine s_p (by first | exact h_move (v := .s _) rfl | exact h_move (v := .agg _) rfl | exact h_move (v := .tup _) rfl) ?_
  refine s_p (h_extract rfl rfl (by simp)) ?_
  refine s_p (h_extract rfl rfl (by simp)) ?_
  refine s_p (h_extract rfl rfl (by simp)) ?_
  refine s_p (by first | exact h_assign (v := .s _) rfl | exact h_assign (v := .agg _) rfl | exact h_assign (v := .tup _) rfl) ?_
  refine s_p (by first | exact h_assign (v := .s _) rfl | exact h_assign (v := .agg _) rfl | exact h_assign (v := .tup _) rfl) ?_
  refine s_p (by first | exact h_assign (v := .s _) rfl | exact h_assign (v := .agg _) rfl | exact h_assign (v := .tup _) rfl) ?_
  refine s_nil ?_
  refine n_wp ?_
  refine w_seq ?_
  refine w_seq ?_
  refine c_reg (by kernel_rfl) rfl ?_
  refine s_p (by first | exact h_move (v := .s _) rfl | exact h_move (v := .agg _) rfl | exact h_move (v := .tup _) rfl) ?_
  refine s_p (by first | exact h_len rfl Try.underlying29 | exact h_len_nil rfl Try.underlying29 | exact h_len_val rfl Try.underlying29) ?_
  refine s_p (h_bin rfl rfl (b_lss (decide_eq_false (by omega)))) ?_
  refine s_nil ?_
  refine n_wp ?_
  refine w_cond rfl (fun hc_t61 => ?_) (fun hc_t61 => ?_)
  · exact absurd hc_t61 (by simp)
  refine w_skip ?_
  refine n_wp ?_
  refine w_seq ?_
  refine c_reg (by kernel_rfl) rfl ?_
  refine s_p (by first | exact h_move (v := .s _) rfl | exact h_move (v := .agg _) rfl | exact h_move (v := .tup _) rfl) ?_
  refine s_p (by first | exact h_move (v := .s _) rfl | exact h_move (v := .agg _) rfl | exact h_move (v := .tup _) rfl) ?_
  refine s_p (h_call callable_40 rfl ((take_none _ 5 4 M2 C2 n1 _ rfl rfl (z 64) 0 0 _ rfl rfl 8 0 len (29 + len) X _ hXl (Nat.le_refl _) (by omega) rfl (fun i y hy => by rw [Nat.zero_add i]; exact hy) n0 (by omega) hX9 hn0 hXg (by omega)))) ?_
  refine s_p (by first | exact h_move (v := .s _) rfl | exact h_move (v := .agg _) rfl | exact h_move (v := .tup _) rfl) ?_
  refine s_p (h_extract rfl rfl (by simp)) ?_
  refine s_p (h_extract rfl rfl (by simp)) ?_
  refine s_p (h_extract rfl rfl (by simp)) ?_
  refine s_p (by first | exact h_assign (v := .s _) rfl | exact h_assign (v := .agg _) rfl | exact h_assign (v := .tup _) rfl) ?_
  refine s_p (by first | exact h_assign (v := .s _) rfl | exact h_assign (v := .agg _) rfl | exact h_assign (v := .tup _) rfl) ?_
  refine s_p (by first | exact h_assign (v := .s _) rfl | exact h_assign (v := .agg _) rfl | exact h_assign (v := .tup _) rfl) ?_
  refine s_nil ?_
  refine n_wp ?_
  refine w_seq ?_
  refine c_reg (by kernel_rfl) rfl ?_
  refine s_p (by first | exact h_move (v := .s _) rfl | exact h_move (v := .agg _) rfl | exact h_move (v := .tup _) rfl) ?_
  refine s_p (by first | exact h_move (v := .s _) rfl | exact h_move (v := .agg _) rfl | exact h_move (v := .tup _) rfl) ?_
  refine s_p (h_slice_h (h := 28) rfl rfl rfl Try.underlying29 Try.sizeOf5 (by omega)) ?_
  refine s_p (h_call callable_40 rfl ((take_short _ 7 6 M C n0 _ rfl rfl (z 64) 0 0 _ rfl rfl 8 0 28 (29 + len) ((X.drop 0).take 28) _ (by simp [hXl] <;> omega) (by omega) (by omega) rfl (fun i y hy => win_ints (segs := [.ints .u8 (29 + len) X]) (base := 0) (idx := 0) (n := 28) (m := 29 + len) rfl (by omega) i y hy) (by omega)))) ?_
  refine s_p (by first | exact h_move (v := .s _) rfl | exact h_move (v := .agg _) rfl | exact h_move (v := .tup _) rfl) ?_
  refine s_p (h_extract rfl rfl (by simp)) ?_
  refine s_p (h_extract rfl rfl (by simp)) ?_
  refine s_p (h_extract rfl rfl (by simp)) ?_
  refine s_p (by first | exact h_assign (v := .s _) rfl | exact h_assign (v := .agg _) rfl | exact h_assign (v := .tup _) rfl) ?_
  refine s_p (by first | exact h_assign (v := .s _) rfl | exact h_assign (v := .agg _) rfl | exact h_assign (v := .tup _) rfl) ?_
  refine s_p (by first | exact h_assign (v := .s _) rfl | exact h_assign (v := .agg _) rfl | exact h_assign (v := .tup _) rfl) ?_
  refine s_nil ?_
  refine n_wp ?_
  refine w_seq ?_
  refine c_reg (by kernel_rfl) rfl ?_
  refine s_p (by first | exact h_move (v := .s _) rfl | exact h_move (v := .agg _) rfl | exact h_move (v := .tup _) rfl) ?_
  refine s_p (by first | exact h_move (v := .s _) rfl | exact h_move (v := .agg _) rfl | exact h_move (v := .tup _) rfl) ?_
  refine s_m (m_call callable_40 rfl ((take_ok [some ⟨false, [.ints .u8 len B]⟩, some ⟨true, [.ints .u8 32 M, .ints .u8 16 C, .ints .u8 32 M2, .ints .u8 16 C2]⟩, some ⟨true, [.ints .u32 2 [((n0 : Nat) : Int), ((n1 : Nat) : Int)]]⟩, some ⟨true, [.ints .u8 32 M, .ints .u8 16 C, .one (.int .u32 ((n0 : Nat) : Int)), .one (.int .i64 1), .one (.int .i64 (((0 + 1) : Nat) : Int))]⟩, some ⟨true, [.ints .i64 1 [1], .ints .u64 64 (z 64), .one (.int .u64 ((0 : Nat) : Int)), .one (.int .u64 ((0 : Nat) : Int))]⟩, some ⟨true, [.ints .u8 32 M2, .ints .u8 16 C2, .one (.int .u32 ((n1 : Nat) : Int)), .one (.int .i64 1), .one (.ptr 4 0 0)]⟩, some ⟨true, [.ints .i64 1 [1], .ints .u64 64 (z 64), .one (.int .u64 ((0 : Nat) : Int)), .one (.int .u64 ((0 : Nat) : Int))]⟩, some ⟨true, [.ints .u8 32 M, .ints .u8 16 C, .one (.int .u32 ((n0 : Nat) : Int)), .one (.int .i64 1), .one (.ptr 6 0 0)]⟩, some ⟨true, [.ints .u8 (29 + len) X]⟩] 7 6 M C n0 _ rfl rfl (z 64) 0 0 rfl 8 0 len (29 + len) X _ hXl (Nat.le_refl _) (by omega) rfl (fun i y hy => by rw [Nat.zero_add i]; exact hy) (0 + 1) hM hC hC8 hX8 (by omega) hX9 hn0 hXg hXm hXn (by omega) (by omega) (by omega) (by omega) (z_len _) (by omega) (by decide) (by decide) (by decide) h0))) ?_
  refine s_heap (H' := [some ⟨false, [.ints .u8 len B]⟩, some ⟨true, [.ints .u8 32 M, .ints .u8 16 C, .ints .u8 32 M2, .ints .u8 16 C2]⟩, some ⟨true, [.ints .u32 2 [((n0 : Nat) : Int), ((n1 : Nat) : Int)]]⟩, some ⟨true, [.ints .u8 32 M, .ints .u8 16 C, .one (.int .u32 ((n0 : Nat) : Int)), .one (.int .i64 1), .one (.int .i64 (((0 + 1) : Nat) : Int))]⟩, some ⟨true, [.ints .i64 1 [1], .ints .u64 64 (z 64), .one (.int .u64 ((0 : Nat) : Int)), .one (.int .u64 ((0 : Nat) : Int))]⟩, some ⟨true, [.ints .u8 32 M2, .ints .u8 16 C2, .one (.int .u32 ((n1 : Nat) : Int)), .one (.int .i64 1), .one (.ptr 4 0 0)]⟩, some ⟨true, [.ints .i64 1 [1], .ints .u64 64 ((z 64).set ((0 + 1) % 64) (((0 + 1 : Nat)) : Int)), .one (.int .u64 (((max 0 (0 + 1)) : Nat) : Int)), .one (.int .u64 (((0 + 1) : Nat) : Int))]⟩, some ⟨true, [.ints .u8 32 M, .ints .u8 16 C, .one (.int .u32 ((n0 : Nat) : Int)), .one (.int .i64 1), .one (.ptr 6 0 0)]⟩, some ⟨true, [.ints .u8 (29 + len) X]⟩, some ⟨true, [.ints .u8 len (streamN C (fiL X) ((X.drop (0 + 13)).take len) len)]⟩]) (by kernel_rfl) ?_
  refine s_p (by first | exact h_move (v := .s _) rfl | exact h_move (v := .agg _) rfl | exact h_move (v := .tup _) rfl) ?_
  refine s_p (h_extract rfl rfl (by simp)) ?_
  refine s_p (h_extract rfl rfl (by simp)) ?_
  refine s_p (h_extract rfl rfl (by simp)) ?_
  refine s_p (by first | exact h_assign (v := .s _) rfl | exact h_assign (v := .agg _) rfl | exact h_assign (v := .tup _) rfl) ?_
  refine s_p (by first | exact h_assign (v := .s _) rfl | exact h_assign (v := .agg _) rfl | exact h_assign (v := .tup _) rfl) ?_
  refine s_p (by first | exact h_assign (v := .s _) rfl | exact h_assign (v := .agg _) rfl | exact h_assign (v := .tup _) rfl) ?_
  refine s_nil ?_
  refine n_wp ?_
  refine w_seq ?_
  refine c_reg (by kernel_rfl) rfl ?_
  refine s_p (by first | exact h_move (v := .s _) rfl | exact h_move (v := .agg _) rfl | exact h_move (v := .tup _) rfl) ?_
  refine s_p (h_bin rfl rfl (b_eql (decide_eq_true rfl))) ?_
  refine s_p (by first | exact h_move (v := .s _) rfl | exact h_move (v := .agg _) rfl | exact h_move (v := .tup _) rfl) ?_
  first | refine s_on rfl rfl (by first | rfl | assumption) (by first | exact h_move (v := .s _) rfl | exact h_move (v := .agg _) rfl | exact h_move (v := .tup _) rfl) ?_ | refine s_off rfl rfl (by first | rfl | assumption) ?_
  first | refine s_on rfl rfl (by first | rfl | assumption) (h_bin rfl rfl (b_eql (decide_eq_true rfl))) ?_ | refine s_off rfl rfl (by first | rfl | assumption) ?_
  refine s_p (by first | exact h_pick_t rfl (by first | rfl | assumption) rfl | exact h_pick_f rfl (by first | rfl | assumption) rfl) ?_
  refine s_p (by first | exact h_move (v := .s _) rfl | exact h_move (v := .agg _) rfl | exact h_move (v := .tup _) rfl) ?_
  first | refine s_on rfl rfl (by first | rfl | assumption) (by first | exact h_move (v := .s _) rfl | exact h_move (v := .agg _) rfl | exact h_move (v := .tup _) rfl) ?_ | refine s_off rfl rfl (by first | rfl | assumption) ?_
  first | refine s_on rfl rfl (by first | rfl | assumption) (h_call callable_42 rfl (Came_c _ 5 4 M2 C2 n1 _ rfl rfl (z 64) 0 0 _ rfl rfl)) ?_ | refine s_off rfl rfl (by first | rfl | assumption) ?_
  first | refine s_on rfl rfl (by first | rfl | assumption) (h_bin rfl rfl (b_eql (decide_eq_true rfl))) ?_ | refine s_off rfl rfl (by first | rfl | assumption) ?_
  refine s_p (by first | exact h_pick_t rfl (by first | rfl | assumption) rfl | exact h_pick_f rfl (by first | rfl | assumption) rfl) ?_
  refine s_p (by first | exact h_move (v := .s _) rfl | exact h_move (v := .agg _) rfl | exact h_move (v := .tup _) rfl) ?_
  first | refine s_on rfl rfl (by first | rfl | assumption) (by first | exact h_move (v := .s _) rfl | exact h_move (v := .agg _) rfl | exact h_move (v := .tup _) rfl) ?_ | refine s_off rfl rfl (by first | rfl | assumption) ?_
  first | refine s_on rfl rfl (by first | rfl | assumption) (h_bin rfl rfl (b_eql (decide_eq_true rfl))) ?_ | refine s_off rfl rfl (by first | rfl | assumption) ?_
  refine s_p (by first | exact h_pick_t rfl (by first | rfl | assumption) rfl | exact h_pick_f rfl (by first | rfl | assumption) rfl) ?_
  refine s_p (by first | exact h_move (v := .s _) rfl | exact h_move (v := .agg _) rfl | exact h_move (v := .tup _) rfl) ?_
  first | refine s_on rfl rfl (by first | rfl | assumption) (by first | exact h_move (v := .s _) rfl | exact h_move (v := .agg _) rfl | exact h_move (v := .tup _) rfl) ?_ | refine s_off rfl rfl (by first | rfl | assumption) ?_
  first | refine s_on rfl rfl (by first | rfl | assumption) (h_bin rfl rfl (b_eql (decide_eq_true rfl))) ?_ | refine s_off rfl rfl (by first | rfl | assumption) ?_
  refine s_p (by first | exact h_pick_t rfl (by first | rfl | assumption) rfl | exact h_pick_f rfl (by first | rfl | assumption) rfl) ?_
  refine s_p (by first | exact h_move (v := .s _) rfl | exact h_move (v := .agg _) rfl | exact h_move (v := .tup _) rfl) ?_
  first | refine s_on rfl rfl (by first | rfl | assumption) (by first | exact h_move (v := .s _) rfl | exact h_move (v := .agg _) rfl | exact h_move (v := .tup _) rfl) ?_ | refine s_off rfl rfl (by first | rfl | assumption) ?_
  first | refine s_on rfl rfl (by first | rfl | assumption) (h_bin rfl rfl (b_eql (decide_eq_true rfl))) ?_ | refine s_off rfl rfl (by first | rfl | assumption) ?_
  refine s_p (by first | exact h_pick_t rfl (by first | rfl | assumption) rfl | exact h_pick_f rfl (by first | rfl | assumption) rfl) ?_
  refine s_p (by first | exact h_move (v := .s _) rfl | exact h_move (v := .agg _) rfl | exact h_move (v := .tup _) rfl) ?_
  first | refine s_on rfl rfl (by first | rfl | assumption) (by first | exact h_move (v := .s _) rfl | exact h_move (v := .agg _) rfl | exact h_move (v := .tup _) rfl) ?_ | refine s_off rfl rfl (by first | rfl | assumption) ?_
  first | refine s_on rfl rfl (by first | rfl | assumption) (by first | exact h_move (v := .s _) rfl | exact h_move (v := .agg _) rfl | exact h_move (v := .tup _) rfl) ?_ | refine s_off rfl rfl (by first | rfl | assumption) ?_
  first | refine s_on rfl rfl (by first | rfl | assumption) (h_call callable_27 rfl (same_ss B len _ _ (by omega) _ 9 0 0 len _ (streamN C (fiL X) ((X.drop (0 + 13)).take len) len) rfl rfl (by omega) (by rw [hXs, List.drop_zero, List.take_of_length_le (Nat.le_of_eq hBl)]) 0 0 0 len _ B rfl rfl (by omega) (by rw [List.drop_zero, List.take_of_length_le (Nat.le_of_eq hBl)]))) ?_ | refine s_off rfl rfl (by first | rfl | assumption) ?_
  refine s_p (by first | exact h_pick_t rfl (by first | rfl | assumption) rfl | exact h_pick_f rfl (by first | rfl | assumption) rfl) ?_
  refine s_p (by first | exact h_assign (v := .s _) rfl | exact h_assign (v := .agg _) rfl | exact h_assign (v := .tup _) rfl) ?_
  refine s_nil ?_
  refine n_wp ?_
  refine w_ret ?_
  exact ⟨.inl rfl, ret_tmp Try.results19 rfl⟩
set_option maxRecDepth 100000 in
set_option maxHeartbeats 2000000 in
theorem apart_v (M C M2 C2 : List Int) (n0 n1 : Nat) (hM : M.length = 32) (hC : C.length = 16) (hC8 : U8 C) (hM2 : M2.length = 32) (hC2 : C2.length = 16) (hn0 : n0 < 4294967296) (hn1 : n1 < 4294967296) (a : Option Addr) (c : Nat) (hnn : n0 ≠ n1) (cd : Code) (hc : Try.f19.body = some cd) (W : Nat → Prop) (w : World) (ρ0 : Rho) (hW : ∀ b, w.heap.size ≤ b → W b) (hdom : ∀ id, 0 ≤ id → ρ0 id = none) :
    Wp ⟨Try.prog, W, w, ρ0, 112, 0, hW, hdom⟩ cd (argT 0 [.agg [.ints .u8 32 M, .ints .u8 16 C, .ints .u8 32 M2, .ints .u8 16 C2], .agg [.ints .u32 2 [((n0 : Nat) : Int), ((n1 : Nat) : Int)]], .s (.val (.slice a 0 c))]) [] (DoneF ⟨Try.prog, W, w, ρ0, 112, 0, hW, hdom⟩ Try.f19 (.s (.bool true))) := by
  obtain ⟨X, hX⟩ : ∃ L : List Int, (sealL M C ((n0 : Nat) : Int) ((0 + 1 : Nat) : Int) [] 0) = L := ⟨_, rfl⟩
  have hXl : X.length = 29 + 0 := by rw [← hX]; exact sealL_len _ _ _ _ _ _
  have hX8 : U8 X := by rw [← hX]; exact U8_seal _ _ _ _ _ _
  have hX9 : X.getD 0 0 = 9 := by rw [← hX]; exact seal_nine _ _ _ _ _ _
  have hXg : getI ((X.drop (0 + 1)).take (29 + 0 - 1)) 4 = ((n0 : Nat) : Int) := by rw [← hX]; exact seal_lane _ _ n0 _ _ 0 hn0
  have hXn : getI ((X.drop (0 + 5)).take (29 + 0 - 5)) 8 = ((0 + 1 : Nat) : Int) := by rw [← hX]; exact seal_num _ _ _ (0 + 1) _ 0 (by omega)
  have hXm : mo (((sMac M X (13 + 0)).drop 0).take 16) ((X.drop (13 + 0)).take 16) 16 = 0 := by rw [← hX]; exact seal_mo _ _ _ _ _ _
  have hXs : (streamN C (fiL X) ((X.drop (0 + 13)).take 0) 0) = [] := by rw [← hX]; exact seal_back' _ _ _ _ _ _ rfl U8_nil
  cases hc
  refine w_seq ?_
  refine c_reg (by kernel_rfl) rfl ?_
  refine s_a (by first | exact h_box_agg rfl rfl | exact h_box rfl (by simp) rfl) rfl ?_
  refine s_a (by first | exact h_box_agg rfl rfl | exact h_box rfl (by simp) rfl) rfl ?_
  refine s_p (by first | exact h_assign (v := .s _) rfl | exact h_assign (v := .agg _) rfl | exact h_assign (v := .tup _) rfl) ?_
  refine s_nil ?_
  refine n_wp ?_
  refine w_seq ?_
  refine w_seq ?_
  refine c_reg (by kernel_rfl) rfl ?_
  refine s_p (h_call callable_44 rfl (alive20 _)) ?_
  refine s_p (h_not rfl) ?_
  refine s_p (by first | exact h_move (v := .s _) rfl | exact h_move (v := .agg _) rfl | exact h_move (v := .tup _) rfl) ?_
  first | refine s_on rfl rfl (by first | rfl | assumption) (by first | exact h_move (v := .s _) rfl | exact h_move (v := .agg _) rfl | exact h_move (v := .tup _) rfl) ?_ | refine s_off rfl rfl (by first | rfl | assumption) ?_
  first | refine s_on rfl rfl (by first | rfl | assumption) (by first | exact h_len rfl Try.underlying29 | exact h_len_nil rfl Try.underlying29 | exact h_len_val rfl Try.underlying29) ?_ | refine s_off rfl rfl (by first | rfl | assumption) ?_
  first | refine s_on rfl rfl (by first | rfl | assumption) (h_bin rfl rfl (b_gtr (decide_eq_false (by omega)))) ?_ | refine s_off rfl rfl (by first | rfl | assumption) ?_
  refine s_p (by first | exact h_pick_t rfl (by first | rfl | assumption) rfl | exact h_pick_f rfl (by first | rfl | assumption) rfl) ?_
  refine s_p (by first | exact h_move (v := .s _) rfl | exact h_move (v := .agg _) rfl | exact h_move (v := .tup _) rfl) ?_
  first | refine s_on rfl rfl (by first | rfl | assumption) (h_ixl 0 rfl rfl rfl Try.underlying100 Try.sizeOf61 (by omega)) ?_ | refine s_off rfl rfl (by first | rfl | assumption) ?_
  first | refine s_on rfl rfl (by first | rfl | assumption) (by first | exact h_load_ints rfl rfl rfl (by omega) rfl Try.isAgg61 | exact h_load_one rfl rfl rfl Try.isAgg61) ?_ | refine s_off rfl rfl (by first | rfl | assumption) ?_
  first | refine s_on rfl rfl (by first | rfl | assumption) (h_ixl 1 rfl rfl rfl Try.underlying100 Try.sizeOf61 (by omega)) ?_ | refine s_off rfl rfl (by first | rfl | assumption) ?_
  first | refine s_on rfl rfl (by first | rfl | assumption) (by first | exact h_load_ints rfl rfl rfl (by omega) rfl Try.isAgg61 | exact h_load_one rfl rfl rfl Try.isAgg61) ?_ | refine s_off rfl rfl (by first | rfl | assumption) ?_
  first | refine s_on rfl rfl (by first | rfl | assumption) (h_bin rfl rfl (b_eql (decide_eq_false (fun h => by have h : ((n0 : Nat) : Int) = ((n1 : Nat) : Int) := h; omega)))) ?_ | refine s_off rfl rfl (by first | rfl | assumption) ?_
  refine s_p (by first | exact h_pick_t rfl (by first | rfl | assumption) rfl | exact h_pick_f rfl (by first | rfl | assumption) rfl) ?_
  refine s_nil ?_
  refine n_wp ?_
  refine w_cond rfl (fun hc_t35 => ?_) (fun hc_t35 => ?_)
  · exact absurd hc_t35 (by simp)
  refine w_skip ?_
  refine n_wp ?_
  refine w_seq ?_
  refine c_reg (by kernel_rfl) rfl ?_
  refine s_p (by first | exact h_ixwl 0 rfl rfl rfl Try.underlying99 Try.sizeOf56 (by omega) | exact h_ixgl 0 rfl rfl rfl Try.underlying99 Try.sizeOf56 (by omega)) ?_
  refine s_p (h_load_agg rfl rfl (.two (m := 32) (n := 16) rfl rfl (.seg rfl rfl)) Try.isAgg56 Try.sizeOf56) ?_
  refine s_p (h_ixl 0 rfl rfl rfl Try.underlying100 Try.sizeOf61 (by omega)) ?_
  refine s_p (by first | exact h_load_ints rfl rfl rfl (by omega) rfl Try.isAgg61 | exact h_load_one rfl rfl rfl Try.isAgg61) ?_
  refine s_a (h_call callable_46 rfl (NewOut_c _ M C n0)) rfl ?_
  refine s_p (by first | exact h_assign (v := .s _) rfl | exact h_assign (v := .agg _) rfl | exact h_assign (v := .tup _) rfl) ?_
  refine s_nil ?_
  refine n_wp ?_
  refine w_seq ?_
  refine c_reg (by kernel_rfl) rfl ?_
  refine s_p (by first | exact h_ixwl 1 rfl rfl rfl Try.underlying99 Try.sizeOf56 (by omega) | exact h_ixgl 1 rfl rfl rfl Try.underlying99 Try.sizeOf56 (by omega)) ?_
  refine s_p (h_load_agg rfl rfl (.two (m := 32) (n := 16) rfl rfl (.seg rfl rfl)) Try.isAgg56 Try.sizeOf56) ?_
  refine s_p (h_ixl 1 rfl rfl rfl Try.underlying100 Try.sizeOf61 (by omega)) ?_
  refine s_p (by first | exact h_load_ints rfl rfl rfl (by omega) rfl Try.isAgg61 | exact h_load_one rfl rfl rfl Try.isAgg61) ?_
  refine s_nb (h_call callable_47 rfl (NewIn_c _ M2 C2 n1)) rfl ?_
  refine s_p (by first | exact h_assign (v := .s _) rfl | exact h_assign (v := .agg _) rfl | exact h_assign (v := .tup _) rfl) ?_
  refine s_nil ?_
  refine n_wp ?_
  refine w_seq ?_
  refine c_reg (by kernel_rfl) rfl ?_
  refine s_p (by first | exact h_ixwl 0 rfl rfl rfl Try.underlying99 Try.sizeOf56 (by omega) | exact h_ixgl 0 rfl rfl rfl Try.underlying99 Try.sizeOf56 (by omega)) ?_
  refine s_p (h_load_agg rfl rfl (.two (m := 32) (n := 16) rfl rfl (.seg rfl rfl)) Try.isAgg56 Try.sizeOf56) ?_
  refine s_p (h_ixl 0 rfl rfl rfl Try.underlying100 Try.sizeOf61 (by omega)) ?_
  refine s_p (by first | exact h_load_ints rfl rfl rfl (by omega) rfl Try.isAgg61 | exact h_load_one rfl rfl rfl Try.isAgg61) ?_
  refine s_nb (h_call callable_47 rfl (NewIn_c _ M C n0)) rfl ?_
  refine s_heap (H' := [some ⟨true, [.ints .u8 32 M, .ints .u8 16 C, .ints .u8 32 M2, .ints .u8 16 C2]⟩, some ⟨true, [.ints .u32 2 [((n0 : Nat) : Int), ((n1 : Nat) : Int)]]⟩, some ⟨true, [.ints .u8 32 M, .ints .u8 16 C, .one (.int .u32 ((n0 : Nat) : Int)), .one (.int .i64 1), .one (.int .i64 ((0 : Nat) : Int))]⟩, some ⟨true, [.ints .i64 1 [1], .ints .u64 64 (z 64), .one (.int .u64 ((0 : Nat) : Int)), .one (.int .u64 ((0 : Nat) : Int))]⟩, some ⟨true, [.ints .u8 32 M2, .ints .u8 16 C2, .one (.int .u32 ((n1 : Nat) : Int)), .one (.int .i64 1), .one (.ptr 3 0 0)]⟩, some ⟨true, [.ints .i64 1 [1], .ints .u64 64 (z 64), .one (.int .u64 ((0 : Nat) : Int)), .one (.int .u64 ((0 : Nat) : Int))]⟩, some ⟨true, [.ints .u8 32 M, .ints .u8 16 C, .one (.int .u32 ((n0 : Nat) : Int)), .one (.int .i64 1), .one (.ptr 5 0 0)]⟩]) (by kernel_rfl) ?_
  refine s_p (by first | exact h_assign (v := .s _) rfl | exact h_assign (v := .agg _) rfl | exact h_assign (v := .tup _) rfl) ?_
  refine s_nil ?_
  refine n_wp ?_
  refine w_seq ?_
  refine c_reg (by kernel_rfl) rfl ?_
  refine s_p (by first | exact h_move (v := .s _) rfl | exact h_move (v := .agg _) rfl | exact h_move (v := .tup _) rfl) ?_
  refine s_p (by first | exact h_move (v := .s _) rfl | exact h_move (v := .agg _) rfl | exact h_move (v := .tup _) rfl) ?_
  refine s_m (m_call callable_39 rfl ((by have h := put_v [some ⟨true, [.ints .u8 32 M, .ints .u8 16 C, .ints .u8 32 M2, .ints .u8 16 C2]⟩, some ⟨true, [.ints .u32 2 [((n0 : Nat) : Int), ((n1 : Nat) : Int)]]⟩, some ⟨true, [.ints .u8 32 M, .ints .u8 16 C, .one (.int .u32 ((n0 : Nat) : Int)), .one (.int .i64 1), .one (.int .i64 ((0 : Nat) : Int))]⟩, some ⟨true, [.ints .i64 1 [1], .ints .u64 64 (z 64), .one (.int .u64 ((0 : Nat) : Int)), .one (.int .u64 ((0 : Nat) : Int))]⟩, some ⟨true, [.ints .u8 32 M2, .ints .u8 16 C2, .one (.int .u32 ((n1 : Nat) : Int)), .one (.int .i64 1), .one (.ptr 3 0 0)]⟩, some ⟨true, [.ints .i64 1 [1], .ints .u64 64 (z 64), .one (.int .u64 ((0 : Nat) : Int)), .one (.int .u64 ((0 : Nat) : Int))]⟩, some ⟨true, [.ints .u8 32 M, .ints .u8 16 C, .one (.int .u32 ((n0 : Nat) : Int)), .one (.int .i64 1), .one (.ptr 5 0 0)]⟩] 2 M C n0 0 rfl hM hC hC8 hn0 (by omega) a c; rw [hX] at h; exact h))) ?_
  refine s_heap (H' := [some ⟨true, [.ints .u8 32 M, .ints .u8 16 C, .ints .u8 32 M2, .ints .u8 16 C2]⟩, some ⟨true, [.ints .u32 2 [((n0 : Nat) : Int), ((n1 : Nat) : Int)]]⟩, some ⟨true, [.ints .u8 32 M, .ints .u8 16 C, .one (.int .u32 ((n0 : Nat) : Int)), .one (.int .i64 1), .one (.int .i64 (((0 + 1) : Nat) : Int))]⟩, some ⟨true, [.ints .i64 1 [1], .ints .u64 64 (z 64), .one (.int .u64 ((0 : Nat) : Int)), .one (.int .u64 ((0 : Nat) : Int))]⟩, some ⟨true, [.ints .u8 32 M2, .ints .u8 16 C2, .one (.int .u32 ((n1 : Nat) : Int)), .one (.int .i64 1), .one (.ptr 3 0 0)]⟩, some ⟨true, [.ints .i64 1 [1], .ints .u64 64 (z 64), .one (.int .u64 ((0 : Nat) : Int)), .one (.int .u64 ((0 : Nat) : Int))]⟩, some ⟨true, [.ints .u8 32 M, .ints .u8 16 C, .one (.int .u32 ((n0 : Nat) : Int)), .one (.int .i64 1), .one (.ptr 5 0 0)]⟩, some ⟨true, [.ints .u8 (29 + 0) X]⟩]) (by kernel_rfl) ?_
  refine s_p (by first | exact h_move (v := .s _) rfl | exact h_move (v := .agg _) rfl | exact h_move (v := .tup _) rfl) ?_
  refine s_p (h_extract rfl rfl (by simp)) ?_
  refine s_p (h_extract rfl rfl (by simp)) ?_
  refine s_p (h_extract rfl rfl (by simp)) ?_
  refine s_p (by first | exact h_assign (v := .s _) rfl | exact h_assign (v := .agg _) rfl | exact h_assign (v := .tup _) rfl) ?_
  refine s_p (by first | exact h_assign (v := .s _) rfl | exact h_assign (v := .agg _) rfl | exact h_assign (v := .tup _) rfl) ?_
  refine s_p (by first | exact h_assign (v := .s _) rfl | exact h_assign (v := .agg _) rfl | exact h_assign (v := .tup _) rfl) ?_
  refine s_nil ?_
  refine n_wp ?_
  refine w_seq ?_
  refine w_seq ?_
  refine c_reg (by kernel_rfl) rfl ?_
  refine s_p (by first | exact h_move (v := .s _) rfl | exact h_move (v := .agg _) rfl | exact h_move (v := .tup _) rfl) ?_
  refine s_p (by first | exact h_len rfl Try.underlying29 | exact h_len_nil rfl Try.underlying29 | exact h_len_val rfl Try.underlying29) ?_
  refine s_p (h_bin rfl rfl (b_lss (decide_eq_false (by omega)))) ?_
  refine s_nil ?_
  refine n_wp ?_
  refine w_cond rfl (fun hc_t61 => ?_) (fun hc_t61 => ?_)
  · exact absurd hc_t61 (by simp)
  refine w_skip ?_
  refine n_wp ?_
  refine w_seq ?_
  refine c_reg (by kernel_rfl) rfl ?_
  refine s_p (by first | exact h_move (v := .s _) rfl | exact h_move (v := .agg _) rfl | exact h_move (v := .tup _) rfl) ?_
  refine s_p (by first | exact h_move (v := .s _) rfl | exact h_move (v := .agg _) rfl | exact h_move (v := .tup _) rfl) ?_
  refine s_p (h_call callable_40 rfl ((take_none _ 4 3 M2 C2 n1 _ rfl rfl (z 64) 0 0 _ rfl rfl 7 0 0 (29 + 0) X _ hXl (Nat.le_refl _) (by omega) rfl (fun i y hy => by rw [Nat.zero_add i]; exact hy) n0 (by omega) hX9 hn0 hXg (by omega)))) ?_
  refine s_p (by first | exact h_move (v := .s _) rfl | exact h_move (v := .agg _) rfl | exact h_move (v := .tup _) rfl) ?_
  refine s_p (h_extract rfl rfl (by simp)) ?_
  refine s_p (h_extract rfl rfl (by simp)) ?_
  refine s_p (h_extract rfl rfl (by simp)) ?_
  refine s_p (by first | exact h_assign (v := .s _) rfl | exact h_assign (v := .agg _) rfl | exact h_assign (v := .tup _) rfl) ?_
  refine s_p (by first | exact h_assign (v := .s _) rfl | exact h_assign (v := .agg _) rfl | exact h_assign (v := .tup _) rfl) ?_
  refine s_p (by first | exact h_assign (v := .s _) rfl | exact h_assign (v := .agg _) rfl | exact h_assign (v := .tup _) rfl) ?_
  refine s_nil ?_
  refine n_wp ?_
  refine w_seq ?_
  refine c_reg (by kernel_rfl) rfl ?_
  refine s_p (by first | exact h_move (v := .s _) rfl | exact h_move (v := .agg _) rfl | exact h_move (v := .tup _) rfl) ?_
  refine s_p (by first | exact h_move (v := .s _) rfl | exact h_move (v := .agg _) rfl | exact h_move (v := .tup _) rfl) ?_
  refine s_p (h_slice_h (h := 28) rfl rfl rfl Try.underlying29 Try.sizeOf5 (by omega)) ?_
  refine s_p (h_call callable_40 rfl ((take_short _ 6 5 M C n0 _ rfl rfl (z 64) 0 0 _ rfl rfl 7 0 28 (29 + 0) ((X.drop 0).take 28) _ (by simp [hXl] <;> omega) (by omega) (by omega) rfl (fun i y hy => win_ints (segs := [.ints .u8 (29 + 0) X]) (base := 0) (idx := 0) (n := 28) (m := 29 + 0) rfl (by omega) i y hy) (by omega)))) ?_
  refine s_p (by first | exact h_move (v := .s _) rfl | exact h_move (v := .agg _) rfl | exact h_move (v := .tup _) rfl) ?_
  refine s_p (h_extract rfl rfl (by simp)) ?_
  refine s_p (h_extract rfl rfl (by simp)) ?_
  refine s_p (h_extract rfl rfl (by simp)) ?_
  refine s_p (by first | exact h_assign (v := .s _) rfl | exact h_assign (v := .agg _) rfl | exact h_assign (v := .tup _) rfl) ?_
  refine s_p (by first | exact h_assign (v := .s _) rfl | exact h_assign (v := .agg _) rfl | exact h_assign (v := .tup _) rfl) ?_
  refine s_p (by first | exact h_assign (v := .s _) rfl | exact h_assign (v := .agg _) rfl | exact h_assign (v := .tup _) rfl) ?_
  refine s_nil ?_
  refine n_wp ?_
  refine w_seq ?_
  refine c_reg (by kernel_rfl) rfl ?_
  refine s_p (by first | exact h_move (v := .s _) rfl | exact h_move (v := .agg _) rfl | exact h_move (v := .tup _) rfl) ?_
  refine s_p (by first | exact h_move (v := .s _) rfl | exact h_move (v := .agg _) rfl | exact h_move (v := .tup _) rfl) ?_
  refine s_m (m_call callable_40 rfl ((take_ok0 [some ⟨true, [.ints .u8 32 M, .ints .u8 16 C, .ints .u8 32 M2, .ints .u8 16 C2]⟩, some ⟨true, [.ints .u32 2 [((n0 : Nat) : Int), ((n1 : Nat) : Int)]]⟩, some ⟨true, [.ints .u8 32 M, .ints .u8 16 C, .one (.int .u32 ((n0 : Nat) : Int)), .one (.int .i64 1), .one (.int .i64 (((0 + 1) : Nat) : Int))]⟩, some ⟨true, [.ints .i64 1 [1], .ints .u64 64 (z 64), .one (.int .u64 ((0 : Nat) : Int)), .one (.int .u64 ((0 : Nat) : Int))]⟩, some ⟨true, [.ints .u8 32 M2, .ints .u8 16 C2, .one (.int .u32 ((n1 : Nat) : Int)), .one (.int .i64 1), .one (.ptr 3 0 0)]⟩, some ⟨true, [.ints .i64 1 [1], .ints .u64 64 (z 64), .one (.int .u64 ((0 : Nat) : Int)), .one (.int .u64 ((0 : Nat) : Int))]⟩, some ⟨true, [.ints .u8 32 M, .ints .u8 16 C, .one (.int .u32 ((n0 : Nat) : Int)), .one (.int .i64 1), .one (.ptr 5 0 0)]⟩, some ⟨true, [.ints .u8 (29 + 0) X]⟩] 6 5 M C n0 _ rfl rfl (z 64) 0 0 rfl 7 0 0 (29 + 0) X _ hXl (Nat.le_refl _) (by omega) rfl (fun i y hy => by rw [Nat.zero_add i]; exact hy) (0 + 1) hM hC hC8 hX8 (by omega) hX9 hn0 hXg hXm hXn (by omega) (by omega) (by omega) (by omega) (z_len _) (by omega) (by decide) (by decide) (by decide) rfl))) ?_
  refine s_heap (H' := [some ⟨true, [.ints .u8 32 M, .ints .u8 16 C, .ints .u8 32 M2, .ints .u8 16 C2]⟩, some ⟨true, [.ints .u32 2 [((n0 : Nat) : Int), ((n1 : Nat) : Int)]]⟩, some ⟨true, [.ints .u8 32 M, .ints .u8 16 C, .one (.int .u32 ((n0 : Nat) : Int)), .one (.int .i64 1), .one (.int .i64 (((0 + 1) : Nat) : Int))]⟩, some ⟨true, [.ints .i64 1 [1], .ints .u64 64 (z 64), .one (.int .u64 ((0 : Nat) : Int)), .one (.int .u64 ((0 : Nat) : Int))]⟩, some ⟨true, [.ints .u8 32 M2, .ints .u8 16 C2, .one (.int .u32 ((n1 : Nat) : Int)), .one (.int .i64 1), .one (.ptr 3 0 0)]⟩, some ⟨true, [.ints .i64 1 [1], .ints .u64 64 ((z 64).set ((0 + 1) % 64) (((0 + 1 : Nat)) : Int)), .one (.int .u64 (((max 0 (0 + 1)) : Nat) : Int)), .one (.int .u64 (((0 + 1) : Nat) : Int))]⟩, some ⟨true, [.ints .u8 32 M, .ints .u8 16 C, .one (.int .u32 ((n0 : Nat) : Int)), .one (.int .i64 1), .one (.ptr 5 0 0)]⟩, some ⟨true, [.ints .u8 (29 + 0) X]⟩]) (by kernel_rfl) ?_
  refine s_p (by first | exact h_move (v := .s _) rfl | exact h_move (v := .agg _) rfl | exact h_move (v := .tup _) rfl) ?_
  refine s_p (h_extract rfl rfl (by simp)) ?_
  refine s_p (h_extract rfl rfl (by simp)) ?_
  refine s_p (h_extract rfl rfl (by simp)) ?_
  refine s_p (by first | exact h_assign (v := .s _) rfl | exact h_assign (v := .agg _) rfl | exact h_assign (v := .tup _) rfl) ?_
  refine s_p (by first | exact h_assign (v := .s _) rfl | exact h_assign (v := .agg _) rfl | exact h_assign (v := .tup _) rfl) ?_
  refine s_p (by first | exact h_assign (v := .s _) rfl | exact h_assign (v := .agg _) rfl | exact h_assign (v := .tup _) rfl) ?_
  refine s_nil ?_
  refine n_wp ?_
  refine w_seq ?_
  refine c_reg (by kernel_rfl) rfl ?_
  refine s_p (by first | exact h_move (v := .s _) rfl | exact h_move (v := .agg _) rfl | exact h_move (v := .tup _) rfl) ?_
  refine s_p (h_bin rfl rfl (b_eql (decide_eq_true rfl))) ?_
  refine s_p (by first | exact h_move (v := .s _) rfl | exact h_move (v := .agg _) rfl | exact h_move (v := .tup _) rfl) ?_
  first | refine s_on rfl rfl (by first | rfl | assumption) (by first | exact h_move (v := .s _) rfl | exact h_move (v := .agg _) rfl | exact h_move (v := .tup _) rfl) ?_ | refine s_off rfl rfl (by first | rfl | assumption) ?_
  first | refine s_on rfl rfl (by first | rfl | assumption) (h_bin rfl rfl (b_eql (decide_eq_true rfl))) ?_ | refine s_off rfl rfl (by first | rfl | assumption) ?_
  refine s_p (by first | exact h_pick_t rfl (by first | rfl | assumption) rfl | exact h_pick_f rfl (by first | rfl | assumption) rfl) ?_
  refine s_p (by first | exact h_move (v := .s _) rfl | exact h_move (v := .agg _) rfl | exact h_move (v := .tup _) rfl) ?_
  first | refine s_on rfl rfl (by first | rfl | assumption) (by first | exact h_move (v := .s _) rfl | exact h_move (v := .agg _) rfl | exact h_move (v := .tup _) rfl) ?_ | refine s_off rfl rfl (by first | rfl | assumption) ?_
  first | refine s_on rfl rfl (by first | rfl | assumption) (h_call callable_42 rfl (Came_c _ 4 3 M2 C2 n1 _ rfl rfl (z 64) 0 0 _ rfl rfl)) ?_ | refine s_off rfl rfl (by first | rfl | assumption) ?_
  first | refine s_on rfl rfl (by first | rfl | assumption) (h_bin rfl rfl (b_eql (decide_eq_true rfl))) ?_ | refine s_off rfl rfl (by first | rfl | assumption) ?_
  refine s_p (by first | exact h_pick_t rfl (by first | rfl | assumption) rfl | exact h_pick_f rfl (by first | rfl | assumption) rfl) ?_
  refine s_p (by first | exact h_move (v := .s _) rfl | exact h_move (v := .agg _) rfl | exact h_move (v := .tup _) rfl) ?_
  first | refine s_on rfl rfl (by first | rfl | assumption) (by first | exact h_move (v := .s _) rfl | exact h_move (v := .agg _) rfl | exact h_move (v := .tup _) rfl) ?_ | refine s_off rfl rfl (by first | rfl | assumption) ?_
  first | refine s_on rfl rfl (by first | rfl | assumption) (h_bin rfl rfl (b_eql (decide_eq_true rfl))) ?_ | refine s_off rfl rfl (by first | rfl | assumption) ?_
  refine s_p (by first | exact h_pick_t rfl (by first | rfl | assumption) rfl | exact h_pick_f rfl (by first | rfl | assumption) rfl) ?_
  refine s_p (by first | exact h_move (v := .s _) rfl | exact h_move (v := .agg _) rfl | exact h_move (v := .tup _) rfl) ?_
  first | refine s_on rfl rfl (by first | rfl | assumption) (by first | exact h_move (v := .s _) rfl | exact h_move (v := .agg _) rfl | exact h_move (v := .tup _) rfl) ?_ | refine s_off rfl rfl (by first | rfl | assumption) ?_
  first | refine s_on rfl rfl (by first | rfl | assumption) (h_bin rfl rfl (b_eql (decide_eq_true rfl))) ?_ | refine s_off rfl rfl (by first | rfl | assumption) ?_
  refine s_p (by first | exact h_pick_t rfl (by first | rfl | assumption) rfl | exact h_pick_f rfl (by first | rfl | assumption) rfl) ?_
  refine s_p (by first | exact h_move (v := .s _) rfl | exact h_move (v := .agg _) rfl | exact h_move (v := .tup _) rfl) ?_
  first | refine s_on rfl rfl (by first | rfl | assumption) (by first | exact h_move (v := .s _) rfl | exact h_move (v := .agg _) rfl | exact h_move (v := .tup _) rfl) ?_ | refine s_off rfl rfl (by first | rfl | assumption) ?_
  first | refine s_on rfl rfl (by first | rfl | assumption) (h_bin rfl rfl (b_eql (decide_eq_true rfl))) ?_ | refine s_off rfl rfl (by first | rfl | assumption) ?_
  refine s_p (by first | exact h_pick_t rfl (by first | rfl | assumption) rfl | exact h_pick_f rfl (by first | rfl | assumption) rfl) ?_
  refine s_p (by first | exact h_move (v := .s _) rfl | exact h_move (v := .agg _) rfl | exact h_move (v := .tup _) rfl) ?_
  first | refine s_on rfl rfl (by first | rfl | assumption) (by first | exact h_move (v := .s _) rfl | exact h_move (v := .agg _) rfl | exact h_move (v := .tup _) rfl) ?_ | refine s_off rfl rfl (by first | rfl | assumption) ?_
  first | refine s_on rfl rfl (by first | rfl | assumption) (by first | exact h_move (v := .s _) rfl | exact h_move (v := .agg _) rfl | exact h_move (v := .tup _) rfl) ?_ | refine s_off rfl rfl (by first | rfl | assumption) ?_
  first | refine s_on rfl rfl (by first | rfl | assumption) (h_call callable_27 rfl (same_nv a c _)) ?_ | refine s_off rfl rfl (by first | rfl | assumption) ?_
  refine s_p (by first | exact h_pick_t rfl (by first | rfl | assumption) rfl | exact h_pick_f rfl (by first | rfl | assumption) rfl) ?_
  refine s_p (by first | exact h_assign (v := .s _) rfl | exact h_assign (v := .agg _) rfl | exact h_assign (v := .tup _) rfl) ?_
  refine s_nil ?_
  refine n_wp ?_
  refine w_ret ?_
  exact ⟨.inl rfl, ret_tmp Try.results19 rfl⟩
set_option maxRecDepth 100000 in
set_option maxHeartbeats 2000000 in
theorem apart_h (M C M2 C2 : List Int) (n0 n1 : Nat) (hM : M.length = 32) (hC : C.length = 16) (hC8 : U8 C) (hM2 : M2.length = 32) (hC2 : C2.length = 16) (hn0 : n0 < 4294967296) (hn1 : n1 < 4294967296) (a : Option Addr) (k c : Nat) (hk : 2019 < k) (cd : Code) (hc : Try.f19.body = some cd) (W : Nat → Prop) (w : World) (ρ0 : Rho) (hW : ∀ b, w.heap.size ≤ b → W b) (hdom : ∀ id, 0 ≤ id → ρ0 id = none) :
    Wp ⟨Try.prog, W, w, ρ0, 112, 0, hW, hdom⟩ cd (argT 0 [.agg [.ints .u8 32 M, .ints .u8 16 C, .ints .u8 32 M2, .ints .u8 16 C2], .agg [.ints .u32 2 [((n0 : Nat) : Int), ((n1 : Nat) : Int)]], .s (.val (.slice a k c))]) [] (DoneF ⟨Try.prog, W, w, ρ0, 112, 0, hW, hdom⟩ Try.f19 (.s (.bool true))) := by
  cases hc
  refine w_seq ?_
  refine c_reg (by kernel_rfl) rfl ?_
  refine s_a (by first | exact h_box_agg rfl rfl | exact h_box rfl (by simp) rfl) rfl ?_
  refine s_a (by first | exact h_box_agg rfl rfl | exact h_box rfl (by simp) rfl) rfl ?_
  refine s_p (by first | exact h_assign (v := .s _) rfl | exact h_assign (v := .agg _) rfl | exact h_assign (v := .tup _) rfl) ?_
  refine s_nil ?_
  refine n_wp ?_
  refine w_seq ?_
  refine w_seq ?_
  refine c_reg (by kernel_rfl) rfl ?_
  refine s_p (h_call callable_44 rfl (alive20 _)) ?_
  refine s_p (h_not rfl) ?_
  refine s_p (by first | exact h_move (v := .s _) rfl | exact h_move (v := .agg _) rfl | exact h_move (v := .tup _) rfl) ?_
  first | refine s_on rfl rfl (by first | rfl | assumption) (by first | exact h_move (v := .s _) rfl | exact h_move (v := .agg _) rfl | exact h_move (v := .tup _) rfl) ?_ | refine s_off rfl rfl (by first | rfl | assumption) ?_
  first | refine s_on rfl rfl (by first | rfl | assumption) (by first | exact h_len rfl Try.underlying29 | exact h_len_nil rfl Try.underlying29 | exact h_len_val rfl Try.underlying29) ?_ | refine s_off rfl rfl (by first | rfl | assumption) ?_
  first | refine s_on rfl rfl (by first | rfl | assumption) (h_bin rfl rfl (b_gtr (decide_eq_true (by omega)))) ?_ | refine s_off rfl rfl (by first | rfl | assumption) ?_
  refine s_p (by first | exact h_pick_t rfl (by first | rfl | assumption) rfl | exact h_pick_f rfl (by first | rfl | assumption) rfl) ?_
  refine s_p (by first | exact h_move (v := .s _) rfl | exact h_move (v := .agg _) rfl | exact h_move (v := .tup _) rfl) ?_
  first | refine s_on rfl rfl (by first | rfl | assumption) (h_ixl 0 rfl rfl rfl Try.underlying100 Try.sizeOf61 (by omega)) ?_ | refine s_off rfl rfl (by first | rfl | assumption) ?_
  first | refine s_on rfl rfl (by first | rfl | assumption) (by first | exact h_load_ints rfl rfl rfl (by omega) rfl Try.isAgg61 | exact h_load_one rfl rfl rfl Try.isAgg61) ?_ | refine s_off rfl rfl (by first | rfl | assumption) ?_
  first | refine s_on rfl rfl (by first | rfl | assumption) (h_ixl 1 rfl rfl rfl Try.underlying100 Try.sizeOf61 (by omega)) ?_ | refine s_off rfl rfl (by first | rfl | assumption) ?_
  first | refine s_on rfl rfl (by first | rfl | assumption) (by first | exact h_load_ints rfl rfl rfl (by omega) rfl Try.isAgg61 | exact h_load_one rfl rfl rfl Try.isAgg61) ?_ | refine s_off rfl rfl (by first | rfl | assumption) ?_
  first | refine s_on rfl rfl (by first | rfl | assumption) (h_bin rfl rfl (b_eql (decide_eq_false (fun h => by have h : ((n0 : Nat) : Int) = ((n1 : Nat) : Int) := h; omega)))) ?_ | refine s_off rfl rfl (by first | rfl | assumption) ?_
  refine s_p (by first | exact h_pick_t rfl (by first | rfl | assumption) rfl | exact h_pick_f rfl (by first | rfl | assumption) rfl) ?_
  refine s_nil ?_
  refine n_wp ?_
  refine w_cond rfl (fun hc_t35 => ?_) (fun hc_t35 => ?_)
  rotate_left
  · exact absurd hc_t35 (by simp)
  refine w_seq ?_
  refine c_reg (by kernel_rfl) rfl ?_
  refine s_p (h_call callable_44 rfl (alive20 _)) ?_
  refine s_p (by first | exact h_assign (v := .s _) rfl | exact h_assign (v := .agg _) rfl | exact h_assign (v := .tup _) rfl) ?_
  refine s_nil ?_
  refine n_wp ?_
  refine w_ret ?_
  refine r_thn ?_
  exact ⟨.inl rfl, ret_tmp Try.results19 rfl⟩
set_option maxRecDepth 100000 in
set_option maxHeartbeats 2000000 in
theorem apart_e (M C M2 C2 : List Int) (n0 n1 : Nat) (hM : M.length = 32) (hC : C.length = 16) (hC8 : U8 C) (hM2 : M2.length = 32) (hC2 : C2.length = 16) (hn0 : n0 < 4294967296) (hn1 : n1 < 4294967296) (a : Option Addr) (k c : Nat) (hk : k ≤ 2019) (hnn : n0 = n1) (cd : Code) (hc : Try.f19.body = some cd) (W : Nat → Prop) (w : World) (ρ0 : Rho) (hW : ∀ b, w.heap.size ≤ b → W b) (hdom : ∀ id, 0 ≤ id → ρ0 id = none) :
    Wp ⟨Try.prog, W, w, ρ0, 112, 0, hW, hdom⟩ cd (argT 0 [.agg [.ints .u8 32 M, .ints .u8 16 C, .ints .u8 32 M2, .ints .u8 16 C2], .agg [.ints .u32 2 [((n0 : Nat) : Int), ((n1 : Nat) : Int)]], .s (.val (.slice a k c))]) [] (DoneF ⟨Try.prog, W, w, ρ0, 112, 0, hW, hdom⟩ Try.f19 (.s (.bool true))) := by
  cases hc
  refine w_seq ?_
  refine c_reg (by kernel_rfl) rfl ?_
  refine s_a (by first | exact h_box_agg rfl rfl | exact h_box rfl (by simp) rfl) rfl ?_
  refine s_a (by first | exact h_box_agg rfl rfl | exact h_box rfl (by simp) rfl) rfl ?_
  refine s_p (by first | exact h_assign (v := .s _) rfl | exact h_assign (v := .agg _) rfl | exact h_assign (v := .tup _) rfl) ?_
  refine s_nil ?_
  refine n_wp ?_
  refine w_seq ?_
  refine w_seq ?_
  refine c_reg (by kernel_rfl) rfl ?_
  refine s_p (h_call callable_44 rfl (alive20 _)) ?_
  refine s_p (h_not rfl) ?_
  refine s_p (by first | exact h_move (v := .s _) rfl | exact h_move (v := .agg _) rfl | exact h_move (v := .tup _) rfl) ?_
  first | refine s_on rfl rfl (by first | rfl | assumption) (by first | exact h_move (v := .s _) rfl | exact h_move (v := .agg _) rfl | exact h_move (v := .tup _) rfl) ?_ | refine s_off rfl rfl (by first | rfl | assumption) ?_
  first | refine s_on rfl rfl (by first | rfl | assumption) (by first | exact h_len rfl Try.underlying29 | exact h_len_nil rfl Try.underlying29 | exact h_len_val rfl Try.underlying29) ?_ | refine s_off rfl rfl (by first | rfl | assumption) ?_
  first | refine s_on rfl rfl (by first | rfl | assumption) (h_bin rfl rfl (b_gtr (decide_eq_false (by omega)))) ?_ | refine s_off rfl rfl (by first | rfl | assumption) ?_
  refine s_p (by first | exact h_pick_t rfl (by first | rfl | assumption) rfl | exact h_pick_f rfl (by first | rfl | assumption) rfl) ?_
  refine s_p (by first | exact h_move (v := .s _) rfl | exact h_move (v := .agg _) rfl | exact h_move (v := .tup _) rfl) ?_
  first | refine s_on rfl rfl (by first | rfl | assumption) (h_ixl 0 rfl rfl rfl Try.underlying100 Try.sizeOf61 (by omega)) ?_ | refine s_off rfl rfl (by first | rfl | assumption) ?_
  first | refine s_on rfl rfl (by first | rfl | assumption) (by first | exact h_load_ints rfl rfl rfl (by omega) rfl Try.isAgg61 | exact h_load_one rfl rfl rfl Try.isAgg61) ?_ | refine s_off rfl rfl (by first | rfl | assumption) ?_
  first | refine s_on rfl rfl (by first | rfl | assumption) (h_ixl 1 rfl rfl rfl Try.underlying100 Try.sizeOf61 (by omega)) ?_ | refine s_off rfl rfl (by first | rfl | assumption) ?_
  first | refine s_on rfl rfl (by first | rfl | assumption) (by first | exact h_load_ints rfl rfl rfl (by omega) rfl Try.isAgg61 | exact h_load_one rfl rfl rfl Try.isAgg61) ?_ | refine s_off rfl rfl (by first | rfl | assumption) ?_
  first | refine s_on rfl rfl (by first | rfl | assumption) (h_bin rfl rfl (b_eql (decide_eq_true (show ((n0 : Nat) : Int) = ((n1 : Nat) : Int) by omega)))) ?_ | refine s_off rfl rfl (by first | rfl | assumption) ?_
  refine s_p (by first | exact h_pick_t rfl (by first | rfl | assumption) rfl | exact h_pick_f rfl (by first | rfl | assumption) rfl) ?_
  refine s_nil ?_
  refine n_wp ?_
  refine w_cond rfl (fun hc_t35 => ?_) (fun hc_t35 => ?_)
  rotate_left
  · exact absurd hc_t35 (by simp)
  refine w_seq ?_
  refine c_reg (by kernel_rfl) rfl ?_
  refine s_p (h_call callable_44 rfl (alive20 _)) ?_
  refine s_p (by first | exact h_assign (v := .s _) rfl | exact h_assign (v := .agg _) rfl | exact h_assign (v := .tup _) rfl) ?_
  refine s_nil ?_
  refine n_wp ?_
  refine w_ret ?_
  refine r_thn ?_
  exact ⟨.inl rfl, ret_tmp Try.results19 rfl⟩
end Go.Proofs.X
