/- A part of the proofs of this claim: SealW2 (SealW2). No conditions. -/
import Derived.Test.YtffflnpidipheaaSealW1
import Derived.Test.YtffflnpidipheaaStrmV
import Derived.Test.YtffflnpidipheaaSameW
set_option linter.unusedVariables false
set_option linter.unusedSimpArgs false
open Go Go.Ab Go.Proofs
namespace Go.Proofs.X
theorem ahL_U8 (l n : Int) : U8 (ahL l n) := by
  rw [ahL_eq]
  refine U8_mem fun x hx => ?_
  simp only [List.mem_cons, List.not_mem_nil, or_false] at hx
  rcases hx with h | h | h | h | h | h | h | h | h | h | h | h | h
  · subst h; omega
  all_goals (subst h; exact wrap_u8_range _)
theorem fiL_U8 {x : List Int} (h : U8 x) : U8 (fiL x) := U8_spl (U8_z 16) (h.cut 1 12) _ _ _
set_option maxRecDepth 100000 in
set_option maxHeartbeats 2000000 in
theorem seal_s (H : Heap) (M C : List Int) (l n : Nat) (hM : M.length = 32) (hC : C.length = 16) (hC8 : U8 C) (hl : l < 4294967296) (id sh len cap : Nat) (B : List Int) (bd : Blk) (hdl : B.length = len) (hdc : len ≤ cap) (hdm : len ≤ 140737488351232) (hd : H[id]? = some (some bd)) (hds : ∀ (i : Nat) (y : SV), atS [.ints .u8 len B] i = some y → atS bd.segs (sh + i) = some y) (h0 : 0 < len) (h2k : len ≤ 2019) : ACall Try.prog 35 H [.agg [.ints .u8 32 M, .ints .u8 16 C], .s (.int .u32 ((l : Nat) : Int)), .s (.int .u64 ((n : Nat) : Int)), .s (.slice id (0 + sh) 0 len cap)] (.tup [.s (.slice (H.length + 0) (0 + 0) 0 (29 + len) (29 + len)), .s (.int .i64 0)]) [⟨true, [.ints .u8 (29 + len) (sealL M C ((l : Nat) : Int) ((n : Nat) : Int) B len)]⟩] := by
  refine acall_gen2 (args0 := [.agg [.ints .u8 32 M, .ints .u8 16 C], .s (.int .u32 ((l : Nat) : Int)), .s (.int .u64 ((n : Nat) : Int)), .s (.slice 0 0 0 len cap)]) (H0 := [some ⟨false, [.ints .u8 len B]⟩]) (Hf := [none, none, none, none, none, some ⟨true, [.ints .u8 (29 + len) (sealL M C ((l : Nat) : Int) ((n : Nat) : Int) B len)]⟩]) (v0 := .tup [.s (.slice 5 0 0 (29 + len) (29 + len)), .s (.int .i64 0)]) [(id, sh)] [5] Try.func35 rfl Try.ntmps35 (by simp) rfl
    (fun k id' sh' b0 h1 h2 => by
      match k, h1, h2 with
      | 0, h1, h2 => simp at h1 h2; obtain ⟨rfl, rfl⟩ := h1; subst h2; exact ⟨rfl, rfl, _, hd, fun i y hy => by (have h := hds i y hy; obtain ⟨_, rfl⟩ := atS_ints1 hy; exact h)⟩
      | k + 1, h1, _ => simp at h1)
    (fun W ρ vals w hH ha k id' sh' hk => by
      match k, hk with
      | 0, hk => simp at hk; obtain ⟨rfl, rfl⟩ := hk; exact ⟨(List.getElem?_eq_some_iff.1 hd).1, live_slice (i := 3) ha rfl⟩
      | k + 1, hk => simp at hk)
    rfl rfl rfl (by decide) rfl rfl rfl (fun W w ρ0 hW hdom => ?_)
  refine w_seq ?_
  refine c_reg (by kernel_rfl) rfl ?_
  refine s_a (by first | exact h_box_agg rfl rfl | exact h_box rfl (by simp) rfl) rfl ?_
  refine s_p (by first | exact h_assign (v := .s _) rfl | exact h_assign (v := .agg _) rfl | exact h_assign (v := .tup _) rfl) ?_
  refine s_p (by first | exact h_assign (v := .s _) rfl | exact h_assign (v := .agg _) rfl | exact h_assign (v := .tup _) rfl) ?_
  refine s_nil ?_
  refine n_wp ?_
  refine w_seq ?_
  refine w_seq ?_
  refine c_reg (by kernel_rfl) rfl ?_
  refine s_p (by first | exact h_move (v := .s _) rfl | exact h_move (v := .agg _) rfl | exact h_move (v := .tup _) rfl) ?_
  refine s_p (by first | exact h_len rfl Try.underlying29 | exact h_len_nil rfl Try.underlying29 | exact h_len_val rfl Try.underlying29) ?_
  refine s_p (h_bin rfl rfl (b_gtr rfl)) ?_
  refine s_nil ?_
  refine n_wp ?_
  refine w_cond rfl (fun hc_t15 => ?_) (fun hc_t15 => ?_)
  · exact absurd hc_t15 (by intro h; have := of_decide_eq_true h; omega)
  refine w_skip ?_
  refine n_wp ?_
  refine w_seq ?_
  refine c_reg (by kernel_rfl) rfl ?_
  refine s_a (h_bsli1 rfl Try.underlying29 Try.sizeOf5 Try.zeroValue5 rfl rfl) rfl ?_
  refine s_p (by first | exact h_move (v := .s _) rfl | exact h_move (v := .agg _) rfl | exact h_move (v := .tup _) rfl) ?_
  refine s_p (h_conv (r := ((l : Nat) : Int)) rfl Try.underlying61 Try.underlying40 (wrap64 (by omega) (by omega))) ?_
  refine s_a (h_call callable_60 rfl (Put_s _ 2 0 1 1 4 5 ((l : Nat) : Int) [9] _ rfl (Nat.le_refl _) (by omega) rfl (fun i y hy => by rw [Nat.zero_add i]; exact hy) (by omega) rfl)) rfl ?_
  refine s_p (by first | exact h_move (v := .s _) rfl | exact h_move (v := .agg _) rfl | exact h_move (v := .tup _) rfl) ?_
  refine s_a (h_call callable_60 rfl (Put_s _ 3 0 5 5 8 13 ((n : Nat) : Int) (rowL 5 [9] 1 4 1 [((l : Nat) : Int)]) _ (rowL_len _ _ _ _ _ _) (Nat.le_refl _) (by omega) rfl (fun i y hy => by rw [Nat.zero_add i]; exact hy) (by omega) rfl)) rfl ?_
  refine s_heap (H' := [some ⟨false, [.ints .u8 len B]⟩, some ⟨true, [.ints .u8 32 M, .ints .u8 16 C]⟩, some ⟨true, [.ints .u8 1 [9]]⟩, some ⟨true, [.ints .u8 5 (rowL 5 [9] 1 4 1 [((l : Nat) : Int)])]⟩, some ⟨true, [.ints .u8 13 (ahL ((l : Nat) : Int) ((n : Nat) : Int))]⟩]) (by kernel_rfl) ?_
  refine s_p (by first | exact h_assign (v := .s _) rfl | exact h_assign (v := .agg _) rfl | exact h_assign (v := .tup _) rfl) ?_
  refine s_nil ?_
  refine n_wp ?_
  refine w_seq ?_
  refine c_reg (by kernel_rfl) rfl ?_
  refine s_p (by first | exact h_move (v := .s _) rfl | exact h_move (v := .agg _) rfl | exact h_move (v := .tup _) rfl) ?_
  refine s_p (by first | exact h_len rfl Try.underlying29 | exact h_len_nil rfl Try.underlying29 | exact h_len_val rfl Try.underlying29) ?_
  refine s_p (h_bin rfl rfl (b_add (r := ((29 + len : Nat) : Int)) (wr_n (by omega) (by omega)))) ?_
  refine s_a (h_make (l := 29 + len) (c := 29 + len) rfl rfl (Nat.le_refl _) (by rw [show Try.t5.bytes = 1 from rfl]; omega) (by omega) Try.underlying29 infoB5 rfl rfl rfl) rfl ?_
  refine s_p (by first | exact h_assign (v := .s _) rfl | exact h_assign (v := .agg _) rfl | exact h_assign (v := .tup _) rfl) ?_
  refine s_nil ?_
  refine n_wp ?_
  refine w_seq ?_
  refine c_reg (by kernel_rfl) rfl ?_
  refine s_p (by first | exact h_move (v := .s _) rfl | exact h_move (v := .agg _) rfl | exact h_move (v := .tup _) rfl) ?_
  refine s_p (by first | exact h_move (v := .s _) rfl | exact h_move (v := .agg _) rfl | exact h_move (v := .tup _) rfl) ?_
  refine s_m (m_copy (n := 13) (idx2 := 0) rfl rfl rfl rfl rfl (ahL_len _ _) (by omega) (by omega) Try.underlying29 Try.sizeOf5 (.ints (by omega) rfl (by omega))) ?_
  refine s_heap (H' := [some ⟨false, [.ints .u8 len B]⟩, some ⟨true, [.ints .u8 32 M, .ints .u8 16 C]⟩, some ⟨true, [.ints .u8 1 [9]]⟩, some ⟨true, [.ints .u8 5 (rowL 5 [9] 1 4 1 [((l : Nat) : Int)])]⟩, some ⟨true, [.ints .u8 13 (ahL ((l : Nat) : Int) ((n : Nat) : Int))]⟩, some ⟨true, [.ints .u8 (29 + len) (so1 ((l : Nat) : Int) ((n : Nat) : Int) len)]⟩]) (by kernel_rfl) ?_
  refine s_nil ?_
  refine n_wp ?_
  refine w_seq ?_
  refine c_any 8 mix (by kernel_rfl) (by kernel_rfl) rfl rfl rfl ?_
  refine t_p (by first | exact h_move (v := .s _) rfl | exact h_move (v := .agg _) rfl | exact h_move (v := .tup _) rfl) ?_
  refine t_p (h_slice_l3 (l := 13) (n := 16 + len) (c := 16 + len) rfl rfl rfl Try.underlying29 Try.sizeOf5 (by omega) (by omega) (by omega) (by omega)) ?_
  refine t_p (h_field rfl Try.underlying56 rfl Try.sizeOf22 (by decide)) ?_
  refine t_p (by first | exact h_load_agg rfl rfl (.whole rfl) Try.isAgg22 Try.sizeOf22 | exact h_load_agg rfl rfl (.seg rfl rfl) Try.isAgg22 Try.sizeOf22 | exact h_load_agg rfl rfl (.ints rfl (by omega)) Try.isAgg22 Try.sizeOf22) ?_
  refine t_p (by first | exact h_move (v := .s _) rfl | exact h_move (v := .agg _) rfl | exact h_move (v := .tup _) rfl) ?_
  refine t_p (h_call callable_61 rfl (first_c _ 4 0 13 13 (ahL ((l : Nat) : Int) ((n : Nat) : Int)) _ (ahL_len _ _) (Nat.le_refl _) (by omega) rfl (fun i y hy => by rw [Nat.zero_add i]; exact hy) (by omega))) ?_
  refine t_p (by first | exact h_move (v := .s _) rfl | exact h_move (v := .agg _) rfl | exact h_move (v := .tup _) rfl) ?_
  refine t_a (h_call callable_26 rfl (stream_c C (fiL (ahL ((l : Nat) : Int) ((n : Nat) : Int))) B hC hC8 (fiL_len _) (fiL_U8 (ahL_U8 _ _)) len cap h0 (by omega) _ 0 0 0 len _ B rfl rfl (by omega) (by rw [List.drop_zero, List.take_of_length_le (by omega)]))) rfl ?_
  refine t_nil ?_
  refine s_m (m_copy (n := len) (idx2 := 0) rfl rfl rfl rfl rfl (streamN_len _ _ _ _) (by omega) (by omega) Try.underlying29 Try.sizeOf5 (.ints (by omega) rfl (by omega))) ?_
  refine s_heap (H' := [some ⟨false, [.ints .u8 len B]⟩, some ⟨true, [.ints .u8 32 M, .ints .u8 16 C]⟩, some ⟨true, [.ints .u8 1 [9]]⟩, some ⟨true, [.ints .u8 5 (rowL 5 [9] 1 4 1 [((l : Nat) : Int)])]⟩, some ⟨true, [.ints .u8 13 (ahL ((l : Nat) : Int) ((n : Nat) : Int))]⟩, some ⟨true, [.ints .u8 (29 + len) (so2 C ((l : Nat) : Int) ((n : Nat) : Int) B len)]⟩, some ⟨true, [.ints .u8 len (streamN C (fiL (ahL ((l : Nat) : Int) ((n : Nat) : Int))) B len)]⟩]) (by kernel_rfl) ?_
  refine s_nil ?_
  refine n_wp ?_
  refine w_seq ?_
  refine c_any 13 mix (by kernel_rfl) (by kernel_rfl) rfl rfl rfl ?_
  refine t_p (h_field rfl Try.underlying56 rfl Try.sizeOf44 (by decide)) ?_
  refine t_p (h_asl_0 rfl Try.underlying44 Try.sizeOf5 (by omega)) ?_
  refine t_p (by first | exact h_move (v := .s _) rfl | exact h_move (v := .agg _) rfl | exact h_move (v := .tup _) rfl) ?_
  refine t_p (by first | exact h_move (v := .s _) rfl | exact h_move (v := .agg _) rfl | exact h_move (v := .tup _) rfl) ?_
  refine t_p (by first | exact h_len rfl Try.underlying29 | exact h_len_nil rfl Try.underlying29 | exact h_len_val rfl Try.underlying29) ?_
  refine t_p (h_bin rfl rfl (b_add (r := ((13 + len : Nat) : Int)) (wr_n (by omega) (by omega)))) ?_
  refine t_p (by first | exact h_move (v := .s _) rfl | exact h_move (v := .agg _) rfl | exact h_move (v := .tup _) rfl) ?_
  refine t_p (by first | exact h_len rfl Try.underlying29 | exact h_len_nil rfl Try.underlying29 | exact h_len_val rfl Try.underlying29) ?_
  refine t_p (h_bin rfl rfl (b_add (r := ((13 + len : Nat) : Int)) (wr_n (by omega) (by omega)))) ?_
  refine t_p (h_slice_hm (h := 13 + len) (m := 13 + len) rfl rfl rfl rfl rfl Try.underlying29 Try.sizeOf5 (Nat.le_refl _) (by omega)) ?_
  refine t_a (h_bsls1 rfl (by simp) Try.underlying92 Try.sizeOf29 Try.zeroValue29 rfl rfl) rfl ?_
  refine t_p (h_call callable_31 rfl (mac1 _ 1 0 32 7 M _ _ (((so2 C ((l : Nat) : Int) ((n : Nat) : Int) B len).drop 0).take (13 + len)) (13 + len) (13 + len) hM (Nat.le_refl _) rfl win_fst rfl 5 0 _ (by rw [List.drop_zero, List.length_take]; have := so2_len C ((l : Nat) : Int) ((n : Nat) : Int) B len; omega) (Nat.le_refl _) (by omega) rfl (fun i y hy => win_ints (segs := [.ints .u8 (29 + len) (so2 C ((l : Nat) : Int) ((n : Nat) : Int) B len)]) (base := 0) (idx := 0) (n := 13 + len) (m := 29 + len) rfl (by omega) i y hy) rfl)) ?_
  refine t_a (h_alloc (segs := [.ints .u8 32 (z 32)]) Try.zeroValue44 (by kernel_rfl) rfl) rfl ?_
  refine t_nil ?_
  refine s_st (m_store_agg (n := 32) (segs := [.ints .u8 32 (z 32)]) (sub := [.ints .u8 32 (sMac M (so2 C ((l : Nat) : Int) ((n : Nat) : Int) B len) (13 + len))]) (id := 8) (base := 0) (idx := 0) rfl rfl rfl (.whole (Nat.le_of_ble_eq_true rfl) rfl rfl) Try.sizeOf44 rfl) ?_
  refine s_heap (H' := [some ⟨false, [.ints .u8 len B]⟩, some ⟨true, [.ints .u8 32 M, .ints .u8 16 C]⟩, some ⟨true, [.ints .u8 1 [9]]⟩, some ⟨true, [.ints .u8 5 (rowL 5 [9] 1 4 1 [((l : Nat) : Int)])]⟩, some ⟨true, [.ints .u8 13 (ahL ((l : Nat) : Int) ((n : Nat) : Int))]⟩, some ⟨true, [.ints .u8 (29 + len) (so2 C ((l : Nat) : Int) ((n : Nat) : Int) B len)]⟩, some ⟨true, [.ints .u8 len (streamN C (fiL (ahL ((l : Nat) : Int) ((n : Nat) : Int))) B len)]⟩, some ⟨true, [.one (.slice 5 0 0 (13 + len) (13 + len))]⟩, some ⟨true, [.ints .u8 32 (sMac M (so2 C ((l : Nat) : Int) ((n : Nat) : Int) B len) (13 + len))]⟩]) (by kernel_rfl) ?_
  refine s_nil ?_
  refine n_wp ?_
  refine w_seq ?_
  refine c_any 6 mix (by kernel_rfl) (by kernel_rfl) rfl rfl rfl ?_
  refine t_p (by first | exact h_move (v := .s _) rfl | exact h_move (v := .agg _) rfl | exact h_move (v := .tup _) rfl) ?_
  refine t_p (by first | exact h_move (v := .s _) rfl | exact h_move (v := .agg _) rfl | exact h_move (v := .tup _) rfl) ?_
  refine t_p (by first | exact h_len rfl Try.underlying29 | exact h_len_nil rfl Try.underlying29 | exact h_len_val rfl Try.underlying29) ?_
  refine t_p (h_bin rfl rfl (b_add (r := ((13 + len : Nat) : Int)) (wr_n (by omega) (by omega)))) ?_
  refine t_p (h_slice_l3 (l := 13 + len) (n := 16) (c := 16) rfl rfl rfl Try.underlying29 Try.sizeOf5 (by omega) (by omega) (by omega) (by omega)) ?_
  refine t_p (h_asl_h (h := 16) rfl rfl rfl Try.underlying44 Try.sizeOf5 (by omega) (by omega)) ?_
  refine t_nil ?_
  refine s_m (m_copy (n := 16) (idx2 := 0) rfl rfl rfl rfl rfl (sMac_len _ _ _) (by omega) (by omega) Try.underlying29 Try.sizeOf5 (.ints (by omega) rfl (by omega))) ?_
  refine s_nil ?_
  refine n_wp ?_
  refine w_seq ?_
  refine c_reg (by kernel_rfl) rfl ?_
  refine s_p (by first | exact h_move (v := .s _) rfl | exact h_move (v := .agg _) rfl | exact h_move (v := .tup _) rfl) ?_
  refine s_p (by first | exact h_assign (v := .s _) rfl | exact h_assign (v := .agg _) rfl | exact h_assign (v := .tup _) rfl) ?_
  refine s_p (by first | exact h_assign (v := .s _) rfl | exact h_assign (v := .agg _) rfl | exact h_assign (v := .tup _) rfl) ?_
  refine s_nil ?_
  refine n_wp ?_
  refine w_ret ?_
  exact doneM (by repeat (first | exact trivial | refine ⟨rfl, ?_⟩)) (ret_tmps2 Try.results35 rfl rfl)
set_option maxRecDepth 100000 in
set_option maxHeartbeats 2000000 in
theorem seal_v (H : Heap) (M C : List Int) (l n : Nat) (hM : M.length = 32) (hC : C.length = 16) (hC8 : U8 C) (hl : l < 4294967296) (a : Option Addr) (c : Nat) : ACall Try.prog 35 H [.agg [.ints .u8 32 M, .ints .u8 16 C], .s (.int .u32 ((l : Nat) : Int)), .s (.int .u64 ((n : Nat) : Int)), .s (.val (.slice a 0 c))] (.tup [.s (.slice (H.length + 0) (0 + 0) 0 (29 + 0) (29 + 0)), .s (.int .i64 0)]) [⟨true, [.ints .u8 (29 + 0) (sealL M C ((l : Nat) : Int) ((n : Nat) : Int) [] 0)]⟩] := by
  refine acall_gen2 (args0 := [.agg [.ints .u8 32 M, .ints .u8 16 C], .s (.int .u32 ((l : Nat) : Int)), .s (.int .u64 ((n : Nat) : Int)), .s (.val (.slice a 0 c))]) (H0 := []) (Hf := [none, none, none, none, some ⟨true, [.ints .u8 (29 + 0) (sealL M C ((l : Nat) : Int) ((n : Nat) : Int) [] 0)]⟩]) (v0 := .tup [.s (.slice 4 0 0 (29 + 0) (29 + 0)), .s (.int .i64 0)]) [] [4] Try.func35 rfl Try.ntmps35 (by simp) rfl
    (fun k id sh b0 h1 h2 => by simp at h1) (fun W ρ vals w hH ha k id' sh' hk => by simp at hk) rfl rfl rfl (by decide) rfl rfl rfl (fun W w ρ0 hW hdom => ?_)
  refine w_seq ?_
  refine c_reg (by kernel_rfl) rfl ?_
  refine s_a (by first | exact h_box_agg rfl rfl | exact h_box rfl (by simp) rfl) rfl ?_
  refine s_p (by first | exact h_assign (v := .s _) rfl | exact h_assign (v := .agg _) rfl | exact h_assign (v := .tup _) rfl) ?_
  refine s_p (by first | exact h_assign (v := .s _) rfl | exact h_assign (v := .agg _) rfl | exact h_assign (v := .tup _) rfl) ?_
  refine s_nil ?_
  refine n_wp ?_
  refine w_seq ?_
  refine w_seq ?_
  refine c_reg (by kernel_rfl) rfl ?_
  refine s_p (by first | exact h_move (v := .s _) rfl | exact h_move (v := .agg _) rfl | exact h_move (v := .tup _) rfl) ?_
  refine s_p (by first | exact h_len rfl Try.underlying29 | exact h_len_nil rfl Try.underlying29 | exact h_len_val rfl Try.underlying29) ?_
  refine s_p (h_bin rfl rfl (b_gtr rfl)) ?_
  refine s_nil ?_
  refine n_wp ?_
  refine w_cond rfl (fun hc_t15 => ?_) (fun hc_t15 => ?_)
  · exact absurd hc_t15 (by decide)
  refine w_skip ?_
  refine n_wp ?_
  refine w_seq ?_
  refine c_reg (by kernel_rfl) rfl ?_
  refine s_a (h_bsli1 rfl Try.underlying29 Try.sizeOf5 Try.zeroValue5 rfl rfl) rfl ?_
  refine s_p (by first | exact h_move (v := .s _) rfl | exact h_move (v := .agg _) rfl | exact h_move (v := .tup _) rfl) ?_
  refine s_p (h_conv (r := ((l : Nat) : Int)) rfl Try.underlying61 Try.underlying40 (wrap64 (by omega) (by omega))) ?_
  refine s_a (h_call callable_60 rfl (Put_s _ 1 0 1 1 4 5 ((l : Nat) : Int) [9] _ rfl (Nat.le_refl _) (by omega) rfl (fun i y hy => by rw [Nat.zero_add i]; exact hy) (by omega) rfl)) rfl ?_
  refine s_p (by first | exact h_move (v := .s _) rfl | exact h_move (v := .agg _) rfl | exact h_move (v := .tup _) rfl) ?_
  refine s_a (h_call callable_60 rfl (Put_s _ 2 0 5 5 8 13 ((n : Nat) : Int) (rowL 5 [9] 1 4 1 [((l : Nat) : Int)]) _ (rowL_len _ _ _ _ _ _) (Nat.le_refl _) (by omega) rfl (fun i y hy => by rw [Nat.zero_add i]; exact hy) (by omega) rfl)) rfl ?_
  refine s_heap (H' := [some ⟨true, [.ints .u8 32 M, .ints .u8 16 C]⟩, some ⟨true, [.ints .u8 1 [9]]⟩, some ⟨true, [.ints .u8 5 (rowL 5 [9] 1 4 1 [((l : Nat) : Int)])]⟩, some ⟨true, [.ints .u8 13 (ahL ((l : Nat) : Int) ((n : Nat) : Int))]⟩]) (by kernel_rfl) ?_
  refine s_p (by first | exact h_assign (v := .s _) rfl | exact h_assign (v := .agg _) rfl | exact h_assign (v := .tup _) rfl) ?_
  refine s_nil ?_
  refine n_wp ?_
  refine w_seq ?_
  refine c_reg (by kernel_rfl) rfl ?_
  refine s_p (by first | exact h_move (v := .s _) rfl | exact h_move (v := .agg _) rfl | exact h_move (v := .tup _) rfl) ?_
  refine s_p (by first | exact h_len rfl Try.underlying29 | exact h_len_nil rfl Try.underlying29 | exact h_len_val rfl Try.underlying29) ?_
  refine s_p (h_bin rfl rfl (b_add (r := ((29 + 0 : Nat) : Int)) (wr_n (by omega) (by omega)))) ?_
  refine s_a (h_make (l := 29 + 0) (c := 29 + 0) rfl rfl (Nat.le_refl _) (by rw [show Try.t5.bytes = 1 from rfl]; omega) (by omega) Try.underlying29 infoB5 rfl rfl rfl) rfl ?_
  refine s_p (by first | exact h_assign (v := .s _) rfl | exact h_assign (v := .agg _) rfl | exact h_assign (v := .tup _) rfl) ?_
  refine s_nil ?_
  refine n_wp ?_
  refine w_seq ?_
  refine c_reg (by kernel_rfl) rfl ?_
  refine s_p (by first | exact h_move (v := .s _) rfl | exact h_move (v := .agg _) rfl | exact h_move (v := .tup _) rfl) ?_
  refine s_p (by first | exact h_move (v := .s _) rfl | exact h_move (v := .agg _) rfl | exact h_move (v := .tup _) rfl) ?_
  refine s_m (m_copy (n := 13) (idx2 := 0) rfl rfl rfl rfl rfl (ahL_len _ _) (by omega) (by omega) Try.underlying29 Try.sizeOf5 (.ints (by omega) rfl (by omega))) ?_
  refine s_heap (H' := [some ⟨true, [.ints .u8 32 M, .ints .u8 16 C]⟩, some ⟨true, [.ints .u8 1 [9]]⟩, some ⟨true, [.ints .u8 5 (rowL 5 [9] 1 4 1 [((l : Nat) : Int)])]⟩, some ⟨true, [.ints .u8 13 (ahL ((l : Nat) : Int) ((n : Nat) : Int))]⟩, some ⟨true, [.ints .u8 (29 + 0) (so1 ((l : Nat) : Int) ((n : Nat) : Int) 0)]⟩]) (by kernel_rfl) ?_
  refine s_nil ?_
  refine n_wp ?_
  refine w_seq ?_
  refine c_any 8 mix (by kernel_rfl) (by kernel_rfl) rfl rfl rfl ?_
  refine t_p (by first | exact h_move (v := .s _) rfl | exact h_move (v := .agg _) rfl | exact h_move (v := .tup _) rfl) ?_
  refine t_p (h_slice_l3 (l := 13) (n := 16 + 0) (c := 16 + 0) rfl rfl rfl Try.underlying29 Try.sizeOf5 (by omega) (by omega) (by omega) (by omega)) ?_
  refine t_p (h_field rfl Try.underlying56 rfl Try.sizeOf22 (by decide)) ?_
  refine t_p (by first | exact h_load_agg rfl rfl (.whole rfl) Try.isAgg22 Try.sizeOf22 | exact h_load_agg rfl rfl (.seg rfl rfl) Try.isAgg22 Try.sizeOf22 | exact h_load_agg rfl rfl (.ints rfl (by omega)) Try.isAgg22 Try.sizeOf22) ?_
  refine t_p (by first | exact h_move (v := .s _) rfl | exact h_move (v := .agg _) rfl | exact h_move (v := .tup _) rfl) ?_
  refine t_p (h_call callable_61 rfl (first_c _ 3 0 13 13 (ahL ((l : Nat) : Int) ((n : Nat) : Int)) _ (ahL_len _ _) (Nat.le_refl _) (by omega) rfl (fun i y hy => by rw [Nat.zero_add i]; exact hy) (by omega))) ?_
  refine t_p (by first | exact h_move (v := .s _) rfl | exact h_move (v := .agg _) rfl | exact h_move (v := .tup _) rfl) ?_
  refine t_p (h_call callable_26 rfl (stream_e C _ a c _)) ?_
  refine t_nil ?_
  refine s_p (h_copy0 (u := .nils) rfl rfl (.inl rfl) Try.underlying29 Try.sizeOf5) ?_
  refine s_nil ?_
  refine n_wp ?_
  refine w_seq ?_
  refine c_any 13 mix (by kernel_rfl) (by kernel_rfl) rfl rfl rfl ?_
  refine t_p (h_field rfl Try.underlying56 rfl Try.sizeOf44 (by decide)) ?_
  refine t_p (h_asl_0 rfl Try.underlying44 Try.sizeOf5 (by omega)) ?_
  refine t_p (by first | exact h_move (v := .s _) rfl | exact h_move (v := .agg _) rfl | exact h_move (v := .tup _) rfl) ?_
  refine t_p (by first | exact h_move (v := .s _) rfl | exact h_move (v := .agg _) rfl | exact h_move (v := .tup _) rfl) ?_
  refine t_p (by first | exact h_len rfl Try.underlying29 | exact h_len_nil rfl Try.underlying29 | exact h_len_val rfl Try.underlying29) ?_
  refine t_p (h_bin rfl rfl (b_add (r := ((13 + 0 : Nat) : Int)) (wr_n (by omega) (by omega)))) ?_
  refine t_p (by first | exact h_move (v := .s _) rfl | exact h_move (v := .agg _) rfl | exact h_move (v := .tup _) rfl) ?_
  refine t_p (by first | exact h_len rfl Try.underlying29 | exact h_len_nil rfl Try.underlying29 | exact h_len_val rfl Try.underlying29) ?_
  refine t_p (h_bin rfl rfl (b_add (r := ((13 + 0 : Nat) : Int)) (wr_n (by omega) (by omega)))) ?_
  refine t_p (h_slice_hm (h := 13 + 0) (m := 13 + 0) rfl rfl rfl rfl rfl Try.underlying29 Try.sizeOf5 (Nat.le_refl _) (by omega)) ?_
  refine t_a (h_bsls1 rfl (by simp) Try.underlying92 Try.sizeOf29 Try.zeroValue29 rfl rfl) rfl ?_
  refine t_p (h_call callable_31 rfl (mac1 _ 0 0 32 5 M _ _ (((so1 ((l : Nat) : Int) ((n : Nat) : Int) 0).drop 0).take (13 + 0)) (13 + 0) (13 + 0) hM (Nat.le_refl _) rfl win_fst rfl 4 0 _ (by rw [List.drop_zero, List.length_take]; have := so1_len ((l : Nat) : Int) ((n : Nat) : Int) 0; omega) (Nat.le_refl _) (by omega) rfl (fun i y hy => win_ints (segs := [.ints .u8 (29 + 0) (so1 ((l : Nat) : Int) ((n : Nat) : Int) 0)]) (base := 0) (idx := 0) (n := 13 + 0) (m := 29 + 0) rfl (by omega) i y hy) rfl)) ?_
  refine t_a (h_alloc (segs := [.ints .u8 32 (z 32)]) Try.zeroValue44 (by kernel_rfl) rfl) rfl ?_
  refine t_nil ?_
  refine s_st (m_store_agg (n := 32) (segs := [.ints .u8 32 (z 32)]) (sub := [.ints .u8 32 (sMac M (so1 ((l : Nat) : Int) ((n : Nat) : Int) 0) (13 + 0))]) (id := 6) (base := 0) (idx := 0) rfl rfl rfl (.whole (Nat.le_of_ble_eq_true rfl) rfl rfl) Try.sizeOf44 rfl) ?_
  refine s_heap (H' := [some ⟨true, [.ints .u8 32 M, .ints .u8 16 C]⟩, some ⟨true, [.ints .u8 1 [9]]⟩, some ⟨true, [.ints .u8 5 (rowL 5 [9] 1 4 1 [((l : Nat) : Int)])]⟩, some ⟨true, [.ints .u8 13 (ahL ((l : Nat) : Int) ((n : Nat) : Int))]⟩, some ⟨true, [.ints .u8 (29 + 0) (so1 ((l : Nat) : Int) ((n : Nat) : Int) 0)]⟩, some ⟨true, [.one (.slice 4 0 0 (13 + 0) (13 + 0))]⟩, some ⟨true, [.ints .u8 32 (sMac M (so1 ((l : Nat) : Int) ((n : Nat) : Int) 0) (13 + 0))]⟩]) (by kernel_rfl) ?_
  refine s_nil ?_
  refine n_wp ?_
  refine w_seq ?_
  refine c_any 6 mix (by kernel_rfl) (by kernel_rfl) rfl rfl rfl ?_
  refine t_p (by first | exact h_move (v := .s _) rfl | exact h_move (v := .agg _) rfl | exact h_move (v := .tup _) rfl) ?_
  refine t_p (by first | exact h_move (v := .s _) rfl | exact h_move (v := .agg _) rfl | exact h_move (v := .tup _) rfl) ?_
  refine t_p (by first | exact h_len rfl Try.underlying29 | exact h_len_nil rfl Try.underlying29 | exact h_len_val rfl Try.underlying29) ?_
  refine t_p (h_bin rfl rfl (b_add (r := ((13 + 0 : Nat) : Int)) (wr_n (by omega) (by omega)))) ?_
  refine t_p (h_slice_l3 (l := 13 + 0) (n := 16) (c := 16) rfl rfl rfl Try.underlying29 Try.sizeOf5 (by omega) (by omega) (by omega) (by omega)) ?_
  refine t_p (h_asl_h (h := 16) rfl rfl rfl Try.underlying44 Try.sizeOf5 (by omega) (by omega)) ?_
  refine t_nil ?_
  refine s_m (m_copy (n := 16) (idx2 := 0) rfl rfl rfl rfl rfl (sMac_len _ _ _) (by omega) (by omega) Try.underlying29 Try.sizeOf5 (.ints (by omega) rfl (by omega))) ?_
  refine s_nil ?_
  refine n_wp ?_
  refine w_seq ?_
  refine c_reg (by kernel_rfl) rfl ?_
  refine s_p (by first | exact h_move (v := .s _) rfl | exact h_move (v := .agg _) rfl | exact h_move (v := .tup _) rfl) ?_
  refine s_p (by first | exact h_assign (v := .s _) rfl | exact h_assign (v := .agg _) rfl | exact h_assign (v := .tup _) rfl) ?_
  refine s_p (by first | exact h_assign (v := .s _) rfl | exact h_assign (v := .agg _) rfl | exact h_assign (v := .tup _) rfl) ?_
  refine s_nil ?_
  refine n_wp ?_
  refine w_ret ?_
  have e0 : sealL M C ((l : Nat) : Int) ((n : Nat) : Int) [] 0 = spl (so1 ((l : Nat) : Int) ((n : Nat) : Int) 0) (((sMac M (so1 ((l : Nat) : Int) ((n : Nat) : Int) 0) (13 + 0)).drop 0).take 16) (0 + (13 + 0)) 16 (29 + 0) := by rw [sealL, so2_0]
  rw [e0]
  exact doneM (by repeat (first | exact trivial | refine ⟨rfl, ?_⟩)) (ret_tmps2 Try.results35 rfl rfl)
set_option maxRecDepth 100000 in
set_option maxHeartbeats 2000000 in
theorem seal_n (H : Heap) (M C : List Int) (l n : Nat) (hM : M.length = 32) (hC : C.length = 16) (hC8 : U8 C) (hl : l < 4294967296)  : ACall Try.prog 35 H [.agg [.ints .u8 32 M, .ints .u8 16 C], .s (.int .u32 ((l : Nat) : Int)), .s (.int .u64 ((n : Nat) : Int)), .s (.nils)] (.tup [.s (.slice (H.length + 0) (0 + 0) 0 (29 + 0) (29 + 0)), .s (.int .i64 0)]) [⟨true, [.ints .u8 (29 + 0) (sealL M C ((l : Nat) : Int) ((n : Nat) : Int) [] 0)]⟩] := by
  refine acall_gen2 (args0 := [.agg [.ints .u8 32 M, .ints .u8 16 C], .s (.int .u32 ((l : Nat) : Int)), .s (.int .u64 ((n : Nat) : Int)), .s (.nils)]) (H0 := []) (Hf := [none, none, none, none, some ⟨true, [.ints .u8 (29 + 0) (sealL M C ((l : Nat) : Int) ((n : Nat) : Int) [] 0)]⟩]) (v0 := .tup [.s (.slice 4 0 0 (29 + 0) (29 + 0)), .s (.int .i64 0)]) [] [4] Try.func35 rfl Try.ntmps35 (by simp) rfl
    (fun k id sh b0 h1 h2 => by simp at h1) (fun W ρ vals w hH ha k id' sh' hk => by simp at hk) rfl rfl rfl (by decide) rfl rfl rfl (fun W w ρ0 hW hdom => ?_)
  refine w_seq ?_
  refine c_reg (by kernel_rfl) rfl ?_
  refine s_a (by first | exact h_box_agg rfl rfl | exact h_box rfl (by simp) rfl) rfl ?_
  refine s_p (by first | exact h_assign (v := .s _) rfl | exact h_assign (v := .agg _) rfl | exact h_assign (v := .tup _) rfl) ?_
  refine s_p (by first | exact h_assign (v := .s _) rfl | exact h_assign (v := .agg _) rfl | exact h_assign (v := .tup _) rfl) ?_
  refine s_nil ?_
  refine n_wp ?_
  refine w_seq ?_
  refine w_seq ?_
  refine c_reg (by kernel_rfl) rfl ?_
  refine s_p (by first | exact h_move (v := .s _) rfl | exact h_move (v := .agg _) rfl | exact h_move (v := .tup _) rfl) ?_
  refine s_p (by first | exact h_len rfl Try.underlying29 | exact h_len_nil rfl Try.underlying29 | exact h_len_val rfl Try.underlying29) ?_
  refine s_p (h_bin rfl rfl (b_gtr rfl)) ?_
  refine s_nil ?_
  refine n_wp ?_
  refine w_cond rfl (fun hc_t15 => ?_) (fun hc_t15 => ?_)
  · exact absurd hc_t15 (by decide)
  refine w_skip ?_
  refine n_wp ?_
  refine w_seq ?_
  refine c_reg (by kernel_rfl) rfl ?_
  refine s_a (h_bsli1 rfl Try.underlying29 Try.sizeOf5 Try.zeroValue5 rfl rfl) rfl ?_
  refine s_p (by first | exact h_move (v := .s _) rfl | exact h_move (v := .agg _) rfl | exact h_move (v := .tup _) rfl) ?_
  refine s_p (h_conv (r := ((l : Nat) : Int)) rfl Try.underlying61 Try.underlying40 (wrap64 (by omega) (by omega))) ?_
  refine s_a (h_call callable_60 rfl (Put_s _ 1 0 1 1 4 5 ((l : Nat) : Int) [9] _ rfl (Nat.le_refl _) (by omega) rfl (fun i y hy => by rw [Nat.zero_add i]; exact hy) (by omega) rfl)) rfl ?_
  refine s_p (by first | exact h_move (v := .s _) rfl | exact h_move (v := .agg _) rfl | exact h_move (v := .tup _) rfl) ?_
  refine s_a (h_call callable_60 rfl (Put_s _ 2 0 5 5 8 13 ((n : Nat) : Int) (rowL 5 [9] 1 4 1 [((l : Nat) : Int)]) _ (rowL_len _ _ _ _ _ _) (Nat.le_refl _) (by omega) rfl (fun i y hy => by rw [Nat.zero_add i]; exact hy) (by omega) rfl)) rfl ?_
  refine s_heap (H' := [some ⟨true, [.ints .u8 32 M, .ints .u8 16 C]⟩, some ⟨true, [.ints .u8 1 [9]]⟩, some ⟨true, [.ints .u8 5 (rowL 5 [9] 1 4 1 [((l : Nat) : Int)])]⟩, some ⟨true, [.ints .u8 13 (ahL ((l : Nat) : Int) ((n : Nat) : Int))]⟩]) (by kernel_rfl) ?_
  refine s_p (by first | exact h_assign (v := .s _) rfl | exact h_assign (v := .agg _) rfl | exact h_assign (v := .tup _) rfl) ?_
  refine s_nil ?_
  refine n_wp ?_
  refine w_seq ?_
  refine c_reg (by kernel_rfl) rfl ?_
  refine s_p (by first | exact h_move (v := .s _) rfl | exact h_move (v := .agg _) rfl | exact h_move (v := .tup _) rfl) ?_
  refine s_p (by first | exact h_len rfl Try.underlying29 | exact h_len_nil rfl Try.underlying29 | exact h_len_val rfl Try.underlying29) ?_
  refine s_p (h_bin rfl rfl (b_add (r := ((29 + 0 : Nat) : Int)) (wr_n (by omega) (by omega)))) ?_
  refine s_a (h_make (l := 29 + 0) (c := 29 + 0) rfl rfl (Nat.le_refl _) (by rw [show Try.t5.bytes = 1 from rfl]; omega) (by omega) Try.underlying29 infoB5 rfl rfl rfl) rfl ?_
  refine s_p (by first | exact h_assign (v := .s _) rfl | exact h_assign (v := .agg _) rfl | exact h_assign (v := .tup _) rfl) ?_
  refine s_nil ?_
  refine n_wp ?_
  refine w_seq ?_
  refine c_reg (by kernel_rfl) rfl ?_
  refine s_p (by first | exact h_move (v := .s _) rfl | exact h_move (v := .agg _) rfl | exact h_move (v := .tup _) rfl) ?_
  refine s_p (by first | exact h_move (v := .s _) rfl | exact h_move (v := .agg _) rfl | exact h_move (v := .tup _) rfl) ?_
  refine s_m (m_copy (n := 13) (idx2 := 0) rfl rfl rfl rfl rfl (ahL_len _ _) (by omega) (by omega) Try.underlying29 Try.sizeOf5 (.ints (by omega) rfl (by omega))) ?_
  refine s_heap (H' := [some ⟨true, [.ints .u8 32 M, .ints .u8 16 C]⟩, some ⟨true, [.ints .u8 1 [9]]⟩, some ⟨true, [.ints .u8 5 (rowL 5 [9] 1 4 1 [((l : Nat) : Int)])]⟩, some ⟨true, [.ints .u8 13 (ahL ((l : Nat) : Int) ((n : Nat) : Int))]⟩, some ⟨true, [.ints .u8 (29 + 0) (so1 ((l : Nat) : Int) ((n : Nat) : Int) 0)]⟩]) (by kernel_rfl) ?_
  refine s_nil ?_
  refine n_wp ?_
  refine w_seq ?_
  refine c_any 8 mix (by kernel_rfl) (by kernel_rfl) rfl rfl rfl ?_
  refine t_p (by first | exact h_move (v := .s _) rfl | exact h_move (v := .agg _) rfl | exact h_move (v := .tup _) rfl) ?_
  refine t_p (h_slice_l3 (l := 13) (n := 16 + 0) (c := 16 + 0) rfl rfl rfl Try.underlying29 Try.sizeOf5 (by omega) (by omega) (by omega) (by omega)) ?_
  refine t_p (h_field rfl Try.underlying56 rfl Try.sizeOf22 (by decide)) ?_
  refine t_p (by first | exact h_load_agg rfl rfl (.whole rfl) Try.isAgg22 Try.sizeOf22 | exact h_load_agg rfl rfl (.seg rfl rfl) Try.isAgg22 Try.sizeOf22 | exact h_load_agg rfl rfl (.ints rfl (by omega)) Try.isAgg22 Try.sizeOf22) ?_
  refine t_p (by first | exact h_move (v := .s _) rfl | exact h_move (v := .agg _) rfl | exact h_move (v := .tup _) rfl) ?_
  refine t_p (h_call callable_61 rfl (first_c _ 3 0 13 13 (ahL ((l : Nat) : Int) ((n : Nat) : Int)) _ (ahL_len _ _) (Nat.le_refl _) (by omega) rfl (fun i y hy => by rw [Nat.zero_add i]; exact hy) (by omega))) ?_
  refine t_p (by first | exact h_move (v := .s _) rfl | exact h_move (v := .agg _) rfl | exact h_move (v := .tup _) rfl) ?_
  refine t_p (h_call callable_26 rfl (stream_nil C _ _)) ?_
  refine t_nil ?_
  refine s_p (h_copy0 (u := .nils) rfl rfl (.inl rfl) Try.underlying29 Try.sizeOf5) ?_
  refine s_nil ?_
  refine n_wp ?_
  refine w_seq ?_
  refine c_any 13 mix (by kernel_rfl) (by kernel_rfl) rfl rfl rfl ?_
  refine t_p (h_field rfl Try.underlying56 rfl Try.sizeOf44 (by decide)) ?_
  refine t_p (h_asl_0 rfl Try.underlying44 Try.sizeOf5 (by omega)) ?_
  refine t_p (by first | exact h_move (v := .s _) rfl | exact h_move (v := .agg _) rfl | exact h_move (v := .tup _) rfl) ?_
  refine t_p (by first | exact h_move (v := .s _) rfl | exact h_move (v := .agg _) rfl | exact h_move (v := .tup _) rfl) ?_
  refine t_p (by first | exact h_len rfl Try.underlying29 | exact h_len_nil rfl Try.underlying29 | exact h_len_val rfl Try.underlying29) ?_
  refine t_p (h_bin rfl rfl (b_add (r := ((13 + 0 : Nat) : Int)) (wr_n (by omega) (by omega)))) ?_
  refine t_p (by first | exact h_move (v := .s _) rfl | exact h_move (v := .agg _) rfl | exact h_move (v := .tup _) rfl) ?_
  refine t_p (by first | exact h_len rfl Try.underlying29 | exact h_len_nil rfl Try.underlying29 | exact h_len_val rfl Try.underlying29) ?_
  refine t_p (h_bin rfl rfl (b_add (r := ((13 + 0 : Nat) : Int)) (wr_n (by omega) (by omega)))) ?_
  refine t_p (h_slice_hm (h := 13 + 0) (m := 13 + 0) rfl rfl rfl rfl rfl Try.underlying29 Try.sizeOf5 (Nat.le_refl _) (by omega)) ?_
  refine t_a (h_bsls1 rfl (by simp) Try.underlying92 Try.sizeOf29 Try.zeroValue29 rfl rfl) rfl ?_
  refine t_p (h_call callable_31 rfl (mac1 _ 0 0 32 5 M _ _ (((so1 ((l : Nat) : Int) ((n : Nat) : Int) 0).drop 0).take (13 + 0)) (13 + 0) (13 + 0) hM (Nat.le_refl _) rfl win_fst rfl 4 0 _ (by rw [List.drop_zero, List.length_take]; have := so1_len ((l : Nat) : Int) ((n : Nat) : Int) 0; omega) (Nat.le_refl _) (by omega) rfl (fun i y hy => win_ints (segs := [.ints .u8 (29 + 0) (so1 ((l : Nat) : Int) ((n : Nat) : Int) 0)]) (base := 0) (idx := 0) (n := 13 + 0) (m := 29 + 0) rfl (by omega) i y hy) rfl)) ?_
  refine t_a (h_alloc (segs := [.ints .u8 32 (z 32)]) Try.zeroValue44 (by kernel_rfl) rfl) rfl ?_
  refine t_nil ?_
  refine s_st (m_store_agg (n := 32) (segs := [.ints .u8 32 (z 32)]) (sub := [.ints .u8 32 (sMac M (so1 ((l : Nat) : Int) ((n : Nat) : Int) 0) (13 + 0))]) (id := 6) (base := 0) (idx := 0) rfl rfl rfl (.whole (Nat.le_of_ble_eq_true rfl) rfl rfl) Try.sizeOf44 rfl) ?_
  refine s_heap (H' := [some ⟨true, [.ints .u8 32 M, .ints .u8 16 C]⟩, some ⟨true, [.ints .u8 1 [9]]⟩, some ⟨true, [.ints .u8 5 (rowL 5 [9] 1 4 1 [((l : Nat) : Int)])]⟩, some ⟨true, [.ints .u8 13 (ahL ((l : Nat) : Int) ((n : Nat) : Int))]⟩, some ⟨true, [.ints .u8 (29 + 0) (so1 ((l : Nat) : Int) ((n : Nat) : Int) 0)]⟩, some ⟨true, [.one (.slice 4 0 0 (13 + 0) (13 + 0))]⟩, some ⟨true, [.ints .u8 32 (sMac M (so1 ((l : Nat) : Int) ((n : Nat) : Int) 0) (13 + 0))]⟩]) (by kernel_rfl) ?_
  refine s_nil ?_
  refine n_wp ?_
  refine w_seq ?_
  refine c_any 6 mix (by kernel_rfl) (by kernel_rfl) rfl rfl rfl ?_
  refine t_p (by first | exact h_move (v := .s _) rfl | exact h_move (v := .agg _) rfl | exact h_move (v := .tup _) rfl) ?_
  refine t_p (by first | exact h_move (v := .s _) rfl | exact h_move (v := .agg _) rfl | exact h_move (v := .tup _) rfl) ?_
  refine t_p (by first | exact h_len rfl Try.underlying29 | exact h_len_nil rfl Try.underlying29 | exact h_len_val rfl Try.underlying29) ?_
  refine t_p (h_bin rfl rfl (b_add (r := ((13 + 0 : Nat) : Int)) (wr_n (by omega) (by omega)))) ?_
  refine t_p (h_slice_l3 (l := 13 + 0) (n := 16) (c := 16) rfl rfl rfl Try.underlying29 Try.sizeOf5 (by omega) (by omega) (by omega) (by omega)) ?_
  refine t_p (h_asl_h (h := 16) rfl rfl rfl Try.underlying44 Try.sizeOf5 (by omega) (by omega)) ?_
  refine t_nil ?_
  refine s_m (m_copy (n := 16) (idx2 := 0) rfl rfl rfl rfl rfl (sMac_len _ _ _) (by omega) (by omega) Try.underlying29 Try.sizeOf5 (.ints (by omega) rfl (by omega))) ?_
  refine s_nil ?_
  refine n_wp ?_
  refine w_seq ?_
  refine c_reg (by kernel_rfl) rfl ?_
  refine s_p (by first | exact h_move (v := .s _) rfl | exact h_move (v := .agg _) rfl | exact h_move (v := .tup _) rfl) ?_
  refine s_p (by first | exact h_assign (v := .s _) rfl | exact h_assign (v := .agg _) rfl | exact h_assign (v := .tup _) rfl) ?_
  refine s_p (by first | exact h_assign (v := .s _) rfl | exact h_assign (v := .agg _) rfl | exact h_assign (v := .tup _) rfl) ?_
  refine s_nil ?_
  refine n_wp ?_
  refine w_ret ?_
  have e0 : sealL M C ((l : Nat) : Int) ((n : Nat) : Int) [] 0 = spl (so1 ((l : Nat) : Int) ((n : Nat) : Int) 0) (((sMac M (so1 ((l : Nat) : Int) ((n : Nat) : Int) 0) (13 + 0)).drop 0).take 16) (0 + (13 + 0)) 16 (29 + 0) := by rw [sealL, so2_0]
  rw [e0]
  exact doneM (by repeat (first | exact trivial | refine ⟨rfl, ?_⟩)) (ret_tmps2 Try.results35 rfl rfl)
set_option maxRecDepth 100000 in
set_option maxHeartbeats 2000000 in
theorem seal_0 (H : Heap) (M C : List Int) (l n : Nat) (hM : M.length = 32) (hC : C.length = 16) (hC8 : U8 C) (hl : l < 4294967296) (id base idx cap : Nat) (hid : id < H.length) : ACall Try.prog 35 H [.agg [.ints .u8 32 M, .ints .u8 16 C], .s (.int .u32 ((l : Nat) : Int)), .s (.int .u64 ((n : Nat) : Int)), .s (.slice id base idx 0 cap)] (.tup [.s (.slice (H.length + 0) (0 + 0) 0 (29 + 0) (29 + 0)), .s (.int .i64 0)]) [⟨true, [.ints .u8 (29 + 0) (sealL M C ((l : Nat) : Int) ((n : Nat) : Int) [] 0)]⟩] := by
  refine acall_gen2 (args0 := [.agg [.ints .u8 32 M, .ints .u8 16 C], .s (.int .u32 ((l : Nat) : Int)), .s (.int .u64 ((n : Nat) : Int)), .s (.slice 0 base idx 0 cap)]) (H0 := [none]) (Hf := [none, none, none, none, none, some ⟨true, [.ints .u8 (29 + 0) (sealL M C ((l : Nat) : Int) ((n : Nat) : Int) [] 0)]⟩]) (v0 := .tup [.s (.slice 5 0 0 (29 + 0) (29 + 0)), .s (.int .i64 0)]) [(id, 0)] [5] Try.func35 rfl Try.ntmps35 (by simp) rfl
    (fun k id' sh' b0 h1 h2 => by
      match k, h2 with
      | 0, h2 => simp at h2
      | k + 1, h2 => simp at h2)
    (fun W ρ vals w hH ha k id' sh' hk => by
      match k, hk with
      | 0, hk => simp at hk; obtain ⟨rfl, rfl⟩ := hk; exact ⟨hid, live_slice (i := 3) ha rfl⟩
      | k + 1, hk => simp at hk)
    rfl rfl rfl (by decide) rfl rfl rfl (fun W w ρ0 hW hdom => ?_)
  refine w_seq ?_
  refine c_reg (by kernel_rfl) rfl ?_
  refine s_a (by first | exact h_box_agg rfl rfl | exact h_box rfl (by simp) rfl) rfl ?_
  refine s_p (by first | exact h_assign (v := .s _) rfl | exact h_assign (v := .agg _) rfl | exact h_assign (v := .tup _) rfl) ?_
  refine s_p (by first | exact h_assign (v := .s _) rfl | exact h_assign (v := .agg _) rfl | exact h_assign (v := .tup _) rfl) ?_
  refine s_nil ?_
  refine n_wp ?_
  refine w_seq ?_
  refine w_seq ?_
  refine c_reg (by kernel_rfl) rfl ?_
  refine s_p (by first | exact h_move (v := .s _) rfl | exact h_move (v := .agg _) rfl | exact h_move (v := .tup _) rfl) ?_
  refine s_p (by first | exact h_len rfl Try.underlying29 | exact h_len_nil rfl Try.underlying29 | exact h_len_val rfl Try.underlying29) ?_
  refine s_p (h_bin rfl rfl (b_gtr rfl)) ?_
  refine s_nil ?_
  refine n_wp ?_
  refine w_cond rfl (fun hc_t15 => ?_) (fun hc_t15 => ?_)
  · exact absurd hc_t15 (by decide)
  refine w_skip ?_
  refine n_wp ?_
  refine w_seq ?_
  refine c_reg (by kernel_rfl) rfl ?_
  refine s_a (h_bsli1 rfl Try.underlying29 Try.sizeOf5 Try.zeroValue5 rfl rfl) rfl ?_
  refine s_p (by first | exact h_move (v := .s _) rfl | exact h_move (v := .agg _) rfl | exact h_move (v := .tup _) rfl) ?_
  refine s_p (h_conv (r := ((l : Nat) : Int)) rfl Try.underlying61 Try.underlying40 (wrap64 (by omega) (by omega))) ?_
  refine s_a (h_call callable_60 rfl (Put_s _ 2 0 1 1 4 5 ((l : Nat) : Int) [9] _ rfl (Nat.le_refl _) (by omega) rfl (fun i y hy => by rw [Nat.zero_add i]; exact hy) (by omega) rfl)) rfl ?_
  refine s_p (by first | exact h_move (v := .s _) rfl | exact h_move (v := .agg _) rfl | exact h_move (v := .tup _) rfl) ?_
  refine s_a (h_call callable_60 rfl (Put_s _ 3 0 5 5 8 13 ((n : Nat) : Int) (rowL 5 [9] 1 4 1 [((l : Nat) : Int)]) _ (rowL_len _ _ _ _ _ _) (Nat.le_refl _) (by omega) rfl (fun i y hy => by rw [Nat.zero_add i]; exact hy) (by omega) rfl)) rfl ?_
  refine s_heap (H' := [none, some ⟨true, [.ints .u8 32 M, .ints .u8 16 C]⟩, some ⟨true, [.ints .u8 1 [9]]⟩, some ⟨true, [.ints .u8 5 (rowL 5 [9] 1 4 1 [((l : Nat) : Int)])]⟩, some ⟨true, [.ints .u8 13 (ahL ((l : Nat) : Int) ((n : Nat) : Int))]⟩]) (by kernel_rfl) ?_
  refine s_p (by first | exact h_assign (v := .s _) rfl | exact h_assign (v := .agg _) rfl | exact h_assign (v := .tup _) rfl) ?_
  refine s_nil ?_
  refine n_wp ?_
  refine w_seq ?_
  refine c_reg (by kernel_rfl) rfl ?_
  refine s_p (by first | exact h_move (v := .s _) rfl | exact h_move (v := .agg _) rfl | exact h_move (v := .tup _) rfl) ?_
  refine s_p (by first | exact h_len rfl Try.underlying29 | exact h_len_nil rfl Try.underlying29 | exact h_len_val rfl Try.underlying29) ?_
  refine s_p (h_bin rfl rfl (b_add (r := ((29 + 0 : Nat) : Int)) (wr_n (by omega) (by omega)))) ?_
  refine s_a (h_make (l := 29 + 0) (c := 29 + 0) rfl rfl (Nat.le_refl _) (by rw [show Try.t5.bytes = 1 from rfl]; omega) (by omega) Try.underlying29 infoB5 rfl rfl rfl) rfl ?_
  refine s_p (by first | exact h_assign (v := .s _) rfl | exact h_assign (v := .agg _) rfl | exact h_assign (v := .tup _) rfl) ?_
  refine s_nil ?_
  refine n_wp ?_
  refine w_seq ?_
  refine c_reg (by kernel_rfl) rfl ?_
  refine s_p (by first | exact h_move (v := .s _) rfl | exact h_move (v := .agg _) rfl | exact h_move (v := .tup _) rfl) ?_
  refine s_p (by first | exact h_move (v := .s _) rfl | exact h_move (v := .agg _) rfl | exact h_move (v := .tup _) rfl) ?_
  refine s_m (m_copy (n := 13) (idx2 := 0) rfl rfl rfl rfl rfl (ahL_len _ _) (by omega) (by omega) Try.underlying29 Try.sizeOf5 (.ints (by omega) rfl (by omega))) ?_
  refine s_heap (H' := [none, some ⟨true, [.ints .u8 32 M, .ints .u8 16 C]⟩, some ⟨true, [.ints .u8 1 [9]]⟩, some ⟨true, [.ints .u8 5 (rowL 5 [9] 1 4 1 [((l : Nat) : Int)])]⟩, some ⟨true, [.ints .u8 13 (ahL ((l : Nat) : Int) ((n : Nat) : Int))]⟩, some ⟨true, [.ints .u8 (29 + 0) (so1 ((l : Nat) : Int) ((n : Nat) : Int) 0)]⟩]) (by kernel_rfl) ?_
  refine s_nil ?_
  refine n_wp ?_
  refine w_seq ?_
  refine c_any 8 mix (by kernel_rfl) (by kernel_rfl) rfl rfl rfl ?_
  refine t_p (by first | exact h_move (v := .s _) rfl | exact h_move (v := .agg _) rfl | exact h_move (v := .tup _) rfl) ?_
  refine t_p (h_slice_l3 (l := 13) (n := 16 + 0) (c := 16 + 0) rfl rfl rfl Try.underlying29 Try.sizeOf5 (by omega) (by omega) (by omega) (by omega)) ?_
  refine t_p (h_field rfl Try.underlying56 rfl Try.sizeOf22 (by decide)) ?_
  refine t_p (by first | exact h_load_agg rfl rfl (.whole rfl) Try.isAgg22 Try.sizeOf22 | exact h_load_agg rfl rfl (.seg rfl rfl) Try.isAgg22 Try.sizeOf22 | exact h_load_agg rfl rfl (.ints rfl (by omega)) Try.isAgg22 Try.sizeOf22) ?_
  refine t_p (by first | exact h_move (v := .s _) rfl | exact h_move (v := .agg _) rfl | exact h_move (v := .tup _) rfl) ?_
  refine t_p (h_call callable_61 rfl (first_c _ 4 0 13 13 (ahL ((l : Nat) : Int) ((n : Nat) : Int)) _ (ahL_len _ _) (Nat.le_refl _) (by omega) rfl (fun i y hy => by rw [Nat.zero_add i]; exact hy) (by omega))) ?_
  refine t_p (by first | exact h_move (v := .s _) rfl | exact h_move (v := .agg _) rfl | exact h_move (v := .tup _) rfl) ?_
  refine t_p (h_call callable_26 rfl (stream_0 C _ 0 base idx cap _)) ?_
  refine t_nil ?_
  refine s_p (h_copy0 (u := .nils) rfl rfl (.inl rfl) Try.underlying29 Try.sizeOf5) ?_
  refine s_nil ?_
  refine n_wp ?_
  refine w_seq ?_
  refine c_any 13 mix (by kernel_rfl) (by kernel_rfl) rfl rfl rfl ?_
  refine t_p (h_field rfl Try.underlying56 rfl Try.sizeOf44 (by decide)) ?_
  refine t_p (h_asl_0 rfl Try.underlying44 Try.sizeOf5 (by omega)) ?_
  refine t_p (by first | exact h_move (v := .s _) rfl | exact h_move (v := .agg _) rfl | exact h_move (v := .tup _) rfl) ?_
  refine t_p (by first | exact h_move (v := .s _) rfl | exact h_move (v := .agg _) rfl | exact h_move (v := .tup _) rfl) ?_
  refine t_p (by first | exact h_len rfl Try.underlying29 | exact h_len_nil rfl Try.underlying29 | exact h_len_val rfl Try.underlying29) ?_
  refine t_p (h_bin rfl rfl (b_add (r := ((13 + 0 : Nat) : Int)) (wr_n (by omega) (by omega)))) ?_
  refine t_p (by first | exact h_move (v := .s _) rfl | exact h_move (v := .agg _) rfl | exact h_move (v := .tup _) rfl) ?_
  refine t_p (by first | exact h_len rfl Try.underlying29 | exact h_len_nil rfl Try.underlying29 | exact h_len_val rfl Try.underlying29) ?_
  refine t_p (h_bin rfl rfl (b_add (r := ((13 + 0 : Nat) : Int)) (wr_n (by omega) (by omega)))) ?_
  refine t_p (h_slice_hm (h := 13 + 0) (m := 13 + 0) rfl rfl rfl rfl rfl Try.underlying29 Try.sizeOf5 (Nat.le_refl _) (by omega)) ?_
  refine t_a (h_bsls1 rfl (by simp) Try.underlying92 Try.sizeOf29 Try.zeroValue29 rfl rfl) rfl ?_
  refine t_p (h_call callable_31 rfl (mac1 _ 1 0 32 6 M _ _ (((so1 ((l : Nat) : Int) ((n : Nat) : Int) 0).drop 0).take (13 + 0)) (13 + 0) (13 + 0) hM (Nat.le_refl _) rfl win_fst rfl 5 0 _ (by rw [List.drop_zero, List.length_take]; have := so1_len ((l : Nat) : Int) ((n : Nat) : Int) 0; omega) (Nat.le_refl _) (by omega) rfl (fun i y hy => win_ints (segs := [.ints .u8 (29 + 0) (so1 ((l : Nat) : Int) ((n : Nat) : Int) 0)]) (base := 0) (idx := 0) (n := 13 + 0) (m := 29 + 0) rfl (by omega) i y hy) rfl)) ?_
  refine t_a (h_alloc (segs := [.ints .u8 32 (z 32)]) Try.zeroValue44 (by kernel_rfl) rfl) rfl ?_
  refine t_nil ?_
  refine s_st (m_store_agg (n := 32) (segs := [.ints .u8 32 (z 32)]) (sub := [.ints .u8 32 (sMac M (so1 ((l : Nat) : Int) ((n : Nat) : Int) 0) (13 + 0))]) (id := 7) (base := 0) (idx := 0) rfl rfl rfl (.whole (Nat.le_of_ble_eq_true rfl) rfl rfl) Try.sizeOf44 rfl) ?_
  refine s_heap (H' := [none, some ⟨true, [.ints .u8 32 M, .ints .u8 16 C]⟩, some ⟨true, [.ints .u8 1 [9]]⟩, some ⟨true, [.ints .u8 5 (rowL 5 [9] 1 4 1 [((l : Nat) : Int)])]⟩, some ⟨true, [.ints .u8 13 (ahL ((l : Nat) : Int) ((n : Nat) : Int))]⟩, some ⟨true, [.ints .u8 (29 + 0) (so1 ((l : Nat) : Int) ((n : Nat) : Int) 0)]⟩, some ⟨true, [.one (.slice 5 0 0 (13 + 0) (13 + 0))]⟩, some ⟨true, [.ints .u8 32 (sMac M (so1 ((l : Nat) : Int) ((n : Nat) : Int) 0) (13 + 0))]⟩]) (by kernel_rfl) ?_
  refine s_nil ?_
  refine n_wp ?_
  refine w_seq ?_
  refine c_any 6 mix (by kernel_rfl) (by kernel_rfl) rfl rfl rfl ?_
  refine t_p (by first | exact h_move (v := .s _) rfl | exact h_move (v := .agg _) rfl | exact h_move (v := .tup _) rfl) ?_
  refine t_p (by first | exact h_move (v := .s _) rfl | exact h_move (v := .agg _) rfl | exact h_move (v := .tup _) rfl) ?_
  refine t_p (by first | exact h_len rfl Try.underlying29 | exact h_len_nil rfl Try.underlying29 | exact h_len_val rfl Try.underlying29) ?_
  refine t_p (h_bin rfl rfl (b_add (r := ((13 + 0 : Nat) : Int)) (wr_n (by omega) (by omega)))) ?_
  refine t_p (h_slice_l3 (l := 13 + 0) (n := 16) (c := 16) rfl rfl rfl Try.underlying29 Try.sizeOf5 (by omega) (by omega) (by omega) (by omega)) ?_
  refine t_p (h_asl_h (h := 16) rfl rfl rfl Try.underlying44 Try.sizeOf5 (by omega) (by omega)) ?_
  refine t_nil ?_
  refine s_m (m_copy (n := 16) (idx2 := 0) rfl rfl rfl rfl rfl (sMac_len _ _ _) (by omega) (by omega) Try.underlying29 Try.sizeOf5 (.ints (by omega) rfl (by omega))) ?_
  refine s_nil ?_
  refine n_wp ?_
  refine w_seq ?_
  refine c_reg (by kernel_rfl) rfl ?_
  refine s_p (by first | exact h_move (v := .s _) rfl | exact h_move (v := .agg _) rfl | exact h_move (v := .tup _) rfl) ?_
  refine s_p (by first | exact h_assign (v := .s _) rfl | exact h_assign (v := .agg _) rfl | exact h_assign (v := .tup _) rfl) ?_
  refine s_p (by first | exact h_assign (v := .s _) rfl | exact h_assign (v := .agg _) rfl | exact h_assign (v := .tup _) rfl) ?_
  refine s_nil ?_
  refine n_wp ?_
  refine w_ret ?_
  have e0 : sealL M C ((l : Nat) : Int) ((n : Nat) : Int) [] 0 = spl (so1 ((l : Nat) : Int) ((n : Nat) : Int) 0) (((sMac M (so1 ((l : Nat) : Int) ((n : Nat) : Int) 0) (13 + 0)).drop 0).take 16) (0 + (13 + 0)) 16 (29 + 0) := by rw [sealL, so2_0]
  rw [e0]
  exact doneM (by repeat (first | exact trivial | refine ⟨rfl, ?_⟩)) (ret_tmps2 Try.results35 rfl rfl)
set_option maxRecDepth 100000 in
set_option maxHeartbeats 2000000 in
theorem seal_big (H : Heap) (M C : List Int) (l n : Int) (a : Option Addr) (k c : Nat) (hk : 2019 < k) : ACall Try.prog 35 H [.agg [.ints .u8 32 M, .ints .u8 16 C], .s (.int .u32 l), .s (.int .u64 n), .s (.val (.slice a k c))] (.tup [.s .nils, .s (.int .i64 3)]) [] := by
  refine acall_gen2 (args0 := [.agg [.ints .u8 32 M, .ints .u8 16 C], .s (.int .u32 l), .s (.int .u64 n), .s (.val (.slice a k c))]) (H0 := []) (Hf := []) (v0 := (.tup [.s .nils, .s (.int .i64 3)])) [] [] Try.func35 rfl Try.ntmps35 (by simp) rfl
    (fun k id sh b0 h1 h2 => by simp at h1) (fun W ρ vals w hH ha k id' sh' hk => by simp at hk) rfl rfl rfl (by decide) rfl rfl rfl (fun W w ρ0 hW hdom => ?_)
  refine w_seq ?_
  refine c_reg (by kernel_rfl) rfl ?_
  refine s_a (by first | exact h_box_agg rfl rfl | exact h_box rfl (by simp) rfl) rfl ?_
  refine s_p (by first | exact h_assign (v := .s _) rfl | exact h_assign (v := .agg _) rfl | exact h_assign (v := .tup _) rfl) ?_
  refine s_p (by first | exact h_assign (v := .s _) rfl | exact h_assign (v := .agg _) rfl | exact h_assign (v := .tup _) rfl) ?_
  refine s_nil ?_
  refine n_wp ?_
  refine w_seq ?_
  refine w_seq ?_
  refine c_reg (by kernel_rfl) rfl ?_
  refine s_p (by first | exact h_move (v := .s _) rfl | exact h_move (v := .agg _) rfl | exact h_move (v := .tup _) rfl) ?_
  refine s_p (by first | exact h_len rfl Try.underlying29 | exact h_len_nil rfl Try.underlying29 | exact h_len_val rfl Try.underlying29) ?_
  refine s_p (h_bin rfl rfl (b_gtr rfl)) ?_
  refine s_nil ?_
  refine n_wp ?_
  refine w_cond rfl (fun hc_t15 => ?_) (fun hc_t15 => ?_)
  rotate_left
  · exact absurd hc_t15 (by intro h; have := of_decide_eq_false h; omega)
  refine w_seq ?_
  refine c_reg (by kernel_rfl) rfl ?_
  refine s_p (by first | exact h_assign (v := .s _) rfl | exact h_assign (v := .agg _) rfl | exact h_assign (v := .tup _) rfl) ?_
  refine s_p (by first | exact h_assign (v := .s _) rfl | exact h_assign (v := .agg _) rfl | exact h_assign (v := .tup _) rfl) ?_
  refine s_nil ?_
  refine n_wp ?_
  refine w_ret ?_
  refine r_thn ?_
  exact doneM (by repeat (first | exact trivial | refine ⟨rfl, ?_⟩)) (ret_tmps2 Try.results35 rfl rfl)
set_option maxRecDepth 100000 in
set_option maxHeartbeats 2000000 in
theorem seal_bigs (H : Heap) (M C : List Int) (l n : Int) (id sh len cap : Nat) (B : List Int) (bd : Blk) (hdl : B.length = len) (hdc : len ≤ cap) (hdm : len ≤ 140737488351232) (hd : H[id]? = some (some bd)) (hds : ∀ (i : Nat) (y : SV), atS [.ints .u8 len B] i = some y → atS bd.segs (sh + i) = some y) (hk : 2019 < len) : ACall Try.prog 35 H [.agg [.ints .u8 32 M, .ints .u8 16 C], .s (.int .u32 l), .s (.int .u64 n), .s (.slice id (0 + sh) 0 len cap)] (.tup [.s .nils, .s (.int .i64 3)]) [] := by
  refine acall_gen2 (args0 := [.agg [.ints .u8 32 M, .ints .u8 16 C], .s (.int .u32 l), .s (.int .u64 n), .s (.slice 0 0 0 len cap)]) (H0 := [some ⟨false, [.ints .u8 len B]⟩]) (Hf := []) (v0 := (.tup [.s .nils, .s (.int .i64 3)])) [(id, sh)] [] Try.func35 rfl Try.ntmps35 (by simp) rfl
    (fun k id' sh' b0 h1 h2 => by
      match k, h1, h2 with
      | 0, h1, h2 => simp at h1 h2; obtain ⟨rfl, rfl⟩ := h1; subst h2; exact ⟨rfl, rfl, _, hd, fun i y hy => by (have h := hds i y hy; obtain ⟨_, rfl⟩ := atS_ints1 hy; exact h)⟩
      | k + 1, h1, _ => simp at h1)
    (fun W ρ vals w hH ha k id' sh' hk => by
      match k, hk with
      | 0, hk => simp at hk; obtain ⟨rfl, rfl⟩ := hk; exact ⟨(List.getElem?_eq_some_iff.1 hd).1, live_slice (i := 3) ha rfl⟩
      | k + 1, hk => simp at hk)
    rfl rfl rfl (by decide) rfl rfl rfl (fun W w ρ0 hW hdom => ?_)
  refine w_seq ?_
  refine c_reg (by kernel_rfl) rfl ?_
  refine s_a (by first | exact h_box_agg rfl rfl | exact h_box rfl (by simp) rfl) rfl ?_
  refine s_p (by first | exact h_assign (v := .s _) rfl | exact h_assign (v := .agg _) rfl | exact h_assign (v := .tup _) rfl) ?_
  refine s_p (by first | exact h_assign (v := .s _) rfl | exact h_assign (v := .agg _) rfl | exact h_assign (v := .tup _) rfl) ?_
  refine s_nil ?_
  refine n_wp ?_
  refine w_seq ?_
  refine w_seq ?_
  refine c_reg (by kernel_rfl) rfl ?_
  refine s_p (by first | exact h_move (v := .s _) rfl | exact h_move (v := .agg _) rfl | exact h_move (v := .tup _) rfl) ?_
  refine s_p (by first | exact h_len rfl Try.underlying29 | exact h_len_nil rfl Try.underlying29 | exact h_len_val rfl Try.underlying29) ?_
  refine s_p (h_bin rfl rfl (b_gtr rfl)) ?_
  refine s_nil ?_
  refine n_wp ?_
  refine w_cond rfl (fun hc_t15 => ?_) (fun hc_t15 => ?_)
  rotate_left
  · exact absurd hc_t15 (by intro h; have := of_decide_eq_false h; omega)
  refine w_seq ?_
  refine c_reg (by kernel_rfl) rfl ?_
  refine s_p (by first | exact h_assign (v := .s _) rfl | exact h_assign (v := .agg _) rfl | exact h_assign (v := .tup _) rfl) ?_
  refine s_p (by first | exact h_assign (v := .s _) rfl | exact h_assign (v := .agg _) rfl | exact h_assign (v := .tup _) rfl) ?_
  refine s_nil ?_
  refine n_wp ?_
  refine w_ret ?_
  refine r_thn ?_
  exact doneM (by repeat (first | exact trivial | refine ⟨rfl, ?_⟩)) (ret_tmps2 Try.results35 rfl rfl)
end Go.Proofs.X
