/- A part of the proofs of this claim: SealW3 (SealW3). No conditions. -/
import Derived.Test.YtffflnpidipheaaSealW2
import Derived.Test.YtffflnpidipheaaAbD
set_option linter.unusedVariables false
set_option linter.unusedSimpArgs false
open Go Go.Ab Go.Proofs
namespace Go.Proofs.X
set_option maxRecDepth 100000 in
set_option maxHeartbeats 2000000 in
theorem open_ok (H : Heap) (M C : List Int) (m : Nat) (hM : M.length = 32) (hC : C.length = 16) (hC8 : U8 C) (id sh len cap : Nat) (B : List Int) (bd : Blk) (hdl : B.length = len) (hdc : len ≤ cap) (hdm : len ≤ 140737488351232) (hd : H[id]? = some (some bd)) (hds : ∀ (i : Nat) (y : SV), atS [.ints .u8 len B] i = some y → atS bd.segs (sh + i) = some y) (hB8 : U8 B) (hlen : len = 29 + m) (h2k : len ≤ 2048) (h9 : B.getD 0 0 = 9) (l : Nat) (hlt : l < 4294967296) (hg : getI ((B.drop (0 + 1)).take (len - 1)) 4 = ((l : Nat) : Int)) (hm : mo (((sMac M B (13 + m)).drop 0).take 16) ((B.drop (13 + m)).take 16) 16 = 0) (h0 : 0 < m) : ACall Try.prog 37 H [.agg [.ints .u8 32 M, .ints .u8 16 C], .s (.slice id (0 + sh) 0 len cap)] (.tup [.s (.int .u32 ((l : Nat) : Int)), .s (.int .u64 (getI ((B.drop (0 + 5)).take (len - 5)) 8)), .s (.slice (H.length + 0) (0 + 0) 0 m m), .s (.int .i64 0)]) [⟨true, [.ints .u8 m (streamN C (fiL B) ((B.drop (0 + 13)).take m) m)]⟩] := by
  refine acall_gen2 (args0 := [.agg [.ints .u8 32 M, .ints .u8 16 C], .s (.slice 0 0 0 len cap)]) (H0 := [some ⟨false, [.ints .u8 len B]⟩]) (Hf := [none, none, none, none, some ⟨true, [.ints .u8 m (streamN C (fiL B) ((B.drop (0 + 13)).take m) m)]⟩]) (v0 := .tup [.s (.int .u32 ((l : Nat) : Int)), .s (.int .u64 (getI ((B.drop (0 + 5)).take (len - 5)) 8)), .s (.slice 4 0 0 m m), .s (.int .i64 0)]) [(id, sh)] [4] Try.func37 rfl Try.ntmps37 (by simp) rfl
    (fun k id' sh' b0 h1 h2 => by
      match k, h1, h2 with
      | 0, h1, h2 => simp at h1 h2; obtain ⟨rfl, rfl⟩ := h1; subst h2; exact ⟨rfl, rfl, _, hd, fun i y hy => by (have h := hds i y hy; obtain ⟨_, rfl⟩ := atS_ints1 hy; exact h)⟩
      | k + 1, h1, _ => simp at h1)
    (fun W ρ vals w hH ha k id' sh' hk => by
      match k, hk with
      | 0, hk => simp at hk; obtain ⟨rfl, rfl⟩ := hk; exact ⟨(List.getElem?_eq_some_iff.1 hd).1, live_slice (i := 1) ha rfl⟩
      | k + 1, hk => simp at hk)
    rfl rfl rfl (by decide) rfl rfl rfl (fun W w ρ0 hW hdom => ?_)
  refine w_seq ?_
  refine c_reg (by kernel_rfl) rfl ?_
  refine s_a (by first | exact h_box_agg rfl rfl | exact h_box rfl (by simp) rfl) rfl ?_
  refine s_p (by first | exact h_assign (v := .s _) rfl | exact h_assign (v := .agg _) rfl | exact h_assign (v := .tup _) rfl) ?_
  refine s_p (by first | exact h_assign (v := .s _) rfl | exact h_assign (v := .agg _) rfl | exact h_assign (v := .tup _) rfl) ?_
  refine s_p (by first | exact h_assign (v := .s _) rfl | exact h_assign (v := .agg _) rfl | exact h_assign (v := .tup _) rfl) ?_
  refine s_p (by first | exact h_assign (v := .s _) rfl | exact h_assign (v := .agg _) rfl | exact h_assign (v := .tup _) rfl) ?_
  refine s_nil ?_
  refine n_wp ?_
  refine w_seq ?_
  refine w_seq ?_
  refine c_reg (by kernel_rfl) rfl ?_
  refine s_p (by first | exact h_move (v := .s _) rfl | exact h_move (v := .agg _) rfl | exact h_move (v := .tup _) rfl) ?_
  refine s_p (h_call callable_38 rfl (Lane_ok _ 0 0 len cap B _ hdl hdc hdm rfl (fun i y hy => by rw [Nat.zero_add i]; exact hy) (by omega) h2k h9 l hlt hg)) ?_
  refine s_p (by first | exact h_move (v := .s _) rfl | exact h_move (v := .agg _) rfl | exact h_move (v := .tup _) rfl) ?_
  refine s_p (h_extract rfl rfl (by simp)) ?_
  refine s_p (h_extract rfl rfl (by simp)) ?_
  refine s_p (by first | exact h_assign (v := .s _) rfl | exact h_assign (v := .agg _) rfl | exact h_assign (v := .tup _) rfl) ?_
  refine s_p (by first | exact h_assign (v := .s _) rfl | exact h_assign (v := .agg _) rfl | exact h_assign (v := .tup _) rfl) ?_
  refine s_nil ?_
  refine n_wp ?_
  refine w_seq ?_
  refine c_reg (by kernel_rfl) rfl ?_
  refine s_p (by first | exact h_move (v := .s _) rfl | exact h_move (v := .agg _) rfl | exact h_move (v := .tup _) rfl) ?_
  refine s_p (h_bin rfl rfl (b_neq rfl)) ?_
  refine s_nil ?_
  refine n_wp ?_
  refine w_cond rfl (fun hc_t16 => ?_) (fun hc_t16 => ?_)
  · exact absurd hc_t16 (by simp)
  refine w_skip ?_
  refine n_wp ?_
  refine w_seq ?_
  refine c_reg (by kernel_rfl) rfl ?_
  refine s_p (by first | exact h_move (v := .s _) rfl | exact h_move (v := .agg _) rfl | exact h_move (v := .tup _) rfl) ?_
  refine s_p (by first | exact h_len rfl Try.underlying29 | exact h_len_nil rfl Try.underlying29 | exact h_len_val rfl Try.underlying29) ?_
  refine s_p (h_bin rfl rfl (b_sub (r := ((13 + m : Nat) : Int)) (wr_n (by omega) (by omega)))) ?_
  refine s_p (by first | exact h_assign (v := .s _) rfl | exact h_assign (v := .agg _) rfl | exact h_assign (v := .tup _) rfl) ?_
  refine s_nil ?_
  refine n_wp ?_
  refine w_seq ?_
  refine c_any 9 mix (by kernel_rfl) (by kernel_rfl) rfl rfl rfl ?_
  refine t_p (h_field rfl Try.underlying56 rfl Try.sizeOf44 (by decide)) ?_
  refine t_p (h_asl_0 rfl Try.underlying44 Try.sizeOf5 (by omega)) ?_
  refine t_p (by first | exact h_move (v := .s _) rfl | exact h_move (v := .agg _) rfl | exact h_move (v := .tup _) rfl) ?_
  refine t_p (by first | exact h_move (v := .s _) rfl | exact h_move (v := .agg _) rfl | exact h_move (v := .tup _) rfl) ?_
  refine t_p (by first | exact h_move (v := .s _) rfl | exact h_move (v := .agg _) rfl | exact h_move (v := .tup _) rfl) ?_
  refine t_p (h_slice_hm (h := 13 + m) (m := 13 + m) rfl rfl rfl rfl rfl Try.underlying29 Try.sizeOf5 (Nat.le_refl _) (by omega)) ?_
  refine t_a (h_bsls1 rfl (by simp) Try.underlying92 Try.sizeOf29 Try.zeroValue29 rfl rfl) rfl ?_
  refine t_p (h_call callable_31 rfl (mac1 _ 1 0 32 2 M _ _ ((B.drop 0).take (13 + m)) (13 + m) (13 + m) hM (Nat.le_refl _) rfl win_fst rfl 0 0 _ (by rw [List.drop_zero, List.length_take]; omega) (Nat.le_refl _) (by omega) rfl (fun i y hy => win_ints (segs := [.ints .u8 len B]) (base := 0) (idx := 0) (n := 13 + m) (m := len) rfl (by omega) i y hy) rfl)) ?_
  refine t_a (h_alloc (segs := [.ints .u8 32 (z 32)]) Try.zeroValue44 (by kernel_rfl) rfl) rfl ?_
  refine t_nil ?_
  refine s_st (m_store_agg (n := 32) (segs := [.ints .u8 32 (z 32)]) (sub := [.ints .u8 32 (sMac M B (13 + m))]) (id := 3) (base := 0) (idx := 0) rfl rfl rfl (.whole (Nat.le_of_ble_eq_true rfl) rfl rfl) Try.sizeOf44 rfl) ?_
  refine s_heap (H' := [some ⟨false, [.ints .u8 len B]⟩, some ⟨true, [.ints .u8 32 M, .ints .u8 16 C]⟩, some ⟨true, [.one (.slice 0 0 0 (13 + m) (13 + m))]⟩, some ⟨true, [.ints .u8 32 (sMac M B (13 + m))]⟩]) (by kernel_rfl) ?_
  refine s_nil ?_
  refine n_wp ?_
  refine w_seq ?_
  refine w_seq ?_
  refine c_any 4 mix (by kernel_rfl) (by kernel_rfl) rfl rfl rfl ?_
  refine t_p (h_asl_h (h := 16) rfl rfl rfl Try.underlying44 Try.sizeOf5 (by omega) (by omega)) ?_
  refine t_p (by first | exact h_move (v := .s _) rfl | exact h_move (v := .agg _) rfl | exact h_move (v := .tup _) rfl) ?_
  refine t_p (by first | exact h_move (v := .s _) rfl | exact h_move (v := .agg _) rfl | exact h_move (v := .tup _) rfl) ?_
  refine t_p (slice_base (L := 13 + m) (h_slice_l3 (l := 13 + m) (n := 16) (c := cap - (13 + m)) rfl rfl rfl Try.underlying29 Try.sizeOf5 (by omega) (by omega) (by omega) rfl) (by omega)) ?_
  refine t_nil ?_
  refine s_p (h_call callable_62 rfl (msame_c _ 3 0 16 32 (((sMac M B (13 + m)).drop 0).take 16) _ (by simp [sMac_len]) (by omega) (by omega) rfl (fun i y hy => win_ints (segs := [.ints .u8 32 (sMac M B (13 + m))]) (base := 0) (idx := 0) (n := 16) (m := 32) rfl (by omega) i y hy) 0 (13 + m) (cap - (13 + m)) ((B.drop (13 + m)).take 16) _ (by simp; omega) (by omega) (by omega) rfl (fun i y hy => by have h := win_ints (segs := [.ints .u8 len B]) (base := 0) (idx := 13 + m) (n := 16) (m := len) rfl (by omega) i y hy; rwa [Nat.zero_add] at h) true (decide_eq_true hm))) ?_
  refine s_p (h_not rfl) ?_
  refine s_nil ?_
  refine n_wp ?_
  refine w_cond rfl (fun hc_t34 => ?_) (fun hc_t34 => ?_)
  · exact absurd hc_t34 (by simp)
  refine w_skip ?_
  refine n_wp ?_
  refine w_seq ?_
  refine c_reg (by kernel_rfl) rfl ?_
  refine s_p (by first | exact h_move (v := .s _) rfl | exact h_move (v := .agg _) rfl | exact h_move (v := .tup _) rfl) ?_
  refine s_p (h_slice_l2 (l := 5) rfl rfl rfl Try.underlying29 Try.sizeOf5 (by omega) (by omega)) ?_
  refine s_p (h_call callable_63 rfl (get_c ((B.drop (0 + 5)).take (len - 5)) 8 (by omega) (by omega) (len - 5) (cap - 5) _ 0 0 (0 + 5) len _ B rfl rfl (by omega) rfl (by omega) (by omega) hdl)) ?_
  refine s_p (by first | exact h_move (v := .s _) rfl | exact h_move (v := .agg _) rfl | exact h_move (v := .tup _) rfl) ?_
  refine s_p (h_extract rfl rfl (by simp)) ?_
  refine s_p (h_extract rfl rfl (by simp)) ?_
  refine s_p (by first | exact h_assign (v := .s _) rfl | exact h_assign (v := .agg _) rfl | exact h_assign (v := .tup _) rfl) ?_
  refine s_nil ?_
  refine n_wp ?_
  refine w_seq ?_
  refine c_any2 12 mix (by kernel_rfl) (by kernel_rfl) rfl rfl rfl ?_
  refine t_p (by first | exact h_move (v := .s _) rfl | exact h_move (v := .agg _) rfl | exact h_move (v := .tup _) rfl) ?_
  refine t_p (by first | exact h_move (v := .s _) rfl | exact h_move (v := .agg _) rfl | exact h_move (v := .tup _) rfl) ?_
  refine t_p (h_field rfl Try.underlying56 rfl Try.sizeOf22 (by decide)) ?_
  refine t_p (by first | exact h_load_agg rfl rfl (.whole rfl) Try.isAgg22 Try.sizeOf22 | exact h_load_agg rfl rfl (.seg rfl rfl) Try.isAgg22 Try.sizeOf22 | exact h_load_agg rfl rfl (.ints rfl (by omega)) Try.isAgg22 Try.sizeOf22) ?_
  refine t_p (by first | exact h_move (v := .s _) rfl | exact h_move (v := .agg _) rfl | exact h_move (v := .tup _) rfl) ?_
  refine t_p (h_call callable_61 rfl (first_c _ 0 0 len cap B _ hdl hdc hdm rfl (fun i y hy => by rw [Nat.zero_add i]; exact hy) (by omega))) ?_
  refine t_p (by first | exact h_move (v := .s _) rfl | exact h_move (v := .agg _) rfl | exact h_move (v := .tup _) rfl) ?_
  refine t_p (by first | exact h_move (v := .s _) rfl | exact h_move (v := .agg _) rfl | exact h_move (v := .tup _) rfl) ?_
  refine t_p (by first | exact h_move (v := .s _) rfl | exact h_move (v := .agg _) rfl | exact h_move (v := .tup _) rfl) ?_
  refine t_p (h_slice_lhm (l := 13) (h := 13 + m) (m := 13 + m) (hl := m) (ml := m) rfl rfl rfl rfl rfl rfl rfl Try.underlying29 Try.sizeOf5 (by omega) (by omega) (by omega) (by omega) (by omega) (by omega)) ?_
  refine t_a (h_call callable_26 rfl (stream_c C (fiL B) ((B.drop (0 + 13)).take m) hC hC8 (fiL_len _) (fiL_U8 hB8) m m h0 (by omega) _ 0 0 (0 + 13) len _ B rfl rfl (by omega) rfl)) rfl ?_
  refine t_p (by first | exact h_assign (v := .s _) rfl | exact h_assign (v := .agg _) rfl | exact h_assign (v := .tup _) rfl) ?_
  refine t_nil ?_
  refine s_p (by first | exact h_assign (v := .s _) rfl | exact h_assign (v := .agg _) rfl | exact h_assign (v := .tup _) rfl) ?_
  refine s_p (by first | exact h_assign (v := .s _) rfl | exact h_assign (v := .agg _) rfl | exact h_assign (v := .tup _) rfl) ?_
  refine s_p (by first | exact h_assign (v := .s _) rfl | exact h_assign (v := .agg _) rfl | exact h_assign (v := .tup _) rfl) ?_
  refine s_nil ?_
  refine n_wp ?_
  refine w_ret ?_
  exact doneM (by repeat (first | exact trivial | refine ⟨rfl, ?_⟩)) (ret_tmps4 Try.results37 rfl rfl rfl rfl)
set_option maxRecDepth 100000 in
set_option maxHeartbeats 2000000 in
theorem open_ok0 (H : Heap) (M C : List Int) (m : Nat) (hM : M.length = 32) (hC : C.length = 16) (hC8 : U8 C) (id sh len cap : Nat) (B : List Int) (bd : Blk) (hdl : B.length = len) (hdc : len ≤ cap) (hdm : len ≤ 140737488351232) (hd : H[id]? = some (some bd)) (hds : ∀ (i : Nat) (y : SV), atS [.ints .u8 len B] i = some y → atS bd.segs (sh + i) = some y) (hB8 : U8 B) (hlen : len = 29 + m) (h2k : len ≤ 2048) (h9 : B.getD 0 0 = 9) (l : Nat) (hlt : l < 4294967296) (hg : getI ((B.drop (0 + 1)).take (len - 1)) 4 = ((l : Nat) : Int)) (hm : mo (((sMac M B (13 + m)).drop 0).take 16) ((B.drop (13 + m)).take 16) 16 = 0) (h0 : m = 0) : ACall Try.prog 37 H [.agg [.ints .u8 32 M, .ints .u8 16 C], .s (.slice id (0 + sh) 0 len cap)] (.tup [.s (.int .u32 ((l : Nat) : Int)), .s (.int .u64 (getI ((B.drop (0 + 5)).take (len - 5)) 8)), .s (.nils), .s (.int .i64 0)]) [] := by
  refine acall_gen2 (args0 := [.agg [.ints .u8 32 M, .ints .u8 16 C], .s (.slice 0 0 0 len cap)]) (H0 := [some ⟨false, [.ints .u8 len B]⟩]) (Hf := []) (v0 := .tup [.s (.int .u32 ((l : Nat) : Int)), .s (.int .u64 (getI ((B.drop (0 + 5)).take (len - 5)) 8)), .s (.nils), .s (.int .i64 0)]) [(id, sh)] [] Try.func37 rfl Try.ntmps37 (by simp) rfl
    (fun k id' sh' b0 h1 h2 => by
      match k, h1, h2 with
      | 0, h1, h2 => simp at h1 h2; obtain ⟨rfl, rfl⟩ := h1; subst h2; exact ⟨rfl, rfl, _, hd, fun i y hy => by (have h := hds i y hy; obtain ⟨_, rfl⟩ := atS_ints1 hy; exact h)⟩
      | k + 1, h1, _ => simp at h1)
    (fun W ρ vals w hH ha k id' sh' hk => by
      match k, hk with
      | 0, hk => simp at hk; obtain ⟨rfl, rfl⟩ := hk; exact ⟨(List.getElem?_eq_some_iff.1 hd).1, live_slice (i := 1) ha rfl⟩
      | k + 1, hk => simp at hk)
    rfl rfl rfl (by decide) rfl rfl rfl (fun W w ρ0 hW hdom => ?_)
  refine w_seq ?_
  refine c_reg (by kernel_rfl) rfl ?_
  refine s_a (by first | exact h_box_agg rfl rfl | exact h_box rfl (by simp) rfl) rfl ?_
  refine s_p (by first | exact h_assign (v := .s _) rfl | exact h_assign (v := .agg _) rfl | exact h_assign (v := .tup _) rfl) ?_
  refine s_p (by first | exact h_assign (v := .s _) rfl | exact h_assign (v := .agg _) rfl | exact h_assign (v := .tup _) rfl) ?_
  refine s_p (by first | exact h_assign (v := .s _) rfl | exact h_assign (v := .agg _) rfl | exact h_assign (v := .tup _) rfl) ?_
  refine s_p (by first | exact h_assign (v := .s _) rfl | exact h_assign (v := .agg _) rfl | exact h_assign (v := .tup _) rfl) ?_
  refine s_nil ?_
  refine n_wp ?_
  refine w_seq ?_
  refine w_seq ?_
  refine c_reg (by kernel_rfl) rfl ?_
  refine s_p (by first | exact h_move (v := .s _) rfl | exact h_move (v := .agg _) rfl | exact h_move (v := .tup _) rfl) ?_
  refine s_p (h_call callable_38 rfl (Lane_ok _ 0 0 len cap B _ hdl hdc hdm rfl (fun i y hy => by rw [Nat.zero_add i]; exact hy) (by omega) h2k h9 l hlt hg)) ?_
  refine s_p (by first | exact h_move (v := .s _) rfl | exact h_move (v := .agg _) rfl | exact h_move (v := .tup _) rfl) ?_
  refine s_p (h_extract rfl rfl (by simp)) ?_
  refine s_p (h_extract rfl rfl (by simp)) ?_
  refine s_p (by first | exact h_assign (v := .s _) rfl | exact h_assign (v := .agg _) rfl | exact h_assign (v := .tup _) rfl) ?_
  refine s_p (by first | exact h_assign (v := .s _) rfl | exact h_assign (v := .agg _) rfl | exact h_assign (v := .tup _) rfl) ?_
  refine s_nil ?_
  refine n_wp ?_
  refine w_seq ?_
  refine c_reg (by kernel_rfl) rfl ?_
  refine s_p (by first | exact h_move (v := .s _) rfl | exact h_move (v := .agg _) rfl | exact h_move (v := .tup _) rfl) ?_
  refine s_p (h_bin rfl rfl (b_neq rfl)) ?_
  refine s_nil ?_
  refine n_wp ?_
  refine w_cond rfl (fun hc_t16 => ?_) (fun hc_t16 => ?_)
  · exact absurd hc_t16 (by simp)
  refine w_skip ?_
  refine n_wp ?_
  refine w_seq ?_
  refine c_reg (by kernel_rfl) rfl ?_
  refine s_p (by first | exact h_move (v := .s _) rfl | exact h_move (v := .agg _) rfl | exact h_move (v := .tup _) rfl) ?_
  refine s_p (by first | exact h_len rfl Try.underlying29 | exact h_len_nil rfl Try.underlying29 | exact h_len_val rfl Try.underlying29) ?_
  refine s_p (h_bin rfl rfl (b_sub (r := ((13 + m : Nat) : Int)) (wr_n (by omega) (by omega)))) ?_
  refine s_p (by first | exact h_assign (v := .s _) rfl | exact h_assign (v := .agg _) rfl | exact h_assign (v := .tup _) rfl) ?_
  refine s_nil ?_
  refine n_wp ?_
  refine w_seq ?_
  refine c_any 9 mix (by kernel_rfl) (by kernel_rfl) rfl rfl rfl ?_
  refine t_p (h_field rfl Try.underlying56 rfl Try.sizeOf44 (by decide)) ?_
  refine t_p (h_asl_0 rfl Try.underlying44 Try.sizeOf5 (by omega)) ?_
  refine t_p (by first | exact h_move (v := .s _) rfl | exact h_move (v := .agg _) rfl | exact h_move (v := .tup _) rfl) ?_
  refine t_p (by first | exact h_move (v := .s _) rfl | exact h_move (v := .agg _) rfl | exact h_move (v := .tup _) rfl) ?_
  refine t_p (by first | exact h_move (v := .s _) rfl | exact h_move (v := .agg _) rfl | exact h_move (v := .tup _) rfl) ?_
  refine t_p (h_slice_hm (h := 13 + m) (m := 13 + m) rfl rfl rfl rfl rfl Try.underlying29 Try.sizeOf5 (Nat.le_refl _) (by omega)) ?_
  refine t_a (h_bsls1 rfl (by simp) Try.underlying92 Try.sizeOf29 Try.zeroValue29 rfl rfl) rfl ?_
  refine t_p (h_call callable_31 rfl (mac1 _ 1 0 32 2 M _ _ ((B.drop 0).take (13 + m)) (13 + m) (13 + m) hM (Nat.le_refl _) rfl win_fst rfl 0 0 _ (by rw [List.drop_zero, List.length_take]; omega) (Nat.le_refl _) (by omega) rfl (fun i y hy => win_ints (segs := [.ints .u8 len B]) (base := 0) (idx := 0) (n := 13 + m) (m := len) rfl (by omega) i y hy) rfl)) ?_
  refine t_a (h_alloc (segs := [.ints .u8 32 (z 32)]) Try.zeroValue44 (by kernel_rfl) rfl) rfl ?_
  refine t_nil ?_
  refine s_st (m_store_agg (n := 32) (segs := [.ints .u8 32 (z 32)]) (sub := [.ints .u8 32 (sMac M B (13 + m))]) (id := 3) (base := 0) (idx := 0) rfl rfl rfl (.whole (Nat.le_of_ble_eq_true rfl) rfl rfl) Try.sizeOf44 rfl) ?_
  refine s_heap (H' := [some ⟨false, [.ints .u8 len B]⟩, some ⟨true, [.ints .u8 32 M, .ints .u8 16 C]⟩, some ⟨true, [.one (.slice 0 0 0 (13 + m) (13 + m))]⟩, some ⟨true, [.ints .u8 32 (sMac M B (13 + m))]⟩]) (by kernel_rfl) ?_
  refine s_nil ?_
  refine n_wp ?_
  refine w_seq ?_
  refine w_seq ?_
  refine c_any 4 mix (by kernel_rfl) (by kernel_rfl) rfl rfl rfl ?_
  refine t_p (h_asl_h (h := 16) rfl rfl rfl Try.underlying44 Try.sizeOf5 (by omega) (by omega)) ?_
  refine t_p (by first | exact h_move (v := .s _) rfl | exact h_move (v := .agg _) rfl | exact h_move (v := .tup _) rfl) ?_
  refine t_p (by first | exact h_move (v := .s _) rfl | exact h_move (v := .agg _) rfl | exact h_move (v := .tup _) rfl) ?_
  refine t_p (slice_base (L := 13 + m) (h_slice_l3 (l := 13 + m) (n := 16) (c := cap - (13 + m)) rfl rfl rfl Try.underlying29 Try.sizeOf5 (by omega) (by omega) (by omega) rfl) (by omega)) ?_
  refine t_nil ?_
  refine s_p (h_call callable_62 rfl (msame_c _ 3 0 16 32 (((sMac M B (13 + m)).drop 0).take 16) _ (by simp [sMac_len]) (by omega) (by omega) rfl (fun i y hy => win_ints (segs := [.ints .u8 32 (sMac M B (13 + m))]) (base := 0) (idx := 0) (n := 16) (m := 32) rfl (by omega) i y hy) 0 (13 + m) (cap - (13 + m)) ((B.drop (13 + m)).take 16) _ (by simp; omega) (by omega) (by omega) rfl (fun i y hy => by have h := win_ints (segs := [.ints .u8 len B]) (base := 0) (idx := 13 + m) (n := 16) (m := len) rfl (by omega) i y hy; rwa [Nat.zero_add] at h) true (decide_eq_true hm))) ?_
  refine s_p (h_not rfl) ?_
  refine s_nil ?_
  refine n_wp ?_
  refine w_cond rfl (fun hc_t34 => ?_) (fun hc_t34 => ?_)
  · exact absurd hc_t34 (by simp)
  refine w_skip ?_
  refine n_wp ?_
  refine w_seq ?_
  refine c_reg (by kernel_rfl) rfl ?_
  refine s_p (by first | exact h_move (v := .s _) rfl | exact h_move (v := .agg _) rfl | exact h_move (v := .tup _) rfl) ?_
  refine s_p (h_slice_l2 (l := 5) rfl rfl rfl Try.underlying29 Try.sizeOf5 (by omega) (by omega)) ?_
  refine s_p (h_call callable_63 rfl (get_c ((B.drop (0 + 5)).take (len - 5)) 8 (by omega) (by omega) (len - 5) (cap - 5) _ 0 0 (0 + 5) len _ B rfl rfl (by omega) rfl (by omega) (by omega) hdl)) ?_
  refine s_p (by first | exact h_move (v := .s _) rfl | exact h_move (v := .agg _) rfl | exact h_move (v := .tup _) rfl) ?_
  refine s_p (h_extract rfl rfl (by simp)) ?_
  refine s_p (h_extract rfl rfl (by simp)) ?_
  refine s_p (by first | exact h_assign (v := .s _) rfl | exact h_assign (v := .agg _) rfl | exact h_assign (v := .tup _) rfl) ?_
  refine s_nil ?_
  refine n_wp ?_
  refine w_seq ?_
  refine c_any2 12 mix (by kernel_rfl) (by kernel_rfl) rfl rfl rfl ?_
  refine t_p (by first | exact h_move (v := .s _) rfl | exact h_move (v := .agg _) rfl | exact h_move (v := .tup _) rfl) ?_
  refine t_p (by first | exact h_move (v := .s _) rfl | exact h_move (v := .agg _) rfl | exact h_move (v := .tup _) rfl) ?_
  refine t_p (h_field rfl Try.underlying56 rfl Try.sizeOf22 (by decide)) ?_
  refine t_p (by first | exact h_load_agg rfl rfl (.whole rfl) Try.isAgg22 Try.sizeOf22 | exact h_load_agg rfl rfl (.seg rfl rfl) Try.isAgg22 Try.sizeOf22 | exact h_load_agg rfl rfl (.ints rfl (by omega)) Try.isAgg22 Try.sizeOf22) ?_
  refine t_p (by first | exact h_move (v := .s _) rfl | exact h_move (v := .agg _) rfl | exact h_move (v := .tup _) rfl) ?_
  refine t_p (h_call callable_61 rfl (first_c _ 0 0 len cap B _ hdl hdc hdm rfl (fun i y hy => by rw [Nat.zero_add i]; exact hy) (by omega))) ?_
  refine t_p (by first | exact h_move (v := .s _) rfl | exact h_move (v := .agg _) rfl | exact h_move (v := .tup _) rfl) ?_
  refine t_p (by first | exact h_move (v := .s _) rfl | exact h_move (v := .agg _) rfl | exact h_move (v := .tup _) rfl) ?_
  refine t_p (by first | exact h_move (v := .s _) rfl | exact h_move (v := .agg _) rfl | exact h_move (v := .tup _) rfl) ?_
  refine t_p (h_slice_lhm0 (l := 13) rfl rfl rfl rfl rfl (by omega) (by omega) Try.underlying29 Try.sizeOf5 (by omega)) ?_
  refine t_p (h_call callable_26 rfl (stream_0 C _ 0 0 _ _ _)) ?_
  refine t_p (by first | exact h_assign (v := .s _) rfl | exact h_assign (v := .agg _) rfl | exact h_assign (v := .tup _) rfl) ?_
  refine t_nil ?_
  refine s_p (by first | exact h_assign (v := .s _) rfl | exact h_assign (v := .agg _) rfl | exact h_assign (v := .tup _) rfl) ?_
  refine s_p (by first | exact h_assign (v := .s _) rfl | exact h_assign (v := .agg _) rfl | exact h_assign (v := .tup _) rfl) ?_
  refine s_p (by first | exact h_assign (v := .s _) rfl | exact h_assign (v := .agg _) rfl | exact h_assign (v := .tup _) rfl) ?_
  refine s_nil ?_
  refine n_wp ?_
  refine w_ret ?_
  exact doneM (by repeat (first | exact trivial | refine ⟨rfl, ?_⟩)) (ret_tmps4 Try.results37 rfl rfl rfl rfl)
set_option maxRecDepth 100000 in
set_option maxHeartbeats 2000000 in
theorem open_bad (H : Heap) (M C : List Int) (m : Nat) (hM : M.length = 32) (hC : C.length = 16) (hC8 : U8 C) (id sh len cap : Nat) (B : List Int) (bd : Blk) (hdl : B.length = len) (hdc : len ≤ cap) (hdm : len ≤ 140737488351232) (hd : H[id]? = some (some bd)) (hds : ∀ (i : Nat) (y : SV), atS [.ints .u8 len B] i = some y → atS bd.segs (sh + i) = some y) (hB8 : U8 B) (hlen : len = 29 + m) (h2k : len ≤ 2048) (h9 : B.getD 0 0 = 9) (l : Nat) (hlt : l < 4294967296) (hg : getI ((B.drop (0 + 1)).take (len - 1)) 4 = ((l : Nat) : Int)) (hm : mo (((sMac M B (13 + m)).drop 0).take 16) ((B.drop (13 + m)).take 16) 16 ≠ 0) : ACall Try.prog 37 H [.agg [.ints .u8 32 M, .ints .u8 16 C], .s (.slice id (0 + sh) 0 len cap)] (.tup [.s (.int .u32 0), .s (.int .u64 0), .s (.nils), .s (.int .i64 11)]) [] := by
  refine acall_gen2 (args0 := [.agg [.ints .u8 32 M, .ints .u8 16 C], .s (.slice 0 0 0 len cap)]) (H0 := [some ⟨false, [.ints .u8 len B]⟩]) (Hf := []) (v0 := .tup [.s (.int .u32 0), .s (.int .u64 0), .s (.nils), .s (.int .i64 11)]) [(id, sh)] [] Try.func37 rfl Try.ntmps37 (by simp) rfl
    (fun k id' sh' b0 h1 h2 => by
      match k, h1, h2 with
      | 0, h1, h2 => simp at h1 h2; obtain ⟨rfl, rfl⟩ := h1; subst h2; exact ⟨rfl, rfl, _, hd, fun i y hy => by (have h := hds i y hy; obtain ⟨_, rfl⟩ := atS_ints1 hy; exact h)⟩
      | k + 1, h1, _ => simp at h1)
    (fun W ρ vals w hH ha k id' sh' hk => by
      match k, hk with
      | 0, hk => simp at hk; obtain ⟨rfl, rfl⟩ := hk; exact ⟨(List.getElem?_eq_some_iff.1 hd).1, live_slice (i := 1) ha rfl⟩
      | k + 1, hk => simp at hk)
    rfl rfl rfl (by decide) rfl rfl rfl (fun W w ρ0 hW hdom => ?_)
  refine w_seq ?_
  refine c_reg (by kernel_rfl) rfl ?_
  refine s_a (by first | exact h_box_agg rfl rfl | exact h_box rfl (by simp) rfl) rfl ?_
  refine s_p (by first | exact h_assign (v := .s _) rfl | exact h_assign (v := .agg _) rfl | exact h_assign (v := .tup _) rfl) ?_
  refine s_p (by first | exact h_assign (v := .s _) rfl | exact h_assign (v := .agg _) rfl | exact h_assign (v := .tup _) rfl) ?_
  refine s_p (by first | exact h_assign (v := .s _) rfl | exact h_assign (v := .agg _) rfl | exact h_assign (v := .tup _) rfl) ?_
  refine s_p (by first | exact h_assign (v := .s _) rfl | exact h_assign (v := .agg _) rfl | exact h_assign (v := .tup _) rfl) ?_
  refine s_nil ?_
  refine n_wp ?_
  refine w_seq ?_
  refine w_seq ?_
  refine c_reg (by kernel_rfl) rfl ?_
  refine s_p (by first | exact h_move (v := .s _) rfl | exact h_move (v := .agg _) rfl | exact h_move (v := .tup _) rfl) ?_
  refine s_p (h_call callable_38 rfl (Lane_ok _ 0 0 len cap B _ hdl hdc hdm rfl (fun i y hy => by rw [Nat.zero_add i]; exact hy) (by omega) h2k h9 l hlt hg)) ?_
  refine s_p (by first | exact h_move (v := .s _) rfl | exact h_move (v := .agg _) rfl | exact h_move (v := .tup _) rfl) ?_
  refine s_p (h_extract rfl rfl (by simp)) ?_
  refine s_p (h_extract rfl rfl (by simp)) ?_
  refine s_p (by first | exact h_assign (v := .s _) rfl | exact h_assign (v := .agg _) rfl | exact h_assign (v := .tup _) rfl) ?_
  refine s_p (by first | exact h_assign (v := .s _) rfl | exact h_assign (v := .agg _) rfl | exact h_assign (v := .tup _) rfl) ?_
  refine s_nil ?_
  refine n_wp ?_
  refine w_seq ?_
  refine c_reg (by kernel_rfl) rfl ?_
  refine s_p (by first | exact h_move (v := .s _) rfl | exact h_move (v := .agg _) rfl | exact h_move (v := .tup _) rfl) ?_
  refine s_p (h_bin rfl rfl (b_neq rfl)) ?_
  refine s_nil ?_
  refine n_wp ?_
  refine w_cond rfl (fun hc_t16 => ?_) (fun hc_t16 => ?_)
  · exact absurd hc_t16 (by simp)
  refine w_skip ?_
  refine n_wp ?_
  refine w_seq ?_
  refine c_reg (by kernel_rfl) rfl ?_
  refine s_p (by first | exact h_move (v := .s _) rfl | exact h_move (v := .agg _) rfl | exact h_move (v := .tup _) rfl) ?_
  refine s_p (by first | exact h_len rfl Try.underlying29 | exact h_len_nil rfl Try.underlying29 | exact h_len_val rfl Try.underlying29) ?_
  refine s_p (h_bin rfl rfl (b_sub (r := ((13 + m : Nat) : Int)) (wr_n (by omega) (by omega)))) ?_
  refine s_p (by first | exact h_assign (v := .s _) rfl | exact h_assign (v := .agg _) rfl | exact h_assign (v := .tup _) rfl) ?_
  refine s_nil ?_
  refine n_wp ?_
  refine w_seq ?_
  refine c_any 9 mix (by kernel_rfl) (by kernel_rfl) rfl rfl rfl ?_
  refine t_p (h_field rfl Try.underlying56 rfl Try.sizeOf44 (by decide)) ?_
  refine t_p (h_asl_0 rfl Try.underlying44 Try.sizeOf5 (by omega)) ?_
  refine t_p (by first | exact h_move (v := .s _) rfl | exact h_move (v := .agg _) rfl | exact h_move (v := .tup _) rfl) ?_
  refine t_p (by first | exact h_move (v := .s _) rfl | exact h_move (v := .agg _) rfl | exact h_move (v := .tup _) rfl) ?_
  refine t_p (by first | exact h_move (v := .s _) rfl | exact h_move (v := .agg _) rfl | exact h_move (v := .tup _) rfl) ?_
  refine t_p (h_slice_hm (h := 13 + m) (m := 13 + m) rfl rfl rfl rfl rfl Try.underlying29 Try.sizeOf5 (Nat.le_refl _) (by omega)) ?_
  refine t_a (h_bsls1 rfl (by simp) Try.underlying92 Try.sizeOf29 Try.zeroValue29 rfl rfl) rfl ?_
  refine t_p (h_call callable_31 rfl (mac1 _ 1 0 32 2 M _ _ ((B.drop 0).take (13 + m)) (13 + m) (13 + m) hM (Nat.le_refl _) rfl win_fst rfl 0 0 _ (by rw [List.drop_zero, List.length_take]; omega) (Nat.le_refl _) (by omega) rfl (fun i y hy => win_ints (segs := [.ints .u8 len B]) (base := 0) (idx := 0) (n := 13 + m) (m := len) rfl (by omega) i y hy) rfl)) ?_
  refine t_a (h_alloc (segs := [.ints .u8 32 (z 32)]) Try.zeroValue44 (by kernel_rfl) rfl) rfl ?_
  refine t_nil ?_
  refine s_st (m_store_agg (n := 32) (segs := [.ints .u8 32 (z 32)]) (sub := [.ints .u8 32 (sMac M B (13 + m))]) (id := 3) (base := 0) (idx := 0) rfl rfl rfl (.whole (Nat.le_of_ble_eq_true rfl) rfl rfl) Try.sizeOf44 rfl) ?_
  refine s_heap (H' := [some ⟨false, [.ints .u8 len B]⟩, some ⟨true, [.ints .u8 32 M, .ints .u8 16 C]⟩, some ⟨true, [.one (.slice 0 0 0 (13 + m) (13 + m))]⟩, some ⟨true, [.ints .u8 32 (sMac M B (13 + m))]⟩]) (by kernel_rfl) ?_
  refine s_nil ?_
  refine n_wp ?_
  refine w_seq ?_
  refine w_seq ?_
  refine c_any 4 mix (by kernel_rfl) (by kernel_rfl) rfl rfl rfl ?_
  refine t_p (h_asl_h (h := 16) rfl rfl rfl Try.underlying44 Try.sizeOf5 (by omega) (by omega)) ?_
  refine t_p (by first | exact h_move (v := .s _) rfl | exact h_move (v := .agg _) rfl | exact h_move (v := .tup _) rfl) ?_
  refine t_p (by first | exact h_move (v := .s _) rfl | exact h_move (v := .agg _) rfl | exact h_move (v := .tup _) rfl) ?_
  refine t_p (slice_base (L := 13 + m) (h_slice_l3 (l := 13 + m) (n := 16) (c := cap - (13 + m)) rfl rfl rfl Try.underlying29 Try.sizeOf5 (by omega) (by omega) (by omega) rfl) (by omega)) ?_
  refine t_nil ?_
  refine s_p (h_call callable_62 rfl (msame_c _ 3 0 16 32 (((sMac M B (13 + m)).drop 0).take 16) _ (by simp [sMac_len]) (by omega) (by omega) rfl (fun i y hy => win_ints (segs := [.ints .u8 32 (sMac M B (13 + m))]) (base := 0) (idx := 0) (n := 16) (m := 32) rfl (by omega) i y hy) 0 (13 + m) (cap - (13 + m)) ((B.drop (13 + m)).take 16) _ (by simp; omega) (by omega) (by omega) rfl (fun i y hy => by have h := win_ints (segs := [.ints .u8 len B]) (base := 0) (idx := 13 + m) (n := 16) (m := len) rfl (by omega) i y hy; rwa [Nat.zero_add] at h) false (decide_eq_false hm))) ?_
  refine s_p (h_not rfl) ?_
  refine s_nil ?_
  refine n_wp ?_
  refine w_cond rfl (fun hc_t34 => ?_) (fun hc_t34 => ?_)
  rotate_left
  · exact absurd hc_t34 (by simp)
  refine w_seq ?_
  refine c_reg (by kernel_rfl) rfl ?_
  refine s_p (by first | exact h_assign (v := .s _) rfl | exact h_assign (v := .agg _) rfl | exact h_assign (v := .tup _) rfl) ?_
  refine s_p (by first | exact h_assign (v := .s _) rfl | exact h_assign (v := .agg _) rfl | exact h_assign (v := .tup _) rfl) ?_
  refine s_p (by first | exact h_assign (v := .s _) rfl | exact h_assign (v := .agg _) rfl | exact h_assign (v := .tup _) rfl) ?_
  refine s_p (by first | exact h_assign (v := .s _) rfl | exact h_assign (v := .agg _) rfl | exact h_assign (v := .tup _) rfl) ?_
  refine s_nil ?_
  refine n_wp ?_
  refine w_ret ?_
  refine r_thn ?_
  exact doneM (by repeat (first | exact trivial | refine ⟨rfl, ?_⟩)) (ret_tmps4 Try.results37 rfl rfl rfl rfl)
set_option maxRecDepth 100000 in
set_option maxHeartbeats 2000000 in
theorem open_form (H : Heap) (M C : List Int) (id sh len cap : Nat) (B : List Int) (bd : Blk) (hdl : B.length = len) (hdc : len ≤ cap) (hdm : len ≤ 140737488351232) (hd : H[id]? = some (some bd)) (hds : ∀ (i : Nat) (y : SV), atS [.ints .u8 len B] i = some y → atS bd.segs (sh + i) = some y) (h29 : 29 ≤ len) (h2k : len ≤ 2048) (h9 : B.getD 0 0 ≠ 9) : ACall Try.prog 37 H [.agg [.ints .u8 32 M, .ints .u8 16 C], .s (.slice id (0 + sh) 0 len cap)] (.tup [.s (.int .u32 0), .s (.int .u64 0), .s (.nils), .s (.int .i64 4)]) [] := by
  refine acall_gen2 (args0 := [.agg [.ints .u8 32 M, .ints .u8 16 C], .s (.slice 0 0 0 len cap)]) (H0 := [some ⟨false, [.ints .u8 len B]⟩]) (Hf := []) (v0 := (.tup [.s (.int .u32 0), .s (.int .u64 0), .s (.nils), .s (.int .i64 4)])) [(id, sh)] [] Try.func37 rfl Try.ntmps37 (by simp) rfl
    (fun k id' sh' b0 h1 h2 => by
      match k, h1, h2 with
      | 0, h1, h2 => simp at h1 h2; obtain ⟨rfl, rfl⟩ := h1; subst h2; exact ⟨rfl, rfl, _, hd, fun i y hy => by (have h := hds i y hy; obtain ⟨_, rfl⟩ := atS_ints1 hy; exact h)⟩
      | k + 1, h1, _ => simp at h1)
    (fun W ρ vals w hH ha k id' sh' hk => by
      match k, hk with
      | 0, hk => simp at hk; obtain ⟨rfl, rfl⟩ := hk; exact ⟨(List.getElem?_eq_some_iff.1 hd).1, live_slice (i := 1) ha rfl⟩
      | k + 1, hk => simp at hk)
    rfl rfl rfl (by decide) rfl rfl rfl (fun W w ρ0 hW hdom => ?_)
  refine w_seq ?_
  refine c_reg (by kernel_rfl) rfl ?_
  refine s_a (by first | exact h_box_agg rfl rfl | exact h_box rfl (by simp) rfl) rfl ?_
  refine s_p (by first | exact h_assign (v := .s _) rfl | exact h_assign (v := .agg _) rfl | exact h_assign (v := .tup _) rfl) ?_
  refine s_p (by first | exact h_assign (v := .s _) rfl | exact h_assign (v := .agg _) rfl | exact h_assign (v := .tup _) rfl) ?_
  refine s_p (by first | exact h_assign (v := .s _) rfl | exact h_assign (v := .agg _) rfl | exact h_assign (v := .tup _) rfl) ?_
  refine s_p (by first | exact h_assign (v := .s _) rfl | exact h_assign (v := .agg _) rfl | exact h_assign (v := .tup _) rfl) ?_
  refine s_nil ?_
  refine n_wp ?_
  refine w_seq ?_
  refine w_seq ?_
  refine c_reg (by kernel_rfl) rfl ?_
  refine s_p (by first | exact h_move (v := .s _) rfl | exact h_move (v := .agg _) rfl | exact h_move (v := .tup _) rfl) ?_
  refine s_p (h_call callable_38 rfl (Lane_form _ 0 0 len cap B _ hdl hdc hdm rfl (fun i y hy => by rw [Nat.zero_add i]; exact hy) h29 h2k h9)) ?_
  refine s_p (by first | exact h_move (v := .s _) rfl | exact h_move (v := .agg _) rfl | exact h_move (v := .tup _) rfl) ?_
  refine s_p (h_extract rfl rfl (by simp)) ?_
  refine s_p (h_extract rfl rfl (by simp)) ?_
  refine s_p (by first | exact h_assign (v := .s _) rfl | exact h_assign (v := .agg _) rfl | exact h_assign (v := .tup _) rfl) ?_
  refine s_p (by first | exact h_assign (v := .s _) rfl | exact h_assign (v := .agg _) rfl | exact h_assign (v := .tup _) rfl) ?_
  refine s_nil ?_
  refine n_wp ?_
  refine w_seq ?_
  refine c_reg (by kernel_rfl) rfl ?_
  refine s_p (by first | exact h_move (v := .s _) rfl | exact h_move (v := .agg _) rfl | exact h_move (v := .tup _) rfl) ?_
  refine s_p (h_bin rfl rfl (b_neq rfl)) ?_
  refine s_nil ?_
  refine n_wp ?_
  refine w_cond rfl (fun hc_t16 => ?_) (fun hc_t16 => ?_)
  rotate_left
  · exact absurd hc_t16 (by simp)
  refine w_seq ?_
  refine c_reg (by kernel_rfl) rfl ?_
  refine s_p (by first | exact h_move (v := .s _) rfl | exact h_move (v := .agg _) rfl | exact h_move (v := .tup _) rfl) ?_
  refine s_p (by first | exact h_assign (v := .s _) rfl | exact h_assign (v := .agg _) rfl | exact h_assign (v := .tup _) rfl) ?_
  refine s_p (by first | exact h_assign (v := .s _) rfl | exact h_assign (v := .agg _) rfl | exact h_assign (v := .tup _) rfl) ?_
  refine s_p (by first | exact h_assign (v := .s _) rfl | exact h_assign (v := .agg _) rfl | exact h_assign (v := .tup _) rfl) ?_
  refine s_p (by first | exact h_assign (v := .s _) rfl | exact h_assign (v := .agg _) rfl | exact h_assign (v := .tup _) rfl) ?_
  refine s_nil ?_
  refine n_wp ?_
  refine w_ret ?_
  refine r_thn ?_
  exact doneM (by repeat (first | exact trivial | refine ⟨rfl, ?_⟩)) (ret_tmps4 Try.results37 rfl rfl rfl rfl)
set_option maxRecDepth 100000 in
set_option maxHeartbeats 2000000 in
theorem open_short (H : Heap) (M C : List Int) (id sh len cap : Nat) (B : List Int) (bd : Blk) (hdl : B.length = len) (hdc : len ≤ cap) (hdm : len ≤ 140737488351232) (hd : H[id]? = some (some bd)) (hds : ∀ (i : Nat) (y : SV), atS [.ints .u8 len B] i = some y → atS bd.segs (sh + i) = some y) (h29 : len < 29) : ACall Try.prog 37 H [.agg [.ints .u8 32 M, .ints .u8 16 C], .s (.slice id (0 + sh) 0 len cap)] (.tup [.s (.int .u32 0), .s (.int .u64 0), .s (.nils), .s (.int .i64 5)]) [] := by
  refine acall_gen2 (args0 := [.agg [.ints .u8 32 M, .ints .u8 16 C], .s (.slice 0 0 0 len cap)]) (H0 := [some ⟨false, [.ints .u8 len B]⟩]) (Hf := []) (v0 := (.tup [.s (.int .u32 0), .s (.int .u64 0), .s (.nils), .s (.int .i64 5)])) [(id, sh)] [] Try.func37 rfl Try.ntmps37 (by simp) rfl
    (fun k id' sh' b0 h1 h2 => by
      match k, h1, h2 with
      | 0, h1, h2 => simp at h1 h2; obtain ⟨rfl, rfl⟩ := h1; subst h2; exact ⟨rfl, rfl, _, hd, fun i y hy => by (have h := hds i y hy; obtain ⟨_, rfl⟩ := atS_ints1 hy; exact h)⟩
      | k + 1, h1, _ => simp at h1)
    (fun W ρ vals w hH ha k id' sh' hk => by
      match k, hk with
      | 0, hk => simp at hk; obtain ⟨rfl, rfl⟩ := hk; exact ⟨(List.getElem?_eq_some_iff.1 hd).1, live_slice (i := 1) ha rfl⟩
      | k + 1, hk => simp at hk)
    rfl rfl rfl (by decide) rfl rfl rfl (fun W w ρ0 hW hdom => ?_)
  refine w_seq ?_
  refine c_reg (by kernel_rfl) rfl ?_
  refine s_a (by first | exact h_box_agg rfl rfl | exact h_box rfl (by simp) rfl) rfl ?_
  refine s_p (by first | exact h_assign (v := .s _) rfl | exact h_assign (v := .agg _) rfl | exact h_assign (v := .tup _) rfl) ?_
  refine s_p (by first | exact h_assign (v := .s _) rfl | exact h_assign (v := .agg _) rfl | exact h_assign (v := .tup _) rfl) ?_
  refine s_p (by first | exact h_assign (v := .s _) rfl | exact h_assign (v := .agg _) rfl | exact h_assign (v := .tup _) rfl) ?_
  refine s_p (by first | exact h_assign (v := .s _) rfl | exact h_assign (v := .agg _) rfl | exact h_assign (v := .tup _) rfl) ?_
  refine s_nil ?_
  refine n_wp ?_
  refine w_seq ?_
  refine w_seq ?_
  refine c_reg (by kernel_rfl) rfl ?_
  refine s_p (by first | exact h_move (v := .s _) rfl | exact h_move (v := .agg _) rfl | exact h_move (v := .tup _) rfl) ?_
  refine s_p (h_call callable_38 rfl (Lane_short _ 0 0 len cap B _ hdl hdc hdm rfl (fun i y hy => by rw [Nat.zero_add i]; exact hy) h29)) ?_
  refine s_p (by first | exact h_move (v := .s _) rfl | exact h_move (v := .agg _) rfl | exact h_move (v := .tup _) rfl) ?_
  refine s_p (h_extract rfl rfl (by simp)) ?_
  refine s_p (h_extract rfl rfl (by simp)) ?_
  refine s_p (by first | exact h_assign (v := .s _) rfl | exact h_assign (v := .agg _) rfl | exact h_assign (v := .tup _) rfl) ?_
  refine s_p (by first | exact h_assign (v := .s _) rfl | exact h_assign (v := .agg _) rfl | exact h_assign (v := .tup _) rfl) ?_
  refine s_nil ?_
  refine n_wp ?_
  refine w_seq ?_
  refine c_reg (by kernel_rfl) rfl ?_
  refine s_p (by first | exact h_move (v := .s _) rfl | exact h_move (v := .agg _) rfl | exact h_move (v := .tup _) rfl) ?_
  refine s_p (h_bin rfl rfl (b_neq rfl)) ?_
  refine s_nil ?_
  refine n_wp ?_
  refine w_cond rfl (fun hc_t16 => ?_) (fun hc_t16 => ?_)
  rotate_left
  · exact absurd hc_t16 (by simp)
  refine w_seq ?_
  refine c_reg (by kernel_rfl) rfl ?_
  refine s_p (by first | exact h_move (v := .s _) rfl | exact h_move (v := .agg _) rfl | exact h_move (v := .tup _) rfl) ?_
  refine s_p (by first | exact h_assign (v := .s _) rfl | exact h_assign (v := .agg _) rfl | exact h_assign (v := .tup _) rfl) ?_
  refine s_p (by first | exact h_assign (v := .s _) rfl | exact h_assign (v := .agg _) rfl | exact h_assign (v := .tup _) rfl) ?_
  refine s_p (by first | exact h_assign (v := .s _) rfl | exact h_assign (v := .agg _) rfl | exact h_assign (v := .tup _) rfl) ?_
  refine s_p (by first | exact h_assign (v := .s _) rfl | exact h_assign (v := .agg _) rfl | exact h_assign (v := .tup _) rfl) ?_
  refine s_nil ?_
  refine n_wp ?_
  refine w_ret ?_
  refine r_thn ?_
  exact doneM (by repeat (first | exact trivial | refine ⟨rfl, ?_⟩)) (ret_tmps4 Try.results37 rfl rfl rfl rfl)
set_option maxRecDepth 100000 in
set_option maxHeartbeats 2000000 in
theorem open_shortv (H : Heap) (M C : List Int) (a : Option Addr) (n c : Nat) (h29 : n < 29) : ACall Try.prog 37 H [.agg [.ints .u8 32 M, .ints .u8 16 C], .s (.val (.slice a n c))] (.tup [.s (.int .u32 0), .s (.int .u64 0), .s (.nils), .s (.int .i64 5)]) [] := by
  refine acall_gen2 (args0 := [.agg [.ints .u8 32 M, .ints .u8 16 C], .s (.val (.slice a n c))]) (H0 := []) (Hf := []) (v0 := (.tup [.s (.int .u32 0), .s (.int .u64 0), .s (.nils), .s (.int .i64 5)])) [] [] Try.func37 rfl Try.ntmps37 (by simp) rfl
    (fun k id sh b0 h1 h2 => by simp at h1) (fun W ρ vals w hH ha k id' sh' hk => by simp at hk) rfl rfl rfl (by decide) rfl rfl rfl (fun W w ρ0 hW hdom => ?_)
  refine w_seq ?_
  refine c_reg (by kernel_rfl) rfl ?_
  refine s_a (by first | exact h_box_agg rfl rfl | exact h_box rfl (by simp) rfl) rfl ?_
  refine s_p (by first | exact h_assign (v := .s _) rfl | exact h_assign (v := .agg _) rfl | exact h_assign (v := .tup _) rfl) ?_
  refine s_p (by first | exact h_assign (v := .s _) rfl | exact h_assign (v := .agg _) rfl | exact h_assign (v := .tup _) rfl) ?_
  refine s_p (by first | exact h_assign (v := .s _) rfl | exact h_assign (v := .agg _) rfl | exact h_assign (v := .tup _) rfl) ?_
  refine s_p (by first | exact h_assign (v := .s _) rfl | exact h_assign (v := .agg _) rfl | exact h_assign (v := .tup _) rfl) ?_
  refine s_nil ?_
  refine n_wp ?_
  refine w_seq ?_
  refine w_seq ?_
  refine c_reg (by kernel_rfl) rfl ?_
  refine s_p (by first | exact h_move (v := .s _) rfl | exact h_move (v := .agg _) rfl | exact h_move (v := .tup _) rfl) ?_
  refine s_p (h_call callable_38 rfl (Lane_shortv _ a n c h29)) ?_
  refine s_p (by first | exact h_move (v := .s _) rfl | exact h_move (v := .agg _) rfl | exact h_move (v := .tup _) rfl) ?_
  refine s_p (h_extract rfl rfl (by simp)) ?_
  refine s_p (h_extract rfl rfl (by simp)) ?_
  refine s_p (by first | exact h_assign (v := .s _) rfl | exact h_assign (v := .agg _) rfl | exact h_assign (v := .tup _) rfl) ?_
  refine s_p (by first | exact h_assign (v := .s _) rfl | exact h_assign (v := .agg _) rfl | exact h_assign (v := .tup _) rfl) ?_
  refine s_nil ?_
  refine n_wp ?_
  refine w_seq ?_
  refine c_reg (by kernel_rfl) rfl ?_
  refine s_p (by first | exact h_move (v := .s _) rfl | exact h_move (v := .agg _) rfl | exact h_move (v := .tup _) rfl) ?_
  refine s_p (h_bin rfl rfl (b_neq rfl)) ?_
  refine s_nil ?_
  refine n_wp ?_
  refine w_cond rfl (fun hc_t16 => ?_) (fun hc_t16 => ?_)
  rotate_left
  · exact absurd hc_t16 (by simp)
  refine w_seq ?_
  refine c_reg (by kernel_rfl) rfl ?_
  refine s_p (by first | exact h_move (v := .s _) rfl | exact h_move (v := .agg _) rfl | exact h_move (v := .tup _) rfl) ?_
  refine s_p (by first | exact h_assign (v := .s _) rfl | exact h_assign (v := .agg _) rfl | exact h_assign (v := .tup _) rfl) ?_
  refine s_p (by first | exact h_assign (v := .s _) rfl | exact h_assign (v := .agg _) rfl | exact h_assign (v := .tup _) rfl) ?_
  refine s_p (by first | exact h_assign (v := .s _) rfl | exact h_assign (v := .agg _) rfl | exact h_assign (v := .tup _) rfl) ?_
  refine s_p (by first | exact h_assign (v := .s _) rfl | exact h_assign (v := .agg _) rfl | exact h_assign (v := .tup _) rfl) ?_
  refine s_nil ?_
  refine n_wp ?_
  refine w_ret ?_
  refine r_thn ?_
  exact doneM (by repeat (first | exact trivial | refine ⟨rfl, ?_⟩)) (ret_tmps4 Try.results37 rfl rfl rfl rfl)
set_option maxRecDepth 100000 in
set_option maxHeartbeats 2000000 in
theorem open_longv (H : Heap) (M C : List Int) (a : Option Addr) (n c : Nat) (h2k : 2048 < n) : ACall Try.prog 37 H [.agg [.ints .u8 32 M, .ints .u8 16 C], .s (.val (.slice a n c))] (.tup [.s (.int .u32 0), .s (.int .u64 0), .s (.nils), .s (.int .i64 3)]) [] := by
  refine acall_gen2 (args0 := [.agg [.ints .u8 32 M, .ints .u8 16 C], .s (.val (.slice a n c))]) (H0 := []) (Hf := []) (v0 := (.tup [.s (.int .u32 0), .s (.int .u64 0), .s (.nils), .s (.int .i64 3)])) [] [] Try.func37 rfl Try.ntmps37 (by simp) rfl
    (fun k id sh b0 h1 h2 => by simp at h1) (fun W ρ vals w hH ha k id' sh' hk => by simp at hk) rfl rfl rfl (by decide) rfl rfl rfl (fun W w ρ0 hW hdom => ?_)
  refine w_seq ?_
  refine c_reg (by kernel_rfl) rfl ?_
  refine s_a (by first | exact h_box_agg rfl rfl | exact h_box rfl (by simp) rfl) rfl ?_
  refine s_p (by first | exact h_assign (v := .s _) rfl | exact h_assign (v := .agg _) rfl | exact h_assign (v := .tup _) rfl) ?_
  refine s_p (by first | exact h_assign (v := .s _) rfl | exact h_assign (v := .agg _) rfl | exact h_assign (v := .tup _) rfl) ?_
  refine s_p (by first | exact h_assign (v := .s _) rfl | exact h_assign (v := .agg _) rfl | exact h_assign (v := .tup _) rfl) ?_
  refine s_p (by first | exact h_assign (v := .s _) rfl | exact h_assign (v := .agg _) rfl | exact h_assign (v := .tup _) rfl) ?_
  refine s_nil ?_
  refine n_wp ?_
  refine w_seq ?_
  refine w_seq ?_
  refine c_reg (by kernel_rfl) rfl ?_
  refine s_p (by first | exact h_move (v := .s _) rfl | exact h_move (v := .agg _) rfl | exact h_move (v := .tup _) rfl) ?_
  refine s_p (h_call callable_38 rfl (Lane_longv _ a n c h2k)) ?_
  refine s_p (by first | exact h_move (v := .s _) rfl | exact h_move (v := .agg _) rfl | exact h_move (v := .tup _) rfl) ?_
  refine s_p (h_extract rfl rfl (by simp)) ?_
  refine s_p (h_extract rfl rfl (by simp)) ?_
  refine s_p (by first | exact h_assign (v := .s _) rfl | exact h_assign (v := .agg _) rfl | exact h_assign (v := .tup _) rfl) ?_
  refine s_p (by first | exact h_assign (v := .s _) rfl | exact h_assign (v := .agg _) rfl | exact h_assign (v := .tup _) rfl) ?_
  refine s_nil ?_
  refine n_wp ?_
  refine w_seq ?_
  refine c_reg (by kernel_rfl) rfl ?_
  refine s_p (by first | exact h_move (v := .s _) rfl | exact h_move (v := .agg _) rfl | exact h_move (v := .tup _) rfl) ?_
  refine s_p (h_bin rfl rfl (b_neq rfl)) ?_
  refine s_nil ?_
  refine n_wp ?_
  refine w_cond rfl (fun hc_t16 => ?_) (fun hc_t16 => ?_)
  rotate_left
  · exact absurd hc_t16 (by simp)
  refine w_seq ?_
  refine c_reg (by kernel_rfl) rfl ?_
  refine s_p (by first | exact h_move (v := .s _) rfl | exact h_move (v := .agg _) rfl | exact h_move (v := .tup _) rfl) ?_
  refine s_p (by first | exact h_assign (v := .s _) rfl | exact h_assign (v := .agg _) rfl | exact h_assign (v := .tup _) rfl) ?_
  refine s_p (by first | exact h_assign (v := .s _) rfl | exact h_assign (v := .agg _) rfl | exact h_assign (v := .tup _) rfl) ?_
  refine s_p (by first | exact h_assign (v := .s _) rfl | exact h_assign (v := .agg _) rfl | exact h_assign (v := .tup _) rfl) ?_
  refine s_p (by first | exact h_assign (v := .s _) rfl | exact h_assign (v := .agg _) rfl | exact h_assign (v := .tup _) rfl) ?_
  refine s_nil ?_
  refine n_wp ?_
  refine w_ret ?_
  refine r_thn ?_
  exact doneM (by repeat (first | exact trivial | refine ⟨rfl, ?_⟩)) (ret_tmps4 Try.results37 rfl rfl rfl rfl)
end Go.Proofs.X
