/- A part of the proofs of this claim: KeyW2. No conditions. -/
import Derived.Test.YtffflnpidipheaaKeyW1
import Derived.Test.YtffflnpidipheaaCutPure
open Go Go.Ab Go.Proofs
namespace Go.Proofs.X
theorem callable_33 : Callable Try.prog 33 := ⟨_, Try.func33, by kernel_rfl, rfl⟩
set_option maxRecDepth 100000 in
set_option maxHeartbeats 2000000 in
theorem Cut_ok (H : Heap) (id sh len cap p : Nat) (B : List Int) (bd : Blk) (hBl : B.length = len) (hcap : len ≤ cap) (hlen : len ≤ 140737488351232) (hd : H[id]? = some (some bd)) (hds : ∀ (i : Nat) (y : SV), atS [.ints .u8 len B] i = some y → atS bd.segs (sh + i) = some y) (hp : 48 * p + 48 ≤ len) : ACall Try.prog 33 H [.s (.slice id (0 + sh) 0 len cap), .s (.int .i64 ((p : Nat) : Int))] (.tup [.agg [.ints .u8 32 (cutM B p), .ints .u8 16 (cutC B p)], .s (.int .i64 0)]) [] := by
  refine acall_gen2 (args0 := [.s (.slice 0 0 0 len cap), .s (.int .i64 ((p : Nat) : Int))]) (H0 := [some ⟨false, [.ints .u8 len B]⟩]) (Hf := []) (v0 := (.tup [.agg [.ints .u8 32 (cutM B p), .ints .u8 16 (cutC B p)], .s (.int .i64 0)])) [(id, sh)] [] Try.func33 rfl Try.ntmps33 (by simp) rfl
    (fun k id' sh' b0 h1 h2 => by
      match k, h1, h2 with
      | 0, h1, h2 => simp at h1 h2; obtain ⟨rfl, rfl⟩ := h1; subst h2; exact ⟨rfl, rfl, _, hd, fun i y hy => by (have h := hds i y hy; obtain ⟨_, rfl⟩ := atS_ints1 hy; exact h)⟩
      | k + 1, h1, _ => simp at h1)
    (fun W ρ vals w hH ha k id' sh' hk => by
      match k, hk with
      | 0, hk => simp at hk; obtain ⟨rfl, rfl⟩ := hk; exact ⟨(List.getElem?_eq_some_iff.1 hd).1, live_slice (i := 0) ha rfl⟩
      | k + 1, hk => simp at hk)
    rfl rfl rfl (by decide) rfl rfl rfl (fun W w ρ0 hW hdom => ?_)
  refine w_seq ?_
  refine c_reg (by kernel_rfl) rfl ?_
  refine s_a (h_alloc (segs := [.ints .u8 32 (z 32), .ints .u8 16 (z 16)]) Try.zeroValue56 (by kernel_rfl) rfl) rfl ?_
  refine s_p (by first | exact h_assign (v := .s _) rfl | exact h_assign (v := .agg _) rfl | exact h_assign (v := .tup _) rfl) ?_
  refine s_nil ?_
  refine n_wp ?_
  refine w_seq ?_
  refine w_block ?_
  refine w_seq ?_
  refine c_reg (by kernel_rfl) rfl ?_
  refine s_p (by first | exact h_move (v := .s _) rfl | exact h_move (v := .agg _) rfl | exact h_move (v := .tup _) rfl) ?_
  refine s_p (h_bin rfl rfl (b_lss rfl)) ?_
  refine s_p (by first | exact h_assign (v := .s _) rfl | exact h_assign (v := .agg _) rfl | exact h_assign (v := .tup _) rfl) ?_
  refine s_nil ?_
  refine n_wp ?_
  refine w_cond rfl (fun hc_t6 => ?_) (fun hc_t6 => ?_)
  · exact absurd hc_t6 (by intro h; have := of_decide_eq_true h; omega)
  refine w_seq ?_
  refine c_reg (by kernel_rfl) rfl ?_
  refine s_p (by first | exact h_move (v := .s _) rfl | exact h_move (v := .agg _) rfl | exact h_move (v := .tup _) rfl) ?_
  refine s_p (by first | exact h_move (v := .s _) rfl | exact h_move (v := .agg _) rfl | exact h_move (v := .tup _) rfl) ?_
  refine s_p (by first | exact h_len rfl Try.underlying29 | exact h_len_nil rfl Try.underlying29 | exact h_len_val rfl Try.underlying29) ?_
  refine s_p (h_bin rfl rfl (b_quo (r := ((len / 48 : Nat) : Int)) (by omega) (wr_n rfl (by omega)))) ?_
  refine s_p (h_bin rfl rfl (b_geq rfl)) ?_
  refine s_p (by first | exact h_assign (v := .s _) rfl | exact h_assign (v := .agg _) rfl | exact h_assign (v := .tup _) rfl) ?_
  refine s_nil ?_
  refine n_wp ?_
  refine w_cond rfl (fun hc_t10 => ?_) (fun hc_t10 => ?_)
  · exact absurd hc_t10 (by intro h; have := of_decide_eq_true h; omega)
  refine w_skip ?_
  refine n_blo ?_
  refine n_wp ?_
  refine w_seq ?_
  refine c_reg (by kernel_rfl) rfl ?_
  refine s_p (by first | exact h_move (v := .s _) rfl | exact h_move (v := .agg _) rfl | exact h_move (v := .tup _) rfl) ?_
  refine s_p (by first | exact h_move (v := .s _) rfl | exact h_move (v := .agg _) rfl | exact h_move (v := .tup _) rfl) ?_
  refine s_p (h_bin rfl rfl (b_mul (r := ((48 * p : Nat) : Int)) (wr_n (by omega) (by omega)))) ?_
  refine s_p (by first | exact h_move (v := .s _) rfl | exact h_move (v := .agg _) rfl | exact h_move (v := .tup _) rfl) ?_
  refine s_p (h_bin rfl rfl (b_add (r := ((p + 1 : Nat) : Int)) (wr_n (by omega) (by omega)))) ?_
  refine s_p (h_bin rfl rfl (b_mul (r := ((48 * p + 48 : Nat) : Int)) (wr_n (by omega) (by omega)))) ?_
  refine s_p (by first | exact h_move (v := .s _) rfl | exact h_move (v := .agg _) rfl | exact h_move (v := .tup _) rfl) ?_
  refine s_p (h_bin rfl rfl (b_add (r := ((p + 1 : Nat) : Int)) (wr_n (by omega) (by omega)))) ?_
  refine s_p (h_bin rfl rfl (b_mul (r := ((48 * p + 48 : Nat) : Int)) (wr_n (by omega) (by omega)))) ?_
  refine s_p (h_slice_lhm (l := 48 * p) (h := 48 * p + 48) (m := 48 * p + 48) (hl := 48) (ml := 48) rfl rfl rfl rfl rfl rfl rfl Try.underlying29 Try.sizeOf5 (by omega) (by omega) (by omega) (by omega) (by omega) (by omega)) ?_
  refine s_p (by first | exact h_assign (v := .s _) rfl | exact h_assign (v := .agg _) rfl | exact h_assign (v := .tup _) rfl) ?_
  refine s_nil ?_
  refine n_wp ?_
  refine w_seq ?_
  refine c_reg (by kernel_rfl) rfl ?_
  refine s_p (h_field rfl Try.underlying56 rfl Try.sizeOf44 (by decide)) ?_
  refine s_p (h_asl_0 rfl Try.underlying44 Try.sizeOf5 (by omega)) ?_
  refine s_p (by first | exact h_move (v := .s _) rfl | exact h_move (v := .agg _) rfl | exact h_move (v := .tup _) rfl) ?_
  refine s_m (m_copy (n := 32) (idx2 := 48 * p) rfl (by rw [Nat.zero_add]; rfl) rfl rfl rfl hBl (by omega) (by omega) Try.underlying29 Try.sizeOf5 (.ints (by omega) rfl (by omega))) ?_
  refine s_nil ?_
  refine n_wp ?_
  refine w_seq ?_
  refine c_any 4 mix (by kernel_rfl) (by kernel_rfl) rfl rfl rfl ?_
  refine t_p (h_field rfl Try.underlying56 rfl Try.sizeOf22 (by decide)) ?_
  refine t_p (h_asl_0 rfl Try.underlying22 Try.sizeOf5 (by omega)) ?_
  refine t_p (by first | exact h_move (v := .s _) rfl | exact h_move (v := .agg _) rfl | exact h_move (v := .tup _) rfl) ?_
  refine t_p (h_slice_l2 (l := 32) rfl rfl rfl Try.underlying29 Try.sizeOf5 (by omega) (by omega)) ?_
  refine t_nil ?_
  refine s_m (m_copy (n := 16) (idx2 := 48 * p + 32) rfl (by rw [Nat.zero_add]; rfl) rfl rfl rfl hBl (by omega) (by omega) Try.underlying29 Try.sizeOf5 (.ints (by omega) rfl (by omega))) ?_
  refine s_nil ?_
  refine n_wp ?_
  refine w_seq ?_
  refine c_reg (by kernel_rfl) rfl ?_
  refine s_p (by first | exact h_load_agg rfl rfl (.whole rfl) Try.isAgg56 Try.sizeOf56 | exact h_load_agg rfl rfl (.seg rfl rfl) Try.isAgg56 Try.sizeOf56 | exact h_load_agg rfl rfl (.ints rfl (by omega)) Try.isAgg56 Try.sizeOf56) ?_
  refine s_st (by first | exact m_store_agg rfl rfl rfl (.whole (Nat.le_of_ble_eq_true rfl) rfl rfl) Try.sizeOf56 rfl | exact m_store_agg rfl rfl rfl (.seg (Nat.le_of_ble_eq_true rfl) rfl rfl rfl) Try.sizeOf56 rfl | exact m_store_agg rfl rfl rfl (.ints (Nat.le_of_ble_eq_true rfl) rfl (by omega)) Try.sizeOf56 rfl) ?_
  refine s_p (by first | exact h_assign (v := .s _) rfl | exact h_assign (v := .agg _) rfl | exact h_assign (v := .tup _) rfl) ?_
  refine s_nil ?_
  refine n_wp ?_
  refine w_ret ?_
  exact doneM (by repeat (first | exact trivial | refine ⟨rfl, ?_⟩)) (ret_cell_tmp Try.results33 rfl rfl (.whole rfl) Try.isAgg56 Try.sizeOf56 rfl)
set_option maxRecDepth 100000 in
set_option maxHeartbeats 2000000 in
theorem Cut_no (H : Heap) (id sh len cap p : Nat) (B : List Int) (bd : Blk) (hBl : B.length = len) (hcap : len ≤ cap) (hlen : len ≤ 140737488351232) (hd : H[id]? = some (some bd)) (hds : ∀ (i : Nat) (y : SV), atS [.ints .u8 len B] i = some y → atS bd.segs (sh + i) = some y) (hp : len < 48 * p + 48) : ACall Try.prog 33 H [.s (.slice id (0 + sh) 0 len cap), .s (.int .i64 ((p : Nat) : Int))] (.tup [.agg [.ints .u8 32 (z 32), .ints .u8 16 (z 16)], .s (.int .i64 5)]) [] := by
  refine acall_gen2 (args0 := [.s (.slice 0 0 0 len cap), .s (.int .i64 ((p : Nat) : Int))]) (H0 := [some ⟨false, [.ints .u8 len B]⟩]) (Hf := []) (v0 := (.tup [.agg [.ints .u8 32 (z 32), .ints .u8 16 (z 16)], .s (.int .i64 5)])) [(id, sh)] [] Try.func33 rfl Try.ntmps33 (by simp) rfl
    (fun k id' sh' b0 h1 h2 => by
      match k, h1, h2 with
      | 0, h1, h2 => simp at h1 h2; obtain ⟨rfl, rfl⟩ := h1; subst h2; exact ⟨rfl, rfl, _, hd, fun i y hy => by (have h := hds i y hy; obtain ⟨_, rfl⟩ := atS_ints1 hy; exact h)⟩
      | k + 1, h1, _ => simp at h1)
    (fun W ρ vals w hH ha k id' sh' hk => by
      match k, hk with
      | 0, hk => simp at hk; obtain ⟨rfl, rfl⟩ := hk; exact ⟨(List.getElem?_eq_some_iff.1 hd).1, live_slice (i := 0) ha rfl⟩
      | k + 1, hk => simp at hk)
    rfl rfl rfl (by decide) rfl rfl rfl (fun W w ρ0 hW hdom => ?_)
  refine w_seq ?_
  refine c_reg (by kernel_rfl) rfl ?_
  refine s_a (h_alloc (segs := [.ints .u8 32 (z 32), .ints .u8 16 (z 16)]) Try.zeroValue56 (by kernel_rfl) rfl) rfl ?_
  refine s_p (by first | exact h_assign (v := .s _) rfl | exact h_assign (v := .agg _) rfl | exact h_assign (v := .tup _) rfl) ?_
  refine s_nil ?_
  refine n_wp ?_
  refine w_seq ?_
  refine w_block ?_
  refine w_seq ?_
  refine c_reg (by kernel_rfl) rfl ?_
  refine s_p (by first | exact h_move (v := .s _) rfl | exact h_move (v := .agg _) rfl | exact h_move (v := .tup _) rfl) ?_
  refine s_p (h_bin rfl rfl (b_lss rfl)) ?_
  refine s_p (by first | exact h_assign (v := .s _) rfl | exact h_assign (v := .agg _) rfl | exact h_assign (v := .tup _) rfl) ?_
  refine s_nil ?_
  refine n_wp ?_
  refine w_cond rfl (fun hc_t6 => ?_) (fun hc_t6 => ?_)
  · exact absurd hc_t6 (by intro h; have := of_decide_eq_true h; omega)
  refine w_seq ?_
  refine c_reg (by kernel_rfl) rfl ?_
  refine s_p (by first | exact h_move (v := .s _) rfl | exact h_move (v := .agg _) rfl | exact h_move (v := .tup _) rfl) ?_
  refine s_p (by first | exact h_move (v := .s _) rfl | exact h_move (v := .agg _) rfl | exact h_move (v := .tup _) rfl) ?_
  refine s_p (by first | exact h_len rfl Try.underlying29 | exact h_len_nil rfl Try.underlying29 | exact h_len_val rfl Try.underlying29) ?_
  refine s_p (h_bin rfl rfl (b_quo (r := ((len / 48 : Nat) : Int)) (by omega) (wr_n rfl (by omega)))) ?_
  refine s_p (h_bin rfl rfl (b_geq rfl)) ?_
  refine s_p (by first | exact h_assign (v := .s _) rfl | exact h_assign (v := .agg _) rfl | exact h_assign (v := .tup _) rfl) ?_
  refine s_nil ?_
  refine n_wp ?_
  refine w_cond rfl (fun hc_t10 => ?_) (fun hc_t10 => ?_)
  rotate_left
  · exact absurd hc_t10 (by intro h; have := of_decide_eq_false h; omega)
  refine w_seq ?_
  refine c_reg (by kernel_rfl) rfl ?_
  refine s_p (by first | exact h_load_agg rfl rfl (.whole rfl) Try.isAgg56 Try.sizeOf56 | exact h_load_agg rfl rfl (.seg rfl rfl) Try.isAgg56 Try.sizeOf56 | exact h_load_agg rfl rfl (.ints rfl (by omega)) Try.isAgg56 Try.sizeOf56) ?_
  refine s_st (by first | exact m_store_agg rfl rfl rfl (.whole (Nat.le_of_ble_eq_true rfl) rfl rfl) Try.sizeOf56 rfl | exact m_store_agg rfl rfl rfl (.seg (Nat.le_of_ble_eq_true rfl) rfl rfl rfl) Try.sizeOf56 rfl | exact m_store_agg rfl rfl rfl (.ints (Nat.le_of_ble_eq_true rfl) rfl (by omega)) Try.sizeOf56 rfl) ?_
  refine s_p (by first | exact h_assign (v := .s _) rfl | exact h_assign (v := .agg _) rfl | exact h_assign (v := .tup _) rfl) ?_
  refine s_nil ?_
  refine n_wp ?_
  refine w_ret ?_
  refine r_blo ?_
  refine r_thn ?_
  exact doneM (by repeat (first | exact trivial | refine ⟨rfl, ?_⟩)) (ret_cell_tmp Try.results33 rfl rfl (.whole rfl) Try.isAgg56 Try.sizeOf56 rfl)
set_option maxRecDepth 100000 in
set_option maxHeartbeats 2000000 in
theorem kOf_big (H : Heap) (L ID : List Int) (m : Int) (hm : 8160 < m) : ACall Try.prog 29 H [.agg [.ints .u64 4 L], .agg [.ints .u8 32 ID], .s (.int .i64 m)] (.tup [.s .nils, .s (.int .i64 3)]) [] := by
  refine acall_gen2 (args0 := [.agg [.ints .u64 4 L], .agg [.ints .u8 32 ID], .s (.int .i64 m)]) (H0 := []) (Hf := []) (v0 := .tup [.s .nils, .s (.int .i64 3)]) [] [] Try.func29 rfl Try.ntmps29 (by simp) rfl
    (fun k id sh b0 h1 h2 => by simp at h1) (fun W ρ vals w hH ha k id' sh' hk => by simp at hk) rfl rfl rfl (by decide) rfl rfl rfl (fun W w ρ0 hW hdom => ?_)
  refine w_seq ?_
  refine c_reg (by kernel_rfl) rfl ?_
  refine s_a (by first | exact h_box_agg rfl rfl | exact h_box rfl (by simp) rfl) rfl ?_
  refine s_a (by first | exact h_box_agg rfl rfl | exact h_box rfl (by simp) rfl) rfl ?_
  refine s_p (by first | exact h_assign (v := .s _) rfl | exact h_assign (v := .agg _) rfl | exact h_assign (v := .tup _) rfl) ?_
  refine s_p (by first | exact h_assign (v := .s _) rfl | exact h_assign (v := .agg _) rfl | exact h_assign (v := .tup _) rfl) ?_
  refine s_nil ?_
  refine n_wp ?_
  refine w_seq ?_
  refine w_block ?_
  refine w_seq ?_
  refine c_reg (by kernel_rfl) rfl ?_
  refine s_p (by first | exact h_move (v := .s _) rfl | exact h_move (v := .agg _) rfl | exact h_move (v := .tup _) rfl) ?_
  refine s_p (h_bin rfl rfl (b_lss rfl)) ?_
  refine s_p (by first | exact h_assign (v := .s _) rfl | exact h_assign (v := .agg _) rfl | exact h_assign (v := .tup _) rfl) ?_
  refine s_nil ?_
  refine n_wp ?_
  refine w_cond rfl (fun hc_t13 => ?_) (fun hc_t13 => ?_)
  · exact absurd hc_t13 (by intro h; have := of_decide_eq_true h; omega)
  refine w_seq ?_
  refine c_reg (by kernel_rfl) rfl ?_
  refine s_p (by first | exact h_move (v := .s _) rfl | exact h_move (v := .agg _) rfl | exact h_move (v := .tup _) rfl) ?_
  refine s_p (h_bin rfl rfl (b_gtr rfl)) ?_
  refine s_p (by first | exact h_assign (v := .s _) rfl | exact h_assign (v := .agg _) rfl | exact h_assign (v := .tup _) rfl) ?_
  refine s_nil ?_
  refine n_wp ?_
  refine w_cond rfl (fun hc_t16 => ?_) (fun hc_t16 => ?_)
  rotate_left
  · exact absurd hc_t16 (by intro h; have := of_decide_eq_false h; omega)
  refine w_seq ?_
  refine c_reg (by kernel_rfl) rfl ?_
  refine s_p (by first | exact h_assign (v := .s _) rfl | exact h_assign (v := .agg _) rfl | exact h_assign (v := .tup _) rfl) ?_
  refine s_p (by first | exact h_assign (v := .s _) rfl | exact h_assign (v := .agg _) rfl | exact h_assign (v := .tup _) rfl) ?_
  refine s_nil ?_
  refine n_wp ?_
  refine w_ret ?_
  refine r_blo ?_
  refine r_thn ?_
  exact doneM (by repeat (first | exact trivial | refine ⟨rfl, ?_⟩)) (ret_tmps2 Try.results29 rfl rfl)
end Go.Proofs.X
