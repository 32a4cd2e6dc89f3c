/- A part of the proofs of this claim: SealW1 (SealW1). No conditions. -/
import Derived.Test.YtffflnpidipheaaMacA
import Derived.Test.YtffflnpidipheaaAesB
import Derived.Test.YtffflnpidipheaaSealA
import Derived.Test.YtffflnpidipheaaAbD
set_option linter.unusedVariables false
set_option linter.unusedSimpArgs false
open Go Go.Ab Go.Proofs
namespace Go.Proofs.X
theorem callable_62 : Callable Try.prog 62 := ⟨_, Try.func62, by kernel_rfl, rfl⟩
theorem callable_61 : Callable Try.prog 61 := ⟨_, Try.func61, by kernel_rfl, rfl⟩
theorem callable_38 : Callable Try.prog 38 := ⟨_, Try.func38, by kernel_rfl, rfl⟩
theorem callable_37 : Callable Try.prog 37 := ⟨_, Try.func37, by kernel_rfl, rfl⟩
theorem callable_35 : Callable Try.prog 35 := ⟨_, Try.func35, by kernel_rfl, rfl⟩
def I62 (A B : List Int) (n c0 c1 : Nat) (m : Nat) (T : Tm) (H : Heap) : Prop := ∃ i, i ≤ n ∧ m = n - i ∧ T = [(0, .s (.slice 0 0 0 n c0)), (1, .s (.slice 1 0 0 n c1)), (5, .s (.int .u8 (mo A B i))), (13, .s (.int .i64 ((n : Nat) : Int))), (14, .s (.int .i64 ((i : Nat) : Int)))] ∧ H = [some ⟨false, [.ints .u8 n A]⟩, some ⟨false, [.ints .u8 n B]⟩]
set_option maxRecDepth 100000 in
set_option maxHeartbeats 2000000 in
theorem msame_c (H : Heap) (id sh n c0 : Nat) (A : List Int) (bd : Blk) (hdl : A.length = n) (hdc : n ≤ c0) (hdm : n ≤ 140737488351232) (hd : H[id]? = some (some bd)) (hds : ∀ (i : Nat) (y : SV), atS [.ints .u8 n A] i = some y → atS bd.segs (sh + i) = some y) (id2 sh2 c1 : Nat) (B : List Int) (be : Blk) (hel : B.length = n) (hec : n ≤ c1) (hem : n ≤ 140737488351232) (he : H[id2]? = some (some be)) (hes : ∀ (i : Nat) (y : SV), atS [.ints .u8 n B] i = some y → atS be.segs (sh2 + i) = some y) (r : Bool) (hr : decide (mo A B n = 0) = r) : ACall Try.prog 62 H [.s (.slice id (0 + sh) 0 n c0), .s (.slice id2 (0 + sh2) 0 n c1)] (.s (.bool r)) [] := by
  refine acall_gen2 (args0 := [.s (.slice 0 0 0 n c0), .s (.slice 1 0 0 n c1)]) (H0 := [some ⟨false, [.ints .u8 n A]⟩, some ⟨false, [.ints .u8 n B]⟩]) (Hf := []) (v0 := .s (.bool r)) [(id, sh), (id2, sh2)] [] Try.func62 rfl Try.ntmps62 (by simp) rfl
    (fun k id' sh' b0 h1 h2 => by
      match k, h1, h2 with
      | 0, h1, h2 => simp at h1 h2; obtain ⟨rfl, rfl⟩ := h1; subst h2; exact ⟨rfl, rfl, _, hd, fun i y hy => by (have h := hds i y hy; obtain ⟨_, rfl⟩ := atS_ints1 hy; exact h)⟩
      | 1, h1, h2 => simp at h1 h2; obtain ⟨rfl, rfl⟩ := h1; subst h2; exact ⟨rfl, rfl, _, he, fun i y hy => by (have h := hes i y hy; obtain ⟨_, rfl⟩ := atS_ints1 hy; exact h)⟩
      | k + 2, h1, _ => simp at h1)
    (fun W ρ vals w hH ha k id' sh' hk => by
      match k, hk with
      | 0, hk => simp at hk; obtain ⟨rfl, rfl⟩ := hk; exact ⟨(List.getElem?_eq_some_iff.1 hd).1, live_slice (i := 0) ha rfl⟩
      | 1, hk => simp at hk; obtain ⟨rfl, rfl⟩ := hk; exact ⟨(List.getElem?_eq_some_iff.1 he).1, live_slice (i := 1) ha rfl⟩
      | k + 2, hk => simp at hk)
    rfl rfl rfl (by decide) rfl rfl rfl (fun W w ρ0 hW hdom => ?_)
  refine w_seq ?_
  refine c_reg (by kernel_rfl) rfl ?_
  refine s_p (by first | exact h_assign (v := .s _) rfl | exact h_assign (v := .agg _) rfl | exact h_assign (v := .tup _) rfl) ?_
  refine s_nil ?_
  refine n_wp ?_
  refine w_seq ?_
  refine w_seq ?_
  refine c_reg (by kernel_rfl) rfl ?_
  refine s_p (by first | exact h_move (v := .s _) rfl | exact h_move (v := .agg _) rfl | exact h_move (v := .tup _) rfl) ?_
  refine s_p (by first | exact h_len rfl Try.underlying29 | exact h_len_nil rfl Try.underlying29 | exact h_len_val rfl Try.underlying29) ?_
  refine s_p (by first | exact h_move (v := .s _) rfl | exact h_move (v := .agg _) rfl | exact h_move (v := .tup _) rfl) ?_
  refine s_p (by first | exact h_len rfl Try.underlying29 | exact h_len_nil rfl Try.underlying29 | exact h_len_val rfl Try.underlying29) ?_
  refine s_p (h_bin rfl rfl (b_neq rfl)) ?_
  refine s_nil ?_
  refine n_wp ?_
  refine w_cond rfl (fun hc_t11 => ?_) (fun hc_t11 => ?_)
  · exact absurd hc_t11 (by intro h; simp at h)
  refine w_skip ?_
  refine n_wp ?_
  refine w_seq ?_
  refine c_reg (by kernel_rfl) rfl ?_
  refine s_p (by first | exact h_assign (v := .s _) rfl | exact h_assign (v := .agg _) rfl | exact h_assign (v := .tup _) rfl) ?_
  refine s_nil ?_
  refine n_wp ?_
  refine w_seq ?_
  refine w_seq ?_
  refine c_reg (by kernel_rfl) rfl ?_
  refine s_p (by first | exact h_move (v := .s _) rfl | exact h_move (v := .agg _) rfl | exact h_move (v := .tup _) rfl) ?_
  refine s_p (by first | exact h_len rfl Try.underlying29 | exact h_len_nil rfl Try.underlying29 | exact h_len_val rfl Try.underlying29) ?_
  refine s_p (by first | exact h_move (v := .s _) rfl | exact h_move (v := .agg _) rfl | exact h_move (v := .tup _) rfl) ?_
  refine s_nil ?_
  refine n_wp ?_
  refine w_block ?_
  refine c_loop (I62 A B n c0 c1) n ⟨0, by omega, rfl, rfl, rfl⟩ (weak' (by repeat (first | exact trivial | refine ⟨rfl, ?_⟩)) rfl rfl (Nat.le_of_ble_eq_true rfl)) ?_
  rintro n T H ⟨i, hi, rfl, rfl, rfl⟩
  refine w_seq ?_
  refine c_reg (by kernel_rfl) rfl ?_
  refine s_p (h_bin rfl rfl (b_lss rfl)) ?_
  refine s_nil ?_
  refine n_wp ?_
  refine w_seq ?_
  refine w_cond rfl (fun hc_t15 => ?_) (fun hc_t15 => ?_)
  · skip
    have hlt : i < n := by have := of_decide_eq_true hc_t15; omega
    refine w_skip ?_
    refine n_wp ?_
    refine w_seq ?_
    refine w_block ?_
    refine w_seq ?_
    refine c_reg (by kernel_rfl) rfl ?_
    refine s_p (by first | exact h_move (v := .s _) rfl | exact h_move (v := .agg _) rfl | exact h_move (v := .tup _) rfl) ?_
    refine s_p (by first | exact h_assign (v := .s _) rfl | exact h_assign (v := .agg _) rfl | exact h_assign (v := .tup _) rfl) ?_
    refine s_nil ?_
    refine n_wp ?_
    refine c_any 10 mix (by kernel_rfl) (by kernel_rfl) rfl rfl rfl ?_
    refine t_p (by first | exact h_move (v := .s _) rfl | exact h_move (v := .agg _) rfl | exact h_move (v := .tup _) rfl) ?_
    refine t_p (by first | exact h_move (v := .s _) rfl | exact h_move (v := .agg _) rfl | exact h_move (v := .tup _) rfl) ?_
    refine t_p (by first | exact h_move (v := .s _) rfl | exact h_move (v := .agg _) rfl | exact h_move (v := .tup _) rfl) ?_
    refine t_p (by first | exact h_ixs0 rfl rfl Try.underlying29 Try.sizeOf5 (by omega) | exact h_ixs rfl rfl Try.underlying29 Try.sizeOf5 (by omega) | exact h_ixsx rfl rfl Try.underlying29 Try.sizeOf5 (by omega)) ?_
    refine t_p (by first | exact h_load_ints rfl rfl rfl (by omega) rfl Try.isAgg5 | exact h_load_one rfl rfl rfl Try.isAgg5) ?_
    refine t_p (by first | exact h_move (v := .s _) rfl | exact h_move (v := .agg _) rfl | exact h_move (v := .tup _) rfl) ?_
    refine t_p (by first | exact h_move (v := .s _) rfl | exact h_move (v := .agg _) rfl | exact h_move (v := .tup _) rfl) ?_
    refine t_p (by first | exact h_ixs0 rfl rfl Try.underlying29 Try.sizeOf5 (by omega) | exact h_ixs rfl rfl Try.underlying29 Try.sizeOf5 (by omega) | exact h_ixsx rfl rfl Try.underlying29 Try.sizeOf5 (by omega)) ?_
    refine t_p (by first | exact h_load_ints rfl rfl rfl (by omega) rfl Try.isAgg5 | exact h_load_one rfl rfl rfl Try.isAgg5) ?_
    refine t_p (h_bin rfl rfl (b_xor rfl)) ?_
    refine t_nil ?_
    refine s_p (h_bin rfl rfl (b_or rfl)) ?_
    refine s_p (by first | exact h_assign (v := .s _) rfl | exact h_assign (v := .agg _) rfl | exact h_assign (v := .tup _) rfl) ?_
    refine s_nil ?_
    refine n_blo ?_
    refine n_wp ?_
    refine c_reg (by kernel_rfl) rfl ?_
    refine s_p (by first | exact h_bin rfl rfl (b_add (Go.IntWalk.i64_in _ (by omega))) | exact h_bin rfl rfl (b_add rfl)) ?_
    refine s_p (by first | exact h_move (v := .s _) rfl | exact h_move (v := .agg _) rfl | exact h_move (v := .tup _) rfl) ?_
    refine s_nil ?_
    exact n_round (n - (i + 1)) (by omega) ⟨i + 1, by omega, rfl, rfl, rfl⟩ (weak' (by repeat (first | exact trivial | refine ⟨rfl, ?_⟩)) rfl rfl (Nat.le_of_ble_eq_true rfl))
  · skip
    have hi : n = i := by have := of_decide_eq_false hc_t15; omega
    subst hi
    subst hr
    refine w_exit ?_
    refine x_thn ?_
    refine x_thn ?_
    refine x_eq ?_
    refine n_wp ?_
    refine w_seq ?_
    refine c_reg (by kernel_rfl) rfl ?_
    refine s_p (by first | exact h_move (v := .s _) rfl | exact h_move (v := .agg _) rfl | exact h_move (v := .tup _) rfl) ?_
    refine s_p (h_bin rfl rfl (b_eql rfl)) ?_
    refine s_p (by first | exact h_assign (v := .s _) rfl | exact h_assign (v := .agg _) rfl | exact h_assign (v := .tup _) rfl) ?_
    refine s_nil ?_
    refine n_wp ?_
    refine w_ret ?_
    exact doneM (by repeat (first | exact trivial | refine ⟨rfl, ?_⟩)) (ret_tmp Try.results62 rfl)
set_option maxRecDepth 100000 in
set_option maxHeartbeats 2000000 in
theorem first_c (H : Heap) (id sh len cap : Nat) (B : List Int) (bd : Blk) (hdl : B.length = len) (hdc : len ≤ cap) (hdm : len ≤ 140737488351232) (hd : H[id]? = some (some bd)) (hds : ∀ (i : Nat) (y : SV), atS [.ints .u8 len B] i = some y → atS bd.segs (sh + i) = some y) (h13 : 13 ≤ len) : ACall Try.prog 61 H [.s (.slice id (0 + sh) 0 len cap)] (.agg [.ints .u8 16 (fiL B)]) [] := by
  refine acall_gen2 (args0 := [.s (.slice 0 0 0 len cap)]) (H0 := [some ⟨false, [.ints .u8 len B]⟩]) (Hf := []) (v0 := .agg [.ints .u8 16 (fiL B)]) [(id, sh)] [] Try.func61 rfl Try.ntmps61 (by simp) rfl
    (fun k id' sh' b0 h1 h2 => by
      match k, h1, h2 with
      | 0, h1, h2 => simp at h1 h2; obtain ⟨rfl, rfl⟩ := h1; subst h2; exact ⟨rfl, rfl, _, hd, fun i y hy => by (have h := hds i y hy; obtain ⟨_, rfl⟩ := atS_ints1 hy; exact h)⟩
      | k + 1, h1, _ => simp at h1)
    (fun W ρ vals w hH ha k id' sh' hk => by
      match k, hk with
      | 0, hk => simp at hk; obtain ⟨rfl, rfl⟩ := hk; exact ⟨(List.getElem?_eq_some_iff.1 hd).1, live_slice (i := 0) ha rfl⟩
      | k + 1, hk => simp at hk)
    rfl rfl rfl (by decide) rfl rfl rfl (fun W w ρ0 hW hdom => ?_)
  refine w_seq ?_
  refine c_reg (by kernel_rfl) rfl ?_
  refine s_a (h_alloc (segs := [.ints .u8 16 (z 16)]) Try.zeroValue22 (by kernel_rfl) rfl) rfl ?_
  refine s_nil ?_
  refine n_wp ?_
  refine w_seq ?_
  refine c_any 3 mix (by kernel_rfl) (by kernel_rfl) rfl rfl rfl ?_
  refine t_p (h_asl_0 rfl Try.underlying22 Try.sizeOf5 (by omega)) ?_
  refine t_p (by first | exact h_move (v := .s _) rfl | exact h_move (v := .agg _) rfl | exact h_move (v := .tup _) rfl) ?_
  refine t_p (h_slice_lh (l := 1) (h := 13) (n := 12) rfl rfl rfl rfl rfl Try.underlying29 Try.sizeOf5 (by omega) (by omega) (by omega) (by omega) rfl) ?_
  refine t_nil ?_
  refine s_m (m_copy (n := 12) (idx2 := 0 + 1) rfl rfl rfl rfl rfl hdl (by omega) (by omega) Try.underlying29 Try.sizeOf5 (.ints (by omega) rfl (by omega))) ?_
  refine s_nil ?_
  refine n_wp ?_
  refine w_seq ?_
  refine c_reg (by kernel_rfl) rfl ?_
  refine s_p (by first | exact h_load_agg rfl rfl (.whole rfl) Try.isAgg22 Try.sizeOf22 | exact h_load_agg rfl rfl (.seg rfl rfl) Try.isAgg22 Try.sizeOf22 | exact h_load_agg rfl rfl (.ints rfl (by omega)) Try.isAgg22 Try.sizeOf22) ?_
  refine s_st (by first | exact m_store_agg rfl rfl rfl (.whole (Nat.le_of_ble_eq_true rfl) rfl rfl) Try.sizeOf22 rfl | exact m_store_agg rfl rfl rfl (.seg (Nat.le_of_ble_eq_true rfl) rfl rfl rfl) Try.sizeOf22 rfl | exact m_store_agg rfl rfl rfl (.ints (Nat.le_of_ble_eq_true rfl) rfl (by omega)) Try.sizeOf22 rfl) ?_
  refine s_nil ?_
  refine n_wp ?_
  refine w_ret ?_
  exact doneM (by repeat (first | exact trivial | refine ⟨rfl, ?_⟩)) (ret_cell_agg Try.results61 rfl rfl (.whole rfl) Try.isAgg22 Try.sizeOf22)
set_option maxRecDepth 100000 in
set_option maxHeartbeats 2000000 in
theorem Lane_ok (H : Heap) (id sh len cap : Nat) (B : List Int) (bd : Blk) (hdl : B.length = len) (hdc : len ≤ cap) (hdm : len ≤ 140737488351232) (hd : H[id]? = some (some bd)) (hds : ∀ (i : Nat) (y : SV), atS [.ints .u8 len B] i = some y → atS bd.segs (sh + i) = some y) (h29 : 29 ≤ len) (h2k : len ≤ 2048) (h9 : B.getD 0 0 = 9) (l : Nat) (hlt : l < 4294967296) (hg : getI ((B.drop (0 + 1)).take (len - 1)) 4 = ((l : Nat) : Int)) : ACall Try.prog 38 H [.s (.slice id (0 + sh) 0 len cap)] (.tup [.s (.int .u32 ((l : Nat) : Int)), .s (.int .i64 0)]) [] := by
  refine acall_gen2 (args0 := [.s (.slice 0 0 0 len cap)]) (H0 := [some ⟨false, [.ints .u8 len B]⟩]) (Hf := []) (v0 := (.tup [.s (.int .u32 ((l : Nat) : Int)), .s (.int .i64 0)])) [(id, sh)] [] Try.func38 rfl Try.ntmps38 (by simp) rfl
    (fun k id' sh' b0 h1 h2 => by
      match k, h1, h2 with
      | 0, h1, h2 => simp at h1 h2; obtain ⟨rfl, rfl⟩ := h1; subst h2; exact ⟨rfl, rfl, _, hd, fun i y hy => by (have h := hds i y hy; obtain ⟨_, rfl⟩ := atS_ints1 hy; exact h)⟩
      | k + 1, h1, _ => simp at h1)
    (fun W ρ vals w hH ha k id' sh' hk => by
      match k, hk with
      | 0, hk => simp at hk; obtain ⟨rfl, rfl⟩ := hk; exact ⟨(List.getElem?_eq_some_iff.1 hd).1, live_slice (i := 0) ha rfl⟩
      | k + 1, hk => simp at hk)
    rfl rfl rfl (by decide) rfl rfl rfl (fun W w ρ0 hW hdom => ?_)
  refine w_seq ?_
  refine c_reg (by kernel_rfl) rfl ?_
  refine s_p (by first | exact h_assign (v := .s _) rfl | exact h_assign (v := .agg _) rfl | exact h_assign (v := .tup _) rfl) ?_
  refine s_p (by first | exact h_assign (v := .s _) rfl | exact h_assign (v := .agg _) rfl | exact h_assign (v := .tup _) rfl) ?_
  refine s_nil ?_
  refine n_wp ?_
  refine w_seq ?_
  refine w_block ?_
  refine w_seq ?_
  refine c_reg (by kernel_rfl) rfl ?_
  refine s_p (by first | exact h_move (v := .s _) rfl | exact h_move (v := .agg _) rfl | exact h_move (v := .tup _) rfl) ?_
  refine s_p (by first | exact h_len rfl Try.underlying29 | exact h_len_nil rfl Try.underlying29 | exact h_len_val rfl Try.underlying29) ?_
  refine s_p (h_bin rfl rfl (b_gtr rfl)) ?_
  refine s_p (by first | exact h_assign (v := .s _) rfl | exact h_assign (v := .agg _) rfl | exact h_assign (v := .tup _) rfl) ?_
  refine s_nil ?_
  refine n_wp ?_
  refine w_cond rfl (fun hc_t6 => ?_) (fun hc_t6 => ?_)
  · exact absurd hc_t6 (by intro h; have := of_decide_eq_true h; omega)
  refine w_seq ?_
  refine c_reg (by kernel_rfl) rfl ?_
  refine s_p (by first | exact h_move (v := .s _) rfl | exact h_move (v := .agg _) rfl | exact h_move (v := .tup _) rfl) ?_
  refine s_p (by first | exact h_len rfl Try.underlying29 | exact h_len_nil rfl Try.underlying29 | exact h_len_val rfl Try.underlying29) ?_
  refine s_p (h_bin rfl rfl (b_lss rfl)) ?_
  refine s_p (by first | exact h_assign (v := .s _) rfl | exact h_assign (v := .agg _) rfl | exact h_assign (v := .tup _) rfl) ?_
  refine s_nil ?_
  refine n_wp ?_
  refine w_cond rfl (fun hc_t10 => ?_) (fun hc_t10 => ?_)
  · exact absurd hc_t10 (by intro h; have := of_decide_eq_true h; omega)
  refine w_seq ?_
  refine c_reg (by kernel_rfl) rfl ?_
  refine s_p (by first | exact h_move (v := .s _) rfl | exact h_move (v := .agg _) rfl | exact h_move (v := .tup _) rfl) ?_
  refine s_p (h_ixs0l 0 rfl rfl rfl Try.underlying29 Try.sizeOf5 (by omega)) ?_
  refine s_p (by first | exact h_load_ints rfl rfl rfl (by omega) rfl Try.isAgg5 | exact h_load_one rfl rfl rfl Try.isAgg5) ?_
  refine s_p (h_bin rfl rfl (b_neq (decide_eq_false (fun h => h h9)))) ?_
  refine s_p (by first | exact h_assign (v := .s _) rfl | exact h_assign (v := .agg _) rfl | exact h_assign (v := .tup _) rfl) ?_
  refine s_nil ?_
  refine n_wp ?_
  refine w_cond rfl (fun hc_t14 => ?_) (fun hc_t14 => ?_)
  · exact absurd hc_t14 (by simp)
  refine w_skip ?_
  refine n_blo ?_
  refine n_wp ?_
  refine w_seq ?_
  refine c_reg (by kernel_rfl) rfl ?_
  refine s_p (by first | exact h_move (v := .s _) rfl | exact h_move (v := .agg _) rfl | exact h_move (v := .tup _) rfl) ?_
  refine s_p (h_slice_l2 (l := 1) rfl rfl rfl Try.underlying29 Try.sizeOf5 (by omega) (by omega)) ?_
  refine s_p (h_call callable_63 rfl (get_c ((B.drop (0 + 1)).take (len - 1)) 4 (by omega) (by omega) (len - 1) (cap - 1) _ 0 0 (0 + 1) len _ B rfl rfl (by omega) rfl (by omega) (by omega) hdl)) ?_
  refine s_p (by first | exact h_move (v := .s _) rfl | exact h_move (v := .agg _) rfl | exact h_move (v := .tup _) rfl) ?_
  refine s_p (h_extract rfl rfl (by simp)) ?_
  refine s_p (h_extract rfl rfl (by simp)) ?_
  refine s_p (by first | exact h_assign (v := .s _) rfl | exact h_assign (v := .agg _) rfl | exact h_assign (v := .tup _) rfl) ?_
  refine s_p (by first | exact h_assign (v := .s _) rfl | exact h_assign (v := .agg _) rfl | exact h_assign (v := .tup _) rfl) ?_
  refine s_nil ?_
  refine n_wp ?_
  refine w_seq ?_
  refine c_reg (by kernel_rfl) rfl ?_
  refine s_p (by first | exact h_move (v := .s _) rfl | exact h_move (v := .agg _) rfl | exact h_move (v := .tup _) rfl) ?_
  refine s_p (h_conv (r := ((l : Nat) : Int)) rfl Try.underlying40 Try.underlying61 (by rw [hg]; exact wrap32 (by omega) (by omega))) ?_
  refine s_p (by first | exact h_assign (v := .s _) rfl | exact h_assign (v := .agg _) rfl | exact h_assign (v := .tup _) rfl) ?_
  refine s_p (by first | exact h_assign (v := .s _) rfl | exact h_assign (v := .agg _) rfl | exact h_assign (v := .tup _) rfl) ?_
  refine s_nil ?_
  refine n_wp ?_
  refine w_ret ?_
  exact doneM (by repeat (first | exact trivial | refine ⟨rfl, ?_⟩)) (ret_tmps2 Try.results38 rfl rfl)
set_option maxRecDepth 100000 in
set_option maxHeartbeats 2000000 in
theorem Lane_form (H : Heap) (id sh len cap : Nat) (B : List Int) (bd : Blk) (hdl : B.length = len) (hdc : len ≤ cap) (hdm : len ≤ 140737488351232) (hd : H[id]? = some (some bd)) (hds : ∀ (i : Nat) (y : SV), atS [.ints .u8 len B] i = some y → atS bd.segs (sh + i) = some y) (h29 : 29 ≤ len) (h2k : len ≤ 2048) (h9 : B.getD 0 0 ≠ 9) : ACall Try.prog 38 H [.s (.slice id (0 + sh) 0 len cap)] (.tup [.s (.int .u32 0), .s (.int .i64 4)]) [] := by
  refine acall_gen2 (args0 := [.s (.slice 0 0 0 len cap)]) (H0 := [some ⟨false, [.ints .u8 len B]⟩]) (Hf := []) (v0 := (.tup [.s (.int .u32 0), .s (.int .i64 4)])) [(id, sh)] [] Try.func38 rfl Try.ntmps38 (by simp) rfl
    (fun k id' sh' b0 h1 h2 => by
      match k, h1, h2 with
      | 0, h1, h2 => simp at h1 h2; obtain ⟨rfl, rfl⟩ := h1; subst h2; exact ⟨rfl, rfl, _, hd, fun i y hy => by (have h := hds i y hy; obtain ⟨_, rfl⟩ := atS_ints1 hy; exact h)⟩
      | k + 1, h1, _ => simp at h1)
    (fun W ρ vals w hH ha k id' sh' hk => by
      match k, hk with
      | 0, hk => simp at hk; obtain ⟨rfl, rfl⟩ := hk; exact ⟨(List.getElem?_eq_some_iff.1 hd).1, live_slice (i := 0) ha rfl⟩
      | k + 1, hk => simp at hk)
    rfl rfl rfl (by decide) rfl rfl rfl (fun W w ρ0 hW hdom => ?_)
  refine w_seq ?_
  refine c_reg (by kernel_rfl) rfl ?_
  refine s_p (by first | exact h_assign (v := .s _) rfl | exact h_assign (v := .agg _) rfl | exact h_assign (v := .tup _) rfl) ?_
  refine s_p (by first | exact h_assign (v := .s _) rfl | exact h_assign (v := .agg _) rfl | exact h_assign (v := .tup _) rfl) ?_
  refine s_nil ?_
  refine n_wp ?_
  refine w_seq ?_
  refine w_block ?_
  refine w_seq ?_
  refine c_reg (by kernel_rfl) rfl ?_
  refine s_p (by first | exact h_move (v := .s _) rfl | exact h_move (v := .agg _) rfl | exact h_move (v := .tup _) rfl) ?_
  refine s_p (by first | exact h_len rfl Try.underlying29 | exact h_len_nil rfl Try.underlying29 | exact h_len_val rfl Try.underlying29) ?_
  refine s_p (h_bin rfl rfl (b_gtr rfl)) ?_
  refine s_p (by first | exact h_assign (v := .s _) rfl | exact h_assign (v := .agg _) rfl | exact h_assign (v := .tup _) rfl) ?_
  refine s_nil ?_
  refine n_wp ?_
  refine w_cond rfl (fun hc_t6 => ?_) (fun hc_t6 => ?_)
  · exact absurd hc_t6 (by intro h; have := of_decide_eq_true h; omega)
  refine w_seq ?_
  refine c_reg (by kernel_rfl) rfl ?_
  refine s_p (by first | exact h_move (v := .s _) rfl | exact h_move (v := .agg _) rfl | exact h_move (v := .tup _) rfl) ?_
  refine s_p (by first | exact h_len rfl Try.underlying29 | exact h_len_nil rfl Try.underlying29 | exact h_len_val rfl Try.underlying29) ?_
  refine s_p (h_bin rfl rfl (b_lss rfl)) ?_
  refine s_p (by first | exact h_assign (v := .s _) rfl | exact h_assign (v := .agg _) rfl | exact h_assign (v := .tup _) rfl) ?_
  refine s_nil ?_
  refine n_wp ?_
  refine w_cond rfl (fun hc_t10 => ?_) (fun hc_t10 => ?_)
  · exact absurd hc_t10 (by intro h; have := of_decide_eq_true h; omega)
  refine w_seq ?_
  refine c_reg (by kernel_rfl) rfl ?_
  refine s_p (by first | exact h_move (v := .s _) rfl | exact h_move (v := .agg _) rfl | exact h_move (v := .tup _) rfl) ?_
  refine s_p (h_ixs0l 0 rfl rfl rfl Try.underlying29 Try.sizeOf5 (by omega)) ?_
  refine s_p (by first | exact h_load_ints rfl rfl rfl (by omega) rfl Try.isAgg5 | exact h_load_one rfl rfl rfl Try.isAgg5) ?_
  refine s_p (h_bin rfl rfl (b_neq (decide_eq_true h9))) ?_
  refine s_p (by first | exact h_assign (v := .s _) rfl | exact h_assign (v := .agg _) rfl | exact h_assign (v := .tup _) rfl) ?_
  refine s_nil ?_
  refine n_wp ?_
  refine w_cond rfl (fun hc_t14 => ?_) (fun hc_t14 => ?_)
  rotate_left
  · exact absurd hc_t14 (by simp)
  refine w_seq ?_
  refine c_reg (by kernel_rfl) rfl ?_
  refine s_p (by first | exact h_assign (v := .s _) rfl | exact h_assign (v := .agg _) rfl | exact h_assign (v := .tup _) rfl) ?_
  refine s_p (by first | exact h_assign (v := .s _) rfl | exact h_assign (v := .agg _) rfl | exact h_assign (v := .tup _) rfl) ?_
  refine s_nil ?_
  refine n_wp ?_
  refine w_ret ?_
  refine r_blo ?_
  refine r_thn ?_
  exact doneM (by repeat (first | exact trivial | refine ⟨rfl, ?_⟩)) (ret_tmps2 Try.results38 rfl rfl)
set_option maxRecDepth 100000 in
set_option maxHeartbeats 2000000 in
theorem Lane_short (H : Heap) (id sh len cap : Nat) (B : List Int) (bd : Blk) (hdl : B.length = len) (hdc : len ≤ cap) (hdm : len ≤ 140737488351232) (hd : H[id]? = some (some bd)) (hds : ∀ (i : Nat) (y : SV), atS [.ints .u8 len B] i = some y → atS bd.segs (sh + i) = some y) (h29 : len < 29) : ACall Try.prog 38 H [.s (.slice id (0 + sh) 0 len cap)] (.tup [.s (.int .u32 0), .s (.int .i64 5)]) [] := by
  refine acall_gen2 (args0 := [.s (.slice 0 0 0 len cap)]) (H0 := [some ⟨false, [.ints .u8 len B]⟩]) (Hf := []) (v0 := (.tup [.s (.int .u32 0), .s (.int .i64 5)])) [(id, sh)] [] Try.func38 rfl Try.ntmps38 (by simp) rfl
    (fun k id' sh' b0 h1 h2 => by
      match k, h1, h2 with
      | 0, h1, h2 => simp at h1 h2; obtain ⟨rfl, rfl⟩ := h1; subst h2; exact ⟨rfl, rfl, _, hd, fun i y hy => by (have h := hds i y hy; obtain ⟨_, rfl⟩ := atS_ints1 hy; exact h)⟩
      | k + 1, h1, _ => simp at h1)
    (fun W ρ vals w hH ha k id' sh' hk => by
      match k, hk with
      | 0, hk => simp at hk; obtain ⟨rfl, rfl⟩ := hk; exact ⟨(List.getElem?_eq_some_iff.1 hd).1, live_slice (i := 0) ha rfl⟩
      | k + 1, hk => simp at hk)
    rfl rfl rfl (by decide) rfl rfl rfl (fun W w ρ0 hW hdom => ?_)
  refine w_seq ?_
  refine c_reg (by kernel_rfl) rfl ?_
  refine s_p (by first | exact h_assign (v := .s _) rfl | exact h_assign (v := .agg _) rfl | exact h_assign (v := .tup _) rfl) ?_
  refine s_p (by first | exact h_assign (v := .s _) rfl | exact h_assign (v := .agg _) rfl | exact h_assign (v := .tup _) rfl) ?_
  refine s_nil ?_
  refine n_wp ?_
  refine w_seq ?_
  refine w_block ?_
  refine w_seq ?_
  refine c_reg (by kernel_rfl) rfl ?_
  refine s_p (by first | exact h_move (v := .s _) rfl | exact h_move (v := .agg _) rfl | exact h_move (v := .tup _) rfl) ?_
  refine s_p (by first | exact h_len rfl Try.underlying29 | exact h_len_nil rfl Try.underlying29 | exact h_len_val rfl Try.underlying29) ?_
  refine s_p (h_bin rfl rfl (b_gtr rfl)) ?_
  refine s_p (by first | exact h_assign (v := .s _) rfl | exact h_assign (v := .agg _) rfl | exact h_assign (v := .tup _) rfl) ?_
  refine s_nil ?_
  refine n_wp ?_
  refine w_cond rfl (fun hc_t6 => ?_) (fun hc_t6 => ?_)
  · exact absurd hc_t6 (by intro h; have := of_decide_eq_true h; omega)
  refine w_seq ?_
  refine c_reg (by kernel_rfl) rfl ?_
  refine s_p (by first | exact h_move (v := .s _) rfl | exact h_move (v := .agg _) rfl | exact h_move (v := .tup _) rfl) ?_
  refine s_p (by first | exact h_len rfl Try.underlying29 | exact h_len_nil rfl Try.underlying29 | exact h_len_val rfl Try.underlying29) ?_
  refine s_p (h_bin rfl rfl (b_lss rfl)) ?_
  refine s_p (by first | exact h_assign (v := .s _) rfl | exact h_assign (v := .agg _) rfl | exact h_assign (v := .tup _) rfl) ?_
  refine s_nil ?_
  refine n_wp ?_
  refine w_cond rfl (fun hc_t10 => ?_) (fun hc_t10 => ?_)
  rotate_left
  · exact absurd hc_t10 (by intro h; have := of_decide_eq_false h; omega)
  refine w_seq ?_
  refine c_reg (by kernel_rfl) rfl ?_
  refine s_p (by first | exact h_assign (v := .s _) rfl | exact h_assign (v := .agg _) rfl | exact h_assign (v := .tup _) rfl) ?_
  refine s_p (by first | exact h_assign (v := .s _) rfl | exact h_assign (v := .agg _) rfl | exact h_assign (v := .tup _) rfl) ?_
  refine s_nil ?_
  refine n_wp ?_
  refine w_ret ?_
  refine r_blo ?_
  refine r_thn ?_
  exact doneM (by repeat (first | exact trivial | refine ⟨rfl, ?_⟩)) (ret_tmps2 Try.results38 rfl rfl)
set_option maxRecDepth 100000 in
set_option maxHeartbeats 2000000 in
theorem Lane_shortv (H : Heap) (a : Option Addr) (n c : Nat) (h29 : n < 29) : ACall Try.prog 38 H [.s (.val (.slice a n c))] (.tup [.s (.int .u32 0), .s (.int .i64 5)]) [] := by
  refine acall_gen2 (args0 := [.s (.val (.slice a n c))]) (H0 := []) (Hf := []) (v0 := (.tup [.s (.int .u32 0), .s (.int .i64 5)])) [] [] Try.func38 rfl Try.ntmps38 (by simp) rfl
    (fun k id sh b0 h1 h2 => by simp at h1) (fun W ρ vals w hH ha k id' sh' hk => by simp at hk) rfl rfl rfl (by decide) rfl rfl rfl (fun W w ρ0 hW hdom => ?_)
  refine w_seq ?_
  refine c_reg (by kernel_rfl) rfl ?_
  refine s_p (by first | exact h_assign (v := .s _) rfl | exact h_assign (v := .agg _) rfl | exact h_assign (v := .tup _) rfl) ?_
  refine s_p (by first | exact h_assign (v := .s _) rfl | exact h_assign (v := .agg _) rfl | exact h_assign (v := .tup _) rfl) ?_
  refine s_nil ?_
  refine n_wp ?_
  refine w_seq ?_
  refine w_block ?_
  refine w_seq ?_
  refine c_reg (by kernel_rfl) rfl ?_
  refine s_p (by first | exact h_move (v := .s _) rfl | exact h_move (v := .agg _) rfl | exact h_move (v := .tup _) rfl) ?_
  refine s_p (by first | exact h_len rfl Try.underlying29 | exact h_len_nil rfl Try.underlying29 | exact h_len_val rfl Try.underlying29) ?_
  refine s_p (h_bin rfl rfl (b_gtr rfl)) ?_
  refine s_p (by first | exact h_assign (v := .s _) rfl | exact h_assign (v := .agg _) rfl | exact h_assign (v := .tup _) rfl) ?_
  refine s_nil ?_
  refine n_wp ?_
  refine w_cond rfl (fun hc_t6 => ?_) (fun hc_t6 => ?_)
  · exact absurd hc_t6 (by intro h; have := of_decide_eq_true h; omega)
  refine w_seq ?_
  refine c_reg (by kernel_rfl) rfl ?_
  refine s_p (by first | exact h_move (v := .s _) rfl | exact h_move (v := .agg _) rfl | exact h_move (v := .tup _) rfl) ?_
  refine s_p (by first | exact h_len rfl Try.underlying29 | exact h_len_nil rfl Try.underlying29 | exact h_len_val rfl Try.underlying29) ?_
  refine s_p (h_bin rfl rfl (b_lss rfl)) ?_
  refine s_p (by first | exact h_assign (v := .s _) rfl | exact h_assign (v := .agg _) rfl | exact h_assign (v := .tup _) rfl) ?_
  refine s_nil ?_
  refine n_wp ?_
  refine w_cond rfl (fun hc_t10 => ?_) (fun hc_t10 => ?_)
  rotate_left
  · exact absurd hc_t10 (by intro h; have := of_decide_eq_false h; omega)
  refine w_seq ?_
  refine c_reg (by kernel_rfl) rfl ?_
  refine s_p (by first | exact h_assign (v := .s _) rfl | exact h_assign (v := .agg _) rfl | exact h_assign (v := .tup _) rfl) ?_
  refine s_p (by first | exact h_assign (v := .s _) rfl | exact h_assign (v := .agg _) rfl | exact h_assign (v := .tup _) rfl) ?_
  refine s_nil ?_
  refine n_wp ?_
  refine w_ret ?_
  refine r_blo ?_
  refine r_thn ?_
  exact doneM (by repeat (first | exact trivial | refine ⟨rfl, ?_⟩)) (ret_tmps2 Try.results38 rfl rfl)
set_option maxRecDepth 100000 in
set_option maxHeartbeats 2000000 in
theorem Lane_longv (H : Heap) (a : Option Addr) (n c : Nat) (h2k : 2048 < n) : ACall Try.prog 38 H [.s (.val (.slice a n c))] (.tup [.s (.int .u32 0), .s (.int .i64 3)]) [] := by
  refine acall_gen2 (args0 := [.s (.val (.slice a n c))]) (H0 := []) (Hf := []) (v0 := (.tup [.s (.int .u32 0), .s (.int .i64 3)])) [] [] Try.func38 rfl Try.ntmps38 (by simp) rfl
    (fun k id sh b0 h1 h2 => by simp at h1) (fun W ρ vals w hH ha k id' sh' hk => by simp at hk) rfl rfl rfl (by decide) rfl rfl rfl (fun W w ρ0 hW hdom => ?_)
  refine w_seq ?_
  refine c_reg (by kernel_rfl) rfl ?_
  refine s_p (by first | exact h_assign (v := .s _) rfl | exact h_assign (v := .agg _) rfl | exact h_assign (v := .tup _) rfl) ?_
  refine s_p (by first | exact h_assign (v := .s _) rfl | exact h_assign (v := .agg _) rfl | exact h_assign (v := .tup _) rfl) ?_
  refine s_nil ?_
  refine n_wp ?_
  refine w_seq ?_
  refine w_block ?_
  refine w_seq ?_
  refine c_reg (by kernel_rfl) rfl ?_
  refine s_p (by first | exact h_move (v := .s _) rfl | exact h_move (v := .agg _) rfl | exact h_move (v := .tup _) rfl) ?_
  refine s_p (by first | exact h_len rfl Try.underlying29 | exact h_len_nil rfl Try.underlying29 | exact h_len_val rfl Try.underlying29) ?_
  refine s_p (h_bin rfl rfl (b_gtr rfl)) ?_
  refine s_p (by first | exact h_assign (v := .s _) rfl | exact h_assign (v := .agg _) rfl | exact h_assign (v := .tup _) rfl) ?_
  refine s_nil ?_
  refine n_wp ?_
  refine w_cond rfl (fun hc_t6 => ?_) (fun hc_t6 => ?_)
  rotate_left
  · exact absurd hc_t6 (by intro h; have := of_decide_eq_false h; omega)
  refine w_seq ?_
  refine c_reg (by kernel_rfl) rfl ?_
  refine s_p (by first | exact h_assign (v := .s _) rfl | exact h_assign (v := .agg _) rfl | exact h_assign (v := .tup _) rfl) ?_
  refine s_p (by first | exact h_assign (v := .s _) rfl | exact h_assign (v := .agg _) rfl | exact h_assign (v := .tup _) rfl) ?_
  refine s_nil ?_
  refine n_wp ?_
  refine w_ret ?_
  refine r_blo ?_
  refine r_thn ?_
  exact doneM (by repeat (first | exact trivial | refine ⟨rfl, ?_⟩)) (ret_tmps2 Try.results38 rfl rfl)
end Go.Proofs.X
