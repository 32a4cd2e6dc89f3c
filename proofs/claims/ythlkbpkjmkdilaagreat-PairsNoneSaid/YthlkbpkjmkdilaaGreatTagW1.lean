/- A part of the proofs of this claim: TagW1 (TagW1). No conditions. -/
import Derived.Test.YthlkbpkjmkdilaaGreatYShaB
import Derived.Test.YthlkbpkjmkdilaaGreatYShaA
import Derived.Test.YthlkbpkjmkdilaaGreatAbF
import Derived.Test.YthlkbpkjmkdilaaGreatAbE
set_option linter.unusedVariables false
set_option linter.unusedSimpArgs false
open Go Go.Ab Go.Proofs
namespace Go.Proofs.X
theorem callable_206 : Callable Tryz.prog 206 := ⟨_, Tryz.func206, by kernel_rfl, rfl⟩
theorem callable_62 : Callable Tryz.prog 62 := ⟨_, Tryz.func62, by kernel_rfl, rfl⟩
theorem callable_222 : Callable Tryz.prog 222 := ⟨_, Tryz.func222, by kernel_rfl, rfl⟩
theorem info5 : Tryz.prog.info? 5 = some Tryz.t5 := by kernel_rfl
set_option maxRecDepth 100000 in
set_option maxHeartbeats 4000000 in
theorem Grow_c (H : Heap) (id sh len m : Nat) (B : List Int) (bd : Blk) (hdl : B.length = len) (hd : H[id]? = some (some bd)) (hds : ∀ (i : Nat) (y : SV), atS [.ints .u8 len B] i = some y → atS bd.segs (sh + i) = some y) (h0 : 0 < m) (hm : len + m ≤ 1000000) : ACall Tryz.prog 206 H [.s (.slice id (0 + sh) 0 len len), .s (.int .i64 ((m : Nat) : Int))] (.s (.slf (H.length + 0) (0 + 0) 0 len (len + m))) [⟨true, [.ints .u8 (len + m) (B ++ List.replicate m 0)]⟩] := by
  refine acall_gen2 (args0 := [.s (.slice 0 0 0 len len), .s (.int .i64 ((m : Nat) : Int))]) (H0 := [some ⟨false, [.ints .u8 len B]⟩]) (Hf := [none, some ⟨true, [.ints .u8 (len + m) (B ++ List.replicate m 0)]⟩]) (v0 := .s (.slf 1 0 0 len (len + m))) [(id, sh)] [1] Tryz.func206 rfl Tryz.ntmps206 (by simp) rfl
    (fun k id' sh' b0 h1 h2 => by
      match k, h1, h2 with
      | 0, h1, h2 => simp at h1 h2; obtain ⟨rfl, rfl⟩ := h1; subst h2; exact ⟨rfl, rfl, _, hd, fun i y hy => by (have h := hds i y hy; obtain ⟨_, rfl⟩ := atS_ints1 hy; exact h)⟩
      | k + 1, h1, _ => simp at h1)
    (fun W ρ vals w hH ha k id' sh' hk => by
      match k, hk with
      | 0, hk => simp at hk; obtain ⟨rfl, rfl⟩ := hk; exact ⟨(List.getElem?_eq_some_iff.1 hd).1, live_slice (i := 0) ha rfl⟩
      | k + 1, hk => simp at hk)
    rfl rfl rfl (by decide) rfl rfl rfl (fun W w ρ0 hW hdom => ?_)
  refine w_seq ?_
  refine c_reg (by kernel_rfl) rfl ?_
  refine s_p (by first | exact h_assign (v := .s _) rfl | exact h_assign (v := .agg _) rfl | exact h_assign (v := .tup _) rfl) ?_
  refine s_nil ?_
  refine n_wp ?_
  refine w_seq ?_
  refine w_seq ?_
  refine c_reg (by kernel_rfl) rfl ?_
  refine s_p (by first | exact h_move (v := .s _) rfl | exact h_move (v := .agg _) rfl | exact h_move (v := .tup _) rfl) ?_
  refine s_p (h_bin rfl rfl (b_lss (decide_eq_false (by omega)))) ?_
  refine s_nil ?_
  refine n_wp ?_
  refine w_cond rfl (fun hc_t6 => ?_) (fun hc_t6 => ?_)
  · exact absurd hc_t6 (by simp)
  refine w_skip ?_
  refine n_wp ?_
  refine w_seq ?_
  refine w_seq ?_
  refine c_reg (by kernel_rfl) rfl ?_
  refine s_p (by first | exact h_move (v := .s _) rfl | exact h_move (v := .agg _) rfl | exact h_move (v := .tup _) rfl) ?_
  refine s_p (by first | exact h_move (v := .s _) rfl | exact h_move (v := .agg _) rfl | exact h_move (v := .tup _) rfl) ?_
  refine s_p (h_cap_sl rfl Tryz.underlying49) ?_
  refine s_p (by first | exact h_move (v := .s _) rfl | exact h_move (v := .agg _) rfl | exact h_move (v := .tup _) rfl) ?_
  refine s_p (by first | exact h_len rfl Tryz.underlying49 | exact h_len_nil rfl Tryz.underlying49 | exact h_len_slx rfl Tryz.underlying49 | exact h_len_val rfl Tryz.underlying49) ?_
  refine s_p (h_bin rfl rfl (b_sub (r := ((0 : Nat) : Int)) (by rw [Go.IntWalk.i64_in _ (by omega)]; omega))) ?_
  refine s_p (h_bin rfl rfl (b_sub (r := ((m : Nat) : Int)) (by rw [Go.IntWalk.i64_in _ (by omega)]; omega))) ?_
  refine s_p (by first | exact h_assign (v := .s _) rfl | exact h_assign (v := .agg _) rfl | exact h_assign (v := .tup _) rfl) ?_
  refine s_nil ?_
  refine n_wp ?_
  refine w_seq ?_
  refine c_reg (by kernel_rfl) rfl ?_
  refine s_p (by first | exact h_move (v := .s _) rfl | exact h_move (v := .agg _) rfl | exact h_move (v := .tup _) rfl) ?_
  refine s_p (h_bin rfl rfl (b_gtr (decide_eq_true (by omega)))) ?_
  refine s_nil ?_
  refine n_wp ?_
  refine w_cond rfl (fun hc_t16 => ?_) (fun hc_t16 => ?_)
  rotate_left
  · exact absurd hc_t16 (by simp)
  refine c_reg (by kernel_rfl) rfl ?_
  refine s_p (by first | exact h_move (v := .s _) rfl | exact h_move (v := .agg _) rfl | exact h_move (v := .tup _) rfl) ?_
  refine s_p (by first | exact h_move (v := .s _) rfl | exact h_move (v := .agg _) rfl | exact h_move (v := .tup _) rfl) ?_
  refine s_p (h_cap_sl rfl Tryz.underlying49) ?_
  refine s_p (h_slice_h (h := len) rfl rfl rfl Tryz.underlying49 Tryz.sizeOf5 (by omega)) ?_
  refine s_p (by first | exact h_move (v := .s _) rfl | exact h_move (v := .agg _) rfl | exact h_move (v := .tup _) rfl) ?_
  refine s_a (h_appz (m := m) (B := B) (k := .u8) rfl rfl rfl rfl hdl (by omega) (by rw [List.drop_zero, List.take_of_length_le (by omega)]) h0 (by omega) hm Tryz.underlying49 Tryz.underlying3 info5 rfl rfl (by decide) rfl rfl) rfl ?_
  refine s_p (by first | exact h_move (v := .s _) rfl | exact h_move (v := .agg _) rfl | exact h_move (v := .tup _) rfl) ?_
  refine s_p (by first | exact h_len rfl Tryz.underlying49 | exact h_len_nil rfl Tryz.underlying49 | exact h_len_slx rfl Tryz.underlying49 | exact h_len_val rfl Tryz.underlying49) ?_
  refine s_p (h_slf_h (h := len) rfl rfl rfl Tryz.underlying49 Tryz.sizeOf5 (by omega)) ?_
  refine s_p (by first | exact h_assign (v := .s _) rfl | exact h_assign (v := .agg _) rfl | exact h_assign (v := .tup _) rfl) ?_
  refine s_nil ?_
  refine n_wp ?_
  refine w_seq ?_
  refine c_reg (by kernel_rfl) rfl ?_
  refine s_p (by first | exact h_move (v := .s _) rfl | exact h_move (v := .agg _) rfl | exact h_move (v := .tup _) rfl) ?_
  refine s_p (by first | exact h_assign (v := .s _) rfl | exact h_assign (v := .agg _) rfl | exact h_assign (v := .tup _) rfl) ?_
  refine s_nil ?_
  refine n_wp ?_
  refine w_ret ?_
  exact doneM (by repeat (first | exact trivial | refine ⟨rfl, ?_⟩)) (ret_tmp Tryz.results206 rfl)
set_option maxRecDepth 100000 in
set_option maxHeartbeats 4000000 in
theorem Clip_c (H : Heap) (id sh len cap : Nat) (hid : id < H.length) (hc : len ≤ cap) : ACall Tryz.prog 62 H [.s (.slice id (0 + sh) 0 len cap)] (.s (.slice id (0 + sh) 0 len len)) [] := by
  refine acall_gen2 (args0 := [.s (.slice 0 0 0 len cap)]) (H0 := [none]) (Hf := [none]) (v0 := .s (.slice 0 0 0 len len)) [(id, sh)] [] Tryz.func62 rfl Tryz.ntmps62 (by simp) rfl
    (fun k id sh b0 h1 h2 => by match k, h1, h2 with | 0, _, h2 => simp at h2 | k + 1, h1, _ => simp at h1)
    (fun W ρ vals w hH ha k id' sh' hk => by match k, hk with | 0, hk => (simp at hk; obtain ⟨rfl, rfl⟩ := hk; exact ⟨hid, live_slice (i := 0) ha rfl⟩) | k + 1, hk => simp at hk)
    rfl rfl rfl (by decide) rfl rfl rfl (fun W w ρ0 hW hdom => ?_)
  refine w_seq ?_
  refine c_reg (by kernel_rfl) rfl ?_
  refine s_p (by first | exact h_assign (v := .s _) rfl | exact h_assign (v := .agg _) rfl | exact h_assign (v := .tup _) rfl) ?_
  refine s_nil ?_
  refine n_wp ?_
  refine w_seq ?_
  refine c_reg (by kernel_rfl) rfl ?_
  refine s_p (by first | exact h_move (v := .s _) rfl | exact h_move (v := .agg _) rfl | exact h_move (v := .tup _) rfl) ?_
  refine s_p (by first | exact h_move (v := .s _) rfl | exact h_move (v := .agg _) rfl | exact h_move (v := .tup _) rfl) ?_
  refine s_p (by first | exact h_len rfl Tryz.underlying49 | exact h_len_nil rfl Tryz.underlying49 | exact h_len_slx rfl Tryz.underlying49 | exact h_len_val rfl Tryz.underlying49) ?_
  refine s_p (by first | exact h_move (v := .s _) rfl | exact h_move (v := .agg _) rfl | exact h_move (v := .tup _) rfl) ?_
  refine s_p (by first | exact h_len rfl Tryz.underlying49 | exact h_len_nil rfl Tryz.underlying49 | exact h_len_slx rfl Tryz.underlying49 | exact h_len_val rfl Tryz.underlying49) ?_
  refine s_p (h_slice_hm (h := len) (m := len) rfl rfl rfl rfl rfl Tryz.underlying49 Tryz.sizeOf5 (by omega) (by omega)) ?_
  refine s_p (by first | exact h_assign (v := .s _) rfl | exact h_assign (v := .agg _) rfl | exact h_assign (v := .tup _) rfl) ?_
  refine s_nil ?_
  refine n_wp ?_
  refine w_ret ?_
  exact doneM (by repeat (first | exact trivial | refine ⟨rfl, ?_⟩)) (ret_tmp Tryz.results62 rfl)
/-- How many, and then the bytes. -/
def pbL (B : List Int) (len : Nat) : List Int := spl (rr 4 4 1 [((len : Nat) : Int)] 1 ++ List.replicate len 0) ((B.drop 0).take len) 4 len (4 + len)
theorem pbL_len (B : List Int) (len : Nat) : (pbL B len).length = 4 + len := spl_len _ _ _ _ _
set_option maxRecDepth 100000 in
set_option maxHeartbeats 4000000 in
theorem PutBytes_c (H : Heap) (id sh len cap : Nat) (B : List Int) (bd : Blk) (hdl : B.length = len) (hdc : len ≤ cap) (hdm : len ≤ 140737488351232) (hd : H[id]? = some (some bd)) (hds : ∀ (i : Nat) (y : SV), atS [.ints .u8 len B] i = some y → atS bd.segs (sh + i) = some y) (h0 : 0 < len) (hm : len ≤ 100000) : ACall Tryz.prog 222 H [.s .nils, .s (.slice id (0 + sh) 0 len cap)] (.s (.slice (H.length + 0) (0 + 0) 0 (4 + len) (4 + len))) [⟨true, [.ints .u8 (4 + len) (pbL B len)]⟩] := by
  refine acall_gen2 (args0 := [.s .nils, .s (.slice 0 0 0 len cap)]) (H0 := [some ⟨false, [.ints .u8 len B]⟩]) (Hf := [none, none, none, some ⟨true, [.ints .u8 (4 + len) (pbL B len)]⟩]) (v0 := .s (.slice 3 0 0 (4 + len) (4 + len))) [(id, sh)] [3] Tryz.func222 rfl Tryz.ntmps222 (by simp) rfl
    (fun k id' sh' b0 h1 h2 => by
      match k, h1, h2 with
      | 0, h1, h2 => simp at h1 h2; obtain ⟨rfl, rfl⟩ := h1; subst h2; exact ⟨rfl, rfl, _, hd, fun i y hy => by (have h := hds i y hy; obtain ⟨_, rfl⟩ := atS_ints1 hy; exact h)⟩
      | k + 1, h1, _ => simp at h1)
    (fun W ρ vals w hH ha k id' sh' hk => by
      match k, hk with
      | 0, hk => simp at hk; obtain ⟨rfl, rfl⟩ := hk; exact ⟨(List.getElem?_eq_some_iff.1 hd).1, live_slice (i := 1) ha rfl⟩
      | k + 1, hk => simp at hk)
    rfl rfl rfl (by decide) rfl rfl rfl (fun W w ρ0 hW hdom => ?_)
  refine w_seq ?_
  refine c_reg (by kernel_rfl) rfl ?_
  refine s_p (by first | exact h_assign (v := .s _) rfl | exact h_assign (v := .agg _) rfl | exact h_assign (v := .tup _) rfl) ?_
  refine s_nil ?_
  refine n_wp ?_
  refine w_seq ?_
  refine c_reg (by kernel_rfl) rfl ?_
  refine s_p (by first | exact h_move (v := .s _) rfl | exact h_move (v := .agg _) rfl | exact h_move (v := .tup _) rfl) ?_
  refine s_p (by first | exact h_move (v := .s _) rfl | exact h_move (v := .agg _) rfl | exact h_move (v := .tup _) rfl) ?_
  refine s_p (by first | exact h_len rfl Tryz.underlying49 | exact h_len_nil rfl Tryz.underlying49 | exact h_len_slx rfl Tryz.underlying49 | exact h_len_val rfl Tryz.underlying49) ?_
  refine s_p (h_conv (r := ((len : Nat) : Int)) rfl Tryz.underlying3 Tryz.underlying32 (wu_n rfl (by omega))) ?_
  refine s_a (h_bsli1 rfl Tryz.underlying97 Tryz.sizeOf32 Tryz.zeroValue32 rfl rfl) rfl ?_
  refine s_a (h_call callable_205 rfl (row_n _ 1 0 4 1 4 [((len : Nat) : Int)] _ rfl rfl (fun i y hy => by rw [Nat.zero_add i]; exact hy) (by omega) (by omega) (by omega) (by omega))) rfl ?_
  refine s_p (by first | exact h_move (v := .s _) rfl | exact h_move (v := .agg _) rfl | exact h_move (v := .tup _) rfl) ?_
  refine s_p (by first | exact h_len rfl Tryz.underlying49 | exact h_len_nil rfl Tryz.underlying49 | exact h_len_slx rfl Tryz.underlying49 | exact h_len_val rfl Tryz.underlying49) ?_
  refine s_a (h_call callable_206 rfl (Grow_c _ 2 0 4 len (rr 4 4 1 [((len : Nat) : Int)] 1) _ (rr_len _ _ _ _ _) rfl (fun i y hy => by rw [Nat.zero_add i]; exact hy) h0 (by omega))) rfl ?_
  refine s_p (by first | exact h_assign (v := .s _) rfl | exact h_assign (v := .agg _) rfl | exact h_assign (v := .tup _) rfl) ?_
  refine s_nil ?_
  refine n_wp ?_
  refine w_seq ?_
  refine c_reg (by kernel_rfl) rfl ?_
  refine s_p (by first | exact h_move (v := .s _) rfl | exact h_move (v := .agg _) rfl | exact h_move (v := .tup _) rfl) ?_
  refine s_p (by first | exact h_move (v := .s _) rfl | exact h_move (v := .agg _) rfl | exact h_move (v := .tup _) rfl) ?_
  refine s_m (m_app_room (r := .slf 3 (0 + 0) 0 (4 + len) (4 + len)) (segs := [.ints .u8 (4 + len) (rr 4 4 1 [((len : Nat) : Int)] 1 ++ List.replicate len 0)]) rfl (.inr ⟨rfl, rfl⟩) rfl rfl rfl rfl hdl (by omega) (by omega) Tryz.underlying49 info5 rfl (.ints (by omega) rfl (by omega))) ?_
  refine s_heap (H' := [some ⟨false, [.ints .u8 len B]⟩, some ⟨true, [.ints .u64 1 [((len : Nat) : Int)]]⟩, some ⟨true, [.ints .u8 4 (rr 4 4 1 [((len : Nat) : Int)] 1)]⟩, some ⟨true, [.ints .u8 (4 + len) (pbL B len)]⟩]) (by kernel_rfl) ?_
  refine s_p (h_call callable_62 rfl (acall_slf (pre := []) (post := []) (fun cap2 hq hl => Clip_c _ 3 0 (4 + len) cap2 (Nat.le_of_ble_eq_true rfl) (by omega)))) ?_
  refine s_p (by first | exact h_assign (v := .s _) rfl | exact h_assign (v := .agg _) rfl | exact h_assign (v := .tup _) rfl) ?_
  refine s_nil ?_
  refine n_wp ?_
  refine w_ret ?_
  exact doneM (by repeat (first | exact trivial | refine ⟨rfl, ?_⟩)) (ret_tmp Tryz.results222 rfl)
end Go.Proofs.X
