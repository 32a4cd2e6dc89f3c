/- A part of the proofs of this claim: LaneW3 (LaneW3). No conditions. -/
import Derived.Test.YtffflnpidipheaaLaneW2
set_option linter.unusedVariables false
set_option linter.unusedSimpArgs false
open Go Go.Ab Go.Proofs
namespace Go.Proofs.X
set_option maxRecDepth 100000 in
set_option maxHeartbeats 2000000 in
theorem take_ok (H : Heap) (ii iw : Nat) (M C : List Int) (l : Nat) (bi : Blk) (hi : H[ii]? = some (some bi)) (his : bi.segs = [.ints .u8 32 M, .ints .u8 16 C, .one (.int .u32 ((l : Nat) : Int)), .one (.int .i64 1), .one (.ptr iw (0 + 0) 0)]) (Cw : List Int) (top taken : Nat) (hw : H[iw]? = some (some ⟨true, [.ints .i64 1 [1], .ints .u64 64 Cw, .one (.int .u64 ((top : Nat) : Int)), .one (.int .u64 ((taken : Nat) : Int))]⟩)) (id sh m cap : Nat) (B : List Int) (bd : Blk) (hdl : B.length = (29 + m)) (hdc : (29 + m) ≤ cap) (hdm : (29 + m) ≤ 140737488351232) (hd : H[id]? = some (some bd)) (hds : ∀ (i : Nat) (y : SV), atS [.ints .u8 (29 + m) B] i = some y → atS bd.segs (sh + i) = some y) (n : Nat) (hM : M.length = 32) (hC : C.length = 16) (hC8 : U8 C) (hB8 : U8 B) (h2k : 29 + m ≤ 2048) (h9 : B.getD 0 0 = 9) (hlt : l < 4294967296) (hg : getI ((B.drop (0 + 1)).take (29 + m - 1)) 4 = ((l : Nat) : Int)) (hm : mo (((sMac M B (13 + m)).drop 0).take 16) ((B.drop (13 + m)).take 16) 16 = 0) (hgn : getI ((B.drop (0 + 5)).take (29 + m - 5)) 8 = ((n : Nat) : Int)) (hn0 : n ≠ 0) (hn : n < 18446744073709551616) (htop : top < 18446744073709551616) (hold : top - n < 64) (hCl : Cw.length = 64) (htk : taken < 1000000000) (hCw : Cw.getD (n % 64) 0 ≠ ((n : Nat) : Int)) (n1 : ii ≠ iw) (n2 : iw ≠ id) (h0 : 0 < m) : AMut Try.prog 40 H [.s (.ptr ii (0 + 0) 0), .s (.slice id (0 + sh) 0 (29 + m) cap)] (.tup [.s (.int .u64 ((n : Nat) : Int)), .s (.slice (H.length + 0) (0 + 0) 0 m m), .s (.int .i64 0)]) ((forget [] H).set iw (some ⟨true, [.ints .i64 1 [1], .ints .u64 64 (Cw.set (n % 64) ((n : Nat) : Int)), .one (.int .u64 (((max top n) : Nat) : Int)), .one (.int .u64 (((taken + 1) : Nat) : Int))]⟩) ++ [some ⟨true, [.ints .u8 m (streamN C (fiL B) ((B.drop (0 + 13)).take m) m)]⟩]) := by
  refine amut_gen3 (args0 := [.s (.ptr 0 0 0), .s (.slice 2 0 0 (29 + m) cap)]) (H0 := [some ⟨false, [.ints .u8 32 M, .ints .u8 16 C, .one (.int .u32 ((l : Nat) : Int)), .one (.int .i64 1), .one (.ptr 1 0 0)]⟩, some ⟨true, [.ints .i64 1 [1], .ints .u64 64 Cw, .one (.int .u64 ((top : Nat) : Int)), .one (.int .u64 ((taken : Nat) : Int))]⟩, some ⟨false, [.ints .u8 (29 + m) B]⟩]) (Hf := [none, some ⟨true, [.ints .i64 1 [1], .ints .u64 64 (Cw.set (n % 64) ((n : Nat) : Int)), .one (.int .u64 (((max top n) : Nat) : Int)), .one (.int .u64 (((taken + 1) : Nat) : Int))]⟩, none, some ⟨true, [.ints .u8 m (streamN C (fiL B) ((B.drop (0 + 13)).take m) m)]⟩]) (v0 := .tup [.s (.int .u64 ((n : Nat) : Int)), .s (.slice 3 0 0 m m), .s (.int .i64 0)]) [(ii, 0), (iw, 0), (id, sh)] [3] 3 (Nat.le_of_ble_eq_true rfl) Try.func40 rfl Try.ntmps40 (by simp) rfl
    (fun k id' sh' b0 h1 h2 => by
      match k, h1, h2 with
      | 0, h1, h2 => simp at h1 h2; obtain ⟨rfl, rfl⟩ := h1; subst h2; exact ⟨rfl, _, hi, fun e => (by cases e), foot_same his⟩
      | 1, h1, h2 => simp at h1 h2; obtain ⟨rfl, rfl⟩ := h1; subst h2; exact ⟨rfl, _, hw, fun _ => ⟨rfl, rfl⟩, foot_same rfl⟩
      | 2, h1, h2 => simp at h1 h2; obtain ⟨rfl, rfl⟩ := h1; subst h2; exact ⟨rfl, _, hd, fun e => (by cases e), fun i y hy => by (have h := hds i y hy; obtain ⟨_, rfl⟩ := atS_ints1 hy; exact h)⟩
      | k + 3, h1, _ => simp at h1)
    (fun k k' id' s1 s2 b0 h1 h1' hne h2 => by
      match k, k', h1, h1', h2, hne with
      | 0, _, _, _, h2, _ => simp at h2; subst h2; rfl
      | 1, 0, h1, h1', _, _ => simp at h1 h1'; exact absurd (h1.1.trans h1'.1.symm) n1.symm
      | 1, 1, _, _, _, hne => exact absurd rfl hne
      | 1, 2, h1, h1', _, _ => simp at h1 h1'; exact absurd (h1.1.trans h1'.1.symm) n2
      | 1, k + 3, _, h1', _, _ => simp at h1'
      | 2, _, _, _, h2, _ => simp at h2; subst h2; rfl
      | k + 3, _, h1, _, _, _ => simp at h1)
    (fun W ρ vals w hH ha k id' sh' hk => by
      match k, hk with
      | 0, hk => simp at hk; obtain ⟨rfl, rfl⟩ := hk; exact live_ptr (i := 0) ha rfl
      | 1, hk => simp at hk; obtain ⟨rfl, rfl⟩ := hk; exact live_in (p := 50) hH (live_ptr (i := 0) ha rfl) hi (by rw [his]; rfl)
      | 2, hk => simp at hk; obtain ⟨rfl, rfl⟩ := hk; exact live_slice (i := 1) ha rfl
      | k + 3, hk => simp at hk)
    rfl rfl rfl (by decide) rfl rfl rfl (fun W w' ρ0 hW hdom => ?_)
  refine w_seq ?_
  refine c_reg (by kernel_rfl) rfl ?_
  refine s_p (by first | exact h_assign (v := .s _) rfl | exact h_assign (v := .agg _) rfl | exact h_assign (v := .tup _) rfl) ?_
  refine s_p (by first | exact h_assign (v := .s _) rfl | exact h_assign (v := .agg _) rfl | exact h_assign (v := .tup _) rfl) ?_
  refine s_p (by first | exact h_assign (v := .s _) rfl | exact h_assign (v := .agg _) rfl | exact h_assign (v := .tup _) rfl) ?_
  refine s_nil ?_
  refine n_wp ?_
  refine w_seq ?_
  refine w_seq ?_
  refine c_reg (by kernel_rfl) rfl ?_
  refine s_p (by first | exact h_move (v := .s _) rfl | exact h_move (v := .agg _) rfl | exact h_move (v := .tup _) rfl) ?_
  refine s_p (h_eqn rfl rfl Try.underlying79) ?_
  refine s_p (by first | exact h_move (v := .s _) rfl | exact h_move (v := .agg _) rfl | exact h_move (v := .tup _) rfl) ?_
  first | refine s_on rfl rfl (by first | rfl | assumption) (by first | exact h_move (v := .s _) rfl | exact h_move (v := .agg _) rfl | exact h_move (v := .tup _) rfl) ?_ | refine s_off rfl rfl (by first | rfl | assumption) ?_
  first | refine s_on rfl rfl (by first | rfl | assumption) (h_nilCheck rfl) ?_ | refine s_off rfl rfl (by first | rfl | assumption) ?_
  first | refine s_on rfl rfl (by first | rfl | assumption) (h_field rfl Try.underlying82 rfl Try.sizeOf75 (by decide)) ?_ | refine s_off rfl rfl (by first | rfl | assumption) ?_
  first | refine s_on rfl rfl (by first | rfl | assumption) (h_field rfl Try.underlying75 rfl Try.sizeOf3 (by decide)) ?_ | refine s_off rfl rfl (by first | rfl | assumption) ?_
  first | refine s_on rfl rfl (by first | rfl | assumption) (by first | exact h_load_ints rfl rfl rfl (by omega) rfl Try.isAgg3 | exact h_load_one rfl rfl rfl Try.isAgg3) ?_ | refine s_off rfl rfl (by first | rfl | assumption) ?_
  first | refine s_on rfl rfl (by first | rfl | assumption) (h_bin rfl rfl (b_eql (decide_eq_false (by decide)))) ?_ | refine s_off rfl rfl (by first | rfl | assumption) ?_
  refine s_p (by first | exact h_pick_t rfl (by first | rfl | assumption) rfl | exact h_pick_f rfl (by first | rfl | assumption) rfl) ?_
  refine s_nil ?_
  refine n_wp ?_
  refine w_cond rfl (fun hc_t17 => ?_) (fun hc_t17 => ?_)
  · exact absurd hc_t17 (by simp)
  refine w_skip ?_
  refine n_wp ?_
  refine w_seq ?_
  refine c_reg (by kernel_rfl) rfl ?_
  refine s_p (by first | exact h_move (v := .s _) rfl | exact h_move (v := .agg _) rfl | exact h_move (v := .tup _) rfl) ?_
  refine s_p (h_call callable_38 rfl (Lane_ok _ 2 0 (29 + m) cap B _ hdl hdc hdm rfl (fun i y hy => by rw [Nat.zero_add i]; exact hy) (by omega) h2k h9 l hlt hg)) ?_
  refine s_p (by first | exact h_move (v := .s _) rfl | exact h_move (v := .agg _) rfl | exact h_move (v := .tup _) rfl) ?_
  refine s_p (h_extract rfl rfl (by simp)) ?_
  refine s_p (h_extract rfl rfl (by simp)) ?_
  refine s_p (by first | exact h_assign (v := .s _) rfl | exact h_assign (v := .agg _) rfl | exact h_assign (v := .tup _) rfl) ?_
  refine s_p (by first | exact h_assign (v := .s _) rfl | exact h_assign (v := .agg _) rfl | exact h_assign (v := .tup _) rfl) ?_
  refine s_nil ?_
  refine n_wp ?_
  refine w_seq ?_
  refine w_block ?_
  refine w_seq ?_
  refine c_reg (by kernel_rfl) rfl ?_
  refine s_p (by first | exact h_move (v := .s _) rfl | exact h_move (v := .agg _) rfl | exact h_move (v := .tup _) rfl) ?_
  refine s_p (h_bin rfl rfl (b_neq (decide_eq_false (fun h => h rfl)))) ?_
  refine s_p (by first | exact h_assign (v := .s _) rfl | exact h_assign (v := .agg _) rfl | exact h_assign (v := .tup _) rfl) ?_
  refine s_nil ?_
  refine n_wp ?_
  refine w_cond rfl (fun hc_t23 => ?_) (fun hc_t23 => ?_)
  · exact absurd hc_t23 (by simp)
  refine w_seq ?_
  refine c_reg (by kernel_rfl) rfl ?_
  refine s_p (by first | exact h_move (v := .s _) rfl | exact h_move (v := .agg _) rfl | exact h_move (v := .tup _) rfl) ?_
  refine s_p (by first | exact h_move (v := .s _) rfl | exact h_move (v := .agg _) rfl | exact h_move (v := .tup _) rfl) ?_
  refine s_p (h_nilCheck rfl) ?_
  refine s_p (h_field rfl Try.underlying82 rfl Try.sizeOf75 (by decide)) ?_
  refine s_p (h_field rfl Try.underlying75 rfl Try.sizeOf61 (by decide)) ?_
  refine s_p (by first | exact h_load_ints rfl rfl rfl (by omega) rfl Try.isAgg61 | exact h_load_one rfl rfl rfl Try.isAgg61) ?_
  refine s_p (h_bin rfl rfl (b_neq (decide_eq_false (fun h => h rfl)))) ?_
  refine s_p (by first | exact h_assign (v := .s _) rfl | exact h_assign (v := .agg _) rfl | exact h_assign (v := .tup _) rfl) ?_
  refine s_nil ?_
  refine n_wp ?_
  refine w_cond rfl (fun hc_t27 => ?_) (fun hc_t27 => ?_)
  · exact absurd hc_t27 (by simp)
  refine w_skip ?_
  refine n_blo ?_
  refine n_wp ?_
  refine w_seq ?_
  refine w_seq ?_
  refine c_reg (by kernel_rfl) rfl ?_
  refine s_p (by first | exact h_move (v := .s _) rfl | exact h_move (v := .agg _) rfl | exact h_move (v := .tup _) rfl) ?_
  refine s_p (h_nilCheck rfl) ?_
  refine s_p (h_field rfl Try.underlying82 rfl Try.sizeOf75 (by decide)) ?_
  refine s_p (h_field rfl Try.underlying75 rfl Try.sizeOf56 (by decide)) ?_
  refine s_p (h_load_agg rfl rfl (.two (m := 32) (n := 16) rfl rfl (.seg rfl rfl)) Try.isAgg56 Try.sizeOf56) ?_
  refine s_p (by first | exact h_move (v := .s _) rfl | exact h_move (v := .agg _) rfl | exact h_move (v := .tup _) rfl) ?_
  refine s_a (h_call callable_37 rfl ((show ACall _ _ _ _ (.tup [_, .s (.int .u64 ((n : Nat) : Int)), _, _]) _ by have h := open_ok [some ⟨false, [.ints .u8 32 M, .ints .u8 16 C, .one (.int .u32 ((l : Nat) : Int)), .one (.int .i64 1), .one (.ptr 1 0 0)]⟩, some ⟨true, [.ints .i64 1 [1], .ints .u64 64 Cw, .one (.int .u64 ((top : Nat) : Int)), .one (.int .u64 ((taken : Nat) : Int))]⟩, some ⟨false, [.ints .u8 (29 + m) B]⟩] M C m hM hC hC8 2 0 (29 + m) cap B _ hdl hdc hdm rfl (fun i y hy => by rw [Nat.zero_add i]; exact hy) hB8 rfl (by omega) h9 l hlt hg hm h0; rw [hgn] at h; exact h))) rfl ?_
  refine s_p (by first | exact h_move (v := .s _) rfl | exact h_move (v := .agg _) rfl | exact h_move (v := .tup _) rfl) ?_
  refine s_p (h_extract rfl rfl (by simp)) ?_
  refine s_p (h_extract rfl rfl (by simp)) ?_
  refine s_p (h_extract rfl rfl (by simp)) ?_
  refine s_p (h_extract rfl rfl (by simp)) ?_
  refine s_p (by first | exact h_assign (v := .s _) rfl | exact h_assign (v := .agg _) rfl | exact h_assign (v := .tup _) rfl) ?_
  refine s_p (by first | exact h_assign (v := .s _) rfl | exact h_assign (v := .agg _) rfl | exact h_assign (v := .tup _) rfl) ?_
  refine s_p (by first | exact h_assign (v := .s _) rfl | exact h_assign (v := .agg _) rfl | exact h_assign (v := .tup _) rfl) ?_
  refine s_nil ?_
  refine n_wp ?_
  refine w_seq ?_
  refine c_reg (by kernel_rfl) rfl ?_
  refine s_p (by first | exact h_move (v := .s _) rfl | exact h_move (v := .agg _) rfl | exact h_move (v := .tup _) rfl) ?_
  refine s_p (h_bin rfl rfl (b_eql (decide_eq_true rfl))) ?_
  refine s_nil ?_
  refine n_wp ?_
  refine w_cond rfl (fun hc_t48 => ?_) (fun hc_t48 => ?_)
  rotate_left
  · exact absurd hc_t48 (by simp)
  refine c_reg (by kernel_rfl) rfl ?_
  refine s_p (by first | exact h_move (v := .s _) rfl | exact h_move (v := .agg _) rfl | exact h_move (v := .tup _) rfl) ?_
  refine s_p (h_nilCheck rfl) ?_
  refine s_p (h_field rfl Try.underlying82 rfl Try.sizeOf80 (by decide)) ?_
  refine s_p (by first | exact h_load_ints rfl rfl rfl (by omega) rfl Try.isAgg80 | exact h_load_one rfl rfl rfl Try.isAgg80) ?_
  refine s_p (by first | exact h_move (v := .s _) rfl | exact h_move (v := .agg _) rfl | exact h_move (v := .tup _) rfl) ?_
  refine s_m (m_call callable_64 rfl (WTake_ok _ 1 Cw top taken rfl hCl htk n hn0 hn htop hold hCw)) ?_
  refine s_heap (H' := [some ⟨false, [.ints .u8 32 M, .ints .u8 16 C, .one (.int .u32 ((l : Nat) : Int)), .one (.int .i64 1), .one (.ptr 1 0 0)]⟩, some ⟨true, [.ints .i64 1 [1], .ints .u64 64 (Cw.set (n % 64) ((n : Nat) : Int)), .one (.int .u64 (((max top n) : Nat) : Int)), .one (.int .u64 (((taken + 1) : Nat) : Int))]⟩, some ⟨false, [.ints .u8 (29 + m) B]⟩, some ⟨true, [.ints .u8 m (streamN C (fiL B) ((B.drop (0 + 13)).take m) m)]⟩]) (by kernel_rfl) ?_
  refine s_p (by first | exact h_assign (v := .s _) rfl | exact h_assign (v := .agg _) rfl | exact h_assign (v := .tup _) rfl) ?_
  refine s_nil ?_
  refine n_wp ?_
  refine w_seq ?_
  refine w_seq ?_
  refine c_reg (by kernel_rfl) rfl ?_
  refine s_p (by first | exact h_move (v := .s _) rfl | exact h_move (v := .agg _) rfl | exact h_move (v := .tup _) rfl) ?_
  refine s_p (h_bin rfl rfl (b_neq (decide_eq_false (fun h => h rfl)))) ?_
  refine s_nil ?_
  refine n_wp ?_
  refine w_cond rfl (fun hc_t56 => ?_) (fun hc_t56 => ?_)
  · exact absurd hc_t56 (by simp)
  refine w_skip ?_
  refine n_wp ?_
  refine w_seq ?_
  refine c_reg (by kernel_rfl) rfl ?_
  refine s_p (by first | exact h_move (v := .s _) rfl | exact h_move (v := .agg _) rfl | exact h_move (v := .tup _) rfl) ?_
  refine s_p (by first | exact h_move (v := .s _) rfl | exact h_move (v := .agg _) rfl | exact h_move (v := .tup _) rfl) ?_
  refine s_p (by first | exact h_assign (v := .s _) rfl | exact h_assign (v := .agg _) rfl | exact h_assign (v := .tup _) rfl) ?_
  refine s_p (by first | exact h_assign (v := .s _) rfl | exact h_assign (v := .agg _) rfl | exact h_assign (v := .tup _) rfl) ?_
  refine s_p (by first | exact h_assign (v := .s _) rfl | exact h_assign (v := .agg _) rfl | exact h_assign (v := .tup _) rfl) ?_
  refine s_nil ?_
  refine n_wp ?_
  refine w_ret ?_
  exact doneM (by repeat (first | exact trivial | refine ⟨rfl, ?_⟩)) (ret_tmps3 Try.results40 rfl rfl rfl)
set_option maxRecDepth 100000 in
set_option maxHeartbeats 2000000 in
theorem take_ok0 (H : Heap) (ii iw : Nat) (M C : List Int) (l : Nat) (bi : Blk) (hi : H[ii]? = some (some bi)) (his : bi.segs = [.ints .u8 32 M, .ints .u8 16 C, .one (.int .u32 ((l : Nat) : Int)), .one (.int .i64 1), .one (.ptr iw (0 + 0) 0)]) (Cw : List Int) (top taken : Nat) (hw : H[iw]? = some (some ⟨true, [.ints .i64 1 [1], .ints .u64 64 Cw, .one (.int .u64 ((top : Nat) : Int)), .one (.int .u64 ((taken : Nat) : Int))]⟩)) (id sh m cap : Nat) (B : List Int) (bd : Blk) (hdl : B.length = (29 + m)) (hdc : (29 + m) ≤ cap) (hdm : (29 + m) ≤ 140737488351232) (hd : H[id]? = some (some bd)) (hds : ∀ (i : Nat) (y : SV), atS [.ints .u8 (29 + m) B] i = some y → atS bd.segs (sh + i) = some y) (n : Nat) (hM : M.length = 32) (hC : C.length = 16) (hC8 : U8 C) (hB8 : U8 B) (h2k : 29 + m ≤ 2048) (h9 : B.getD 0 0 = 9) (hlt : l < 4294967296) (hg : getI ((B.drop (0 + 1)).take (29 + m - 1)) 4 = ((l : Nat) : Int)) (hm : mo (((sMac M B (13 + m)).drop 0).take 16) ((B.drop (13 + m)).take 16) 16 = 0) (hgn : getI ((B.drop (0 + 5)).take (29 + m - 5)) 8 = ((n : Nat) : Int)) (hn0 : n ≠ 0) (hn : n < 18446744073709551616) (htop : top < 18446744073709551616) (hold : top - n < 64) (hCl : Cw.length = 64) (htk : taken < 1000000000) (hCw : Cw.getD (n % 64) 0 ≠ ((n : Nat) : Int)) (n1 : ii ≠ iw) (n2 : iw ≠ id) (h0 : m = 0) : AMut Try.prog 40 H [.s (.ptr ii (0 + 0) 0), .s (.slice id (0 + sh) 0 (29 + m) cap)] (.tup [.s (.int .u64 ((n : Nat) : Int)), .s (.nils), .s (.int .i64 0)]) ((forget [] H).set iw (some ⟨true, [.ints .i64 1 [1], .ints .u64 64 (Cw.set (n % 64) ((n : Nat) : Int)), .one (.int .u64 (((max top n) : Nat) : Int)), .one (.int .u64 (((taken + 1) : Nat) : Int))]⟩) ++ []) := by
  refine amut_gen3 (args0 := [.s (.ptr 0 0 0), .s (.slice 2 0 0 (29 + m) cap)]) (H0 := [some ⟨false, [.ints .u8 32 M, .ints .u8 16 C, .one (.int .u32 ((l : Nat) : Int)), .one (.int .i64 1), .one (.ptr 1 0 0)]⟩, some ⟨true, [.ints .i64 1 [1], .ints .u64 64 Cw, .one (.int .u64 ((top : Nat) : Int)), .one (.int .u64 ((taken : Nat) : Int))]⟩, some ⟨false, [.ints .u8 (29 + m) B]⟩]) (Hf := [none, some ⟨true, [.ints .i64 1 [1], .ints .u64 64 (Cw.set (n % 64) ((n : Nat) : Int)), .one (.int .u64 (((max top n) : Nat) : Int)), .one (.int .u64 (((taken + 1) : Nat) : Int))]⟩, none]) (v0 := .tup [.s (.int .u64 ((n : Nat) : Int)), .s (.nils), .s (.int .i64 0)]) [(ii, 0), (iw, 0), (id, sh)] [] 3 (Nat.le_of_ble_eq_true rfl) Try.func40 rfl Try.ntmps40 (by simp) rfl
    (fun k id' sh' b0 h1 h2 => by
      match k, h1, h2 with
      | 0, h1, h2 => simp at h1 h2; obtain ⟨rfl, rfl⟩ := h1; subst h2; exact ⟨rfl, _, hi, fun e => (by cases e), foot_same his⟩
      | 1, h1, h2 => simp at h1 h2; obtain ⟨rfl, rfl⟩ := h1; subst h2; exact ⟨rfl, _, hw, fun _ => ⟨rfl, rfl⟩, foot_same rfl⟩
      | 2, h1, h2 => simp at h1 h2; obtain ⟨rfl, rfl⟩ := h1; subst h2; exact ⟨rfl, _, hd, fun e => (by cases e), fun i y hy => by (have h := hds i y hy; obtain ⟨_, rfl⟩ := atS_ints1 hy; exact h)⟩
      | k + 3, h1, _ => simp at h1)
    (fun k k' id' s1 s2 b0 h1 h1' hne h2 => by
      match k, k', h1, h1', h2, hne with
      | 0, _, _, _, h2, _ => simp at h2; subst h2; rfl
      | 1, 0, h1, h1', _, _ => simp at h1 h1'; exact absurd (h1.1.trans h1'.1.symm) n1.symm
      | 1, 1, _, _, _, hne => exact absurd rfl hne
      | 1, 2, h1, h1', _, _ => simp at h1 h1'; exact absurd (h1.1.trans h1'.1.symm) n2
      | 1, k + 3, _, h1', _, _ => simp at h1'
      | 2, _, _, _, h2, _ => simp at h2; subst h2; rfl
      | k + 3, _, h1, _, _, _ => simp at h1)
    (fun W ρ vals w hH ha k id' sh' hk => by
      match k, hk with
      | 0, hk => simp at hk; obtain ⟨rfl, rfl⟩ := hk; exact live_ptr (i := 0) ha rfl
      | 1, hk => simp at hk; obtain ⟨rfl, rfl⟩ := hk; exact live_in (p := 50) hH (live_ptr (i := 0) ha rfl) hi (by rw [his]; rfl)
      | 2, hk => simp at hk; obtain ⟨rfl, rfl⟩ := hk; exact live_slice (i := 1) ha rfl
      | k + 3, hk => simp at hk)
    rfl rfl rfl (by decide) rfl rfl rfl (fun W w' ρ0 hW hdom => ?_)
  refine w_seq ?_
  refine c_reg (by kernel_rfl) rfl ?_
  refine s_p (by first | exact h_assign (v := .s _) rfl | exact h_assign (v := .agg _) rfl | exact h_assign (v := .tup _) rfl) ?_
  refine s_p (by first | exact h_assign (v := .s _) rfl | exact h_assign (v := .agg _) rfl | exact h_assign (v := .tup _) rfl) ?_
  refine s_p (by first | exact h_assign (v := .s _) rfl | exact h_assign (v := .agg _) rfl | exact h_assign (v := .tup _) rfl) ?_
  refine s_nil ?_
  refine n_wp ?_
  refine w_seq ?_
  refine w_seq ?_
  refine c_reg (by kernel_rfl) rfl ?_
  refine s_p (by first | exact h_move (v := .s _) rfl | exact h_move (v := .agg _) rfl | exact h_move (v := .tup _) rfl) ?_
  refine s_p (h_eqn rfl rfl Try.underlying79) ?_
  refine s_p (by first | exact h_move (v := .s _) rfl | exact h_move (v := .agg _) rfl | exact h_move (v := .tup _) rfl) ?_
  first | refine s_on rfl rfl (by first | rfl | assumption) (by first | exact h_move (v := .s _) rfl | exact h_move (v := .agg _) rfl | exact h_move (v := .tup _) rfl) ?_ | refine s_off rfl rfl (by first | rfl | assumption) ?_
  first | refine s_on rfl rfl (by first | rfl | assumption) (h_nilCheck rfl) ?_ | refine s_off rfl rfl (by first | rfl | assumption) ?_
  first | refine s_on rfl rfl (by first | rfl | assumption) (h_field rfl Try.underlying82 rfl Try.sizeOf75 (by decide)) ?_ | refine s_off rfl rfl (by first | rfl | assumption) ?_
  first | refine s_on rfl rfl (by first | rfl | assumption) (h_field rfl Try.underlying75 rfl Try.sizeOf3 (by decide)) ?_ | refine s_off rfl rfl (by first | rfl | assumption) ?_
  first | refine s_on rfl rfl (by first | rfl | assumption) (by first | exact h_load_ints rfl rfl rfl (by omega) rfl Try.isAgg3 | exact h_load_one rfl rfl rfl Try.isAgg3) ?_ | refine s_off rfl rfl (by first | rfl | assumption) ?_
  first | refine s_on rfl rfl (by first | rfl | assumption) (h_bin rfl rfl (b_eql (decide_eq_false (by decide)))) ?_ | refine s_off rfl rfl (by first | rfl | assumption) ?_
  refine s_p (by first | exact h_pick_t rfl (by first | rfl | assumption) rfl | exact h_pick_f rfl (by first | rfl | assumption) rfl) ?_
  refine s_nil ?_
  refine n_wp ?_
  refine w_cond rfl (fun hc_t17 => ?_) (fun hc_t17 => ?_)
  · exact absurd hc_t17 (by simp)
  refine w_skip ?_
  refine n_wp ?_
  refine w_seq ?_
  refine c_reg (by kernel_rfl) rfl ?_
  refine s_p (by first | exact h_move (v := .s _) rfl | exact h_move (v := .agg _) rfl | exact h_move (v := .tup _) rfl) ?_
  refine s_p (h_call callable_38 rfl (Lane_ok _ 2 0 (29 + m) cap B _ hdl hdc hdm rfl (fun i y hy => by rw [Nat.zero_add i]; exact hy) (by omega) h2k h9 l hlt hg)) ?_
  refine s_p (by first | exact h_move (v := .s _) rfl | exact h_move (v := .agg _) rfl | exact h_move (v := .tup _) rfl) ?_
  refine s_p (h_extract rfl rfl (by simp)) ?_
  refine s_p (h_extract rfl rfl (by simp)) ?_
  refine s_p (by first | exact h_assign (v := .s _) rfl | exact h_assign (v := .agg _) rfl | exact h_assign (v := .tup _) rfl) ?_
  refine s_p (by first | exact h_assign (v := .s _) rfl | exact h_assign (v := .agg _) rfl | exact h_assign (v := .tup _) rfl) ?_
  refine s_nil ?_
  refine n_wp ?_
  refine w_seq ?_
  refine w_block ?_
  refine w_seq ?_
  refine c_reg (by kernel_rfl) rfl ?_
  refine s_p (by first | exact h_move (v := .s _) rfl | exact h_move (v := .agg _) rfl | exact h_move (v := .tup _) rfl) ?_
  refine s_p (h_bin rfl rfl (b_neq (decide_eq_false (fun h => h rfl)))) ?_
  refine s_p (by first | exact h_assign (v := .s _) rfl | exact h_assign (v := .agg _) rfl | exact h_assign (v := .tup _) rfl) ?_
  refine s_nil ?_
  refine n_wp ?_
  refine w_cond rfl (fun hc_t23 => ?_) (fun hc_t23 => ?_)
  · exact absurd hc_t23 (by simp)
  refine w_seq ?_
  refine c_reg (by kernel_rfl) rfl ?_
  refine s_p (by first | exact h_move (v := .s _) rfl | exact h_move (v := .agg _) rfl | exact h_move (v := .tup _) rfl) ?_
  refine s_p (by first | exact h_move (v := .s _) rfl | exact h_move (v := .agg _) rfl | exact h_move (v := .tup _) rfl) ?_
  refine s_p (h_nilCheck rfl) ?_
  refine s_p (h_field rfl Try.underlying82 rfl Try.sizeOf75 (by decide)) ?_
  refine s_p (h_field rfl Try.underlying75 rfl Try.sizeOf61 (by decide)) ?_
  refine s_p (by first | exact h_load_ints rfl rfl rfl (by omega) rfl Try.isAgg61 | exact h_load_one rfl rfl rfl Try.isAgg61) ?_
  refine s_p (h_bin rfl rfl (b_neq (decide_eq_false (fun h => h rfl)))) ?_
  refine s_p (by first | exact h_assign (v := .s _) rfl | exact h_assign (v := .agg _) rfl | exact h_assign (v := .tup _) rfl) ?_
  refine s_nil ?_
  refine n_wp ?_
  refine w_cond rfl (fun hc_t27 => ?_) (fun hc_t27 => ?_)
  · exact absurd hc_t27 (by simp)
  refine w_skip ?_
  refine n_blo ?_
  refine n_wp ?_
  refine w_seq ?_
  refine w_seq ?_
  refine c_reg (by kernel_rfl) rfl ?_
  refine s_p (by first | exact h_move (v := .s _) rfl | exact h_move (v := .agg _) rfl | exact h_move (v := .tup _) rfl) ?_
  refine s_p (h_nilCheck rfl) ?_
  refine s_p (h_field rfl Try.underlying82 rfl Try.sizeOf75 (by decide)) ?_
  refine s_p (h_field rfl Try.underlying75 rfl Try.sizeOf56 (by decide)) ?_
  refine s_p (h_load_agg rfl rfl (.two (m := 32) (n := 16) rfl rfl (.seg rfl rfl)) Try.isAgg56 Try.sizeOf56) ?_
  refine s_p (by first | exact h_move (v := .s _) rfl | exact h_move (v := .agg _) rfl | exact h_move (v := .tup _) rfl) ?_
  refine s_p (h_call callable_37 rfl ((show ACall _ _ _ _ (.tup [_, .s (.int .u64 ((n : Nat) : Int)), _, _]) _ by have h := open_ok0 [some ⟨false, [.ints .u8 32 M, .ints .u8 16 C, .one (.int .u32 ((l : Nat) : Int)), .one (.int .i64 1), .one (.ptr 1 0 0)]⟩, some ⟨true, [.ints .i64 1 [1], .ints .u64 64 Cw, .one (.int .u64 ((top : Nat) : Int)), .one (.int .u64 ((taken : Nat) : Int))]⟩, some ⟨false, [.ints .u8 (29 + m) B]⟩] M C m hM hC hC8 2 0 (29 + m) cap B _ hdl hdc hdm rfl (fun i y hy => by rw [Nat.zero_add i]; exact hy) hB8 rfl (by omega) h9 l hlt hg hm h0; rw [hgn] at h; exact h))) ?_
  refine s_p (by first | exact h_move (v := .s _) rfl | exact h_move (v := .agg _) rfl | exact h_move (v := .tup _) rfl) ?_
  refine s_p (h_extract rfl rfl (by simp)) ?_
  refine s_p (h_extract rfl rfl (by simp)) ?_
  refine s_p (h_extract rfl rfl (by simp)) ?_
  refine s_p (h_extract rfl rfl (by simp)) ?_
  refine s_p (by first | exact h_assign (v := .s _) rfl | exact h_assign (v := .agg _) rfl | exact h_assign (v := .tup _) rfl) ?_
  refine s_p (by first | exact h_assign (v := .s _) rfl | exact h_assign (v := .agg _) rfl | exact h_assign (v := .tup _) rfl) ?_
  refine s_p (by first | exact h_assign (v := .s _) rfl | exact h_assign (v := .agg _) rfl | exact h_assign (v := .tup _) rfl) ?_
  refine s_nil ?_
  refine n_wp ?_
  refine w_seq ?_
  refine c_reg (by kernel_rfl) rfl ?_
  refine s_p (by first | exact h_move (v := .s _) rfl | exact h_move (v := .agg _) rfl | exact h_move (v := .tup _) rfl) ?_
  refine s_p (h_bin rfl rfl (b_eql (decide_eq_true rfl))) ?_
  refine s_nil ?_
  refine n_wp ?_
  refine w_cond rfl (fun hc_t48 => ?_) (fun hc_t48 => ?_)
  rotate_left
  · exact absurd hc_t48 (by simp)
  refine c_reg (by kernel_rfl) rfl ?_
  refine s_p (by first | exact h_move (v := .s _) rfl | exact h_move (v := .agg _) rfl | exact h_move (v := .tup _) rfl) ?_
  refine s_p (h_nilCheck rfl) ?_
  refine s_p (h_field rfl Try.underlying82 rfl Try.sizeOf80 (by decide)) ?_
  refine s_p (by first | exact h_load_ints rfl rfl rfl (by omega) rfl Try.isAgg80 | exact h_load_one rfl rfl rfl Try.isAgg80) ?_
  refine s_p (by first | exact h_move (v := .s _) rfl | exact h_move (v := .agg _) rfl | exact h_move (v := .tup _) rfl) ?_
  refine s_m (m_call callable_64 rfl (WTake_ok _ 1 Cw top taken rfl hCl htk n hn0 hn htop hold hCw)) ?_
  refine s_heap (H' := [some ⟨false, [.ints .u8 32 M, .ints .u8 16 C, .one (.int .u32 ((l : Nat) : Int)), .one (.int .i64 1), .one (.ptr 1 0 0)]⟩, some ⟨true, [.ints .i64 1 [1], .ints .u64 64 (Cw.set (n % 64) ((n : Nat) : Int)), .one (.int .u64 (((max top n) : Nat) : Int)), .one (.int .u64 (((taken + 1) : Nat) : Int))]⟩, some ⟨false, [.ints .u8 (29 + m) B]⟩]) (by kernel_rfl) ?_
  refine s_p (by first | exact h_assign (v := .s _) rfl | exact h_assign (v := .agg _) rfl | exact h_assign (v := .tup _) rfl) ?_
  refine s_nil ?_
  refine n_wp ?_
  refine w_seq ?_
  refine w_seq ?_
  refine c_reg (by kernel_rfl) rfl ?_
  refine s_p (by first | exact h_move (v := .s _) rfl | exact h_move (v := .agg _) rfl | exact h_move (v := .tup _) rfl) ?_
  refine s_p (h_bin rfl rfl (b_neq (decide_eq_false (fun h => h rfl)))) ?_
  refine s_nil ?_
  refine n_wp ?_
  refine w_cond rfl (fun hc_t56 => ?_) (fun hc_t56 => ?_)
  · exact absurd hc_t56 (by simp)
  refine w_skip ?_
  refine n_wp ?_
  refine w_seq ?_
  refine c_reg (by kernel_rfl) rfl ?_
  refine s_p (by first | exact h_move (v := .s _) rfl | exact h_move (v := .agg _) rfl | exact h_move (v := .tup _) rfl) ?_
  refine s_p (by first | exact h_move (v := .s _) rfl | exact h_move (v := .agg _) rfl | exact h_move (v := .tup _) rfl) ?_
  refine s_p (by first | exact h_assign (v := .s _) rfl | exact h_assign (v := .agg _) rfl | exact h_assign (v := .tup _) rfl) ?_
  refine s_p (by first | exact h_assign (v := .s _) rfl | exact h_assign (v := .agg _) rfl | exact h_assign (v := .tup _) rfl) ?_
  refine s_p (by first | exact h_assign (v := .s _) rfl | exact h_assign (v := .agg _) rfl | exact h_assign (v := .tup _) rfl) ?_
  refine s_nil ?_
  refine n_wp ?_
  refine w_ret ?_
  exact doneM (by repeat (first | exact trivial | refine ⟨rfl, ?_⟩)) (ret_tmps3 Try.results40 rfl rfl rfl)
set_option maxRecDepth 100000 in
set_option maxHeartbeats 2000000 in
theorem take_there (H : Heap) (ii iw : Nat) (M C : List Int) (l : Nat) (bi : Blk) (hi : H[ii]? = some (some bi)) (his : bi.segs = [.ints .u8 32 M, .ints .u8 16 C, .one (.int .u32 ((l : Nat) : Int)), .one (.int .i64 1), .one (.ptr iw (0 + 0) 0)]) (Cw : List Int) (top taken : Nat) (bw : Blk) (hw : H[iw]? = some (some bw)) (hws : bw.segs = [.ints .i64 1 [1], .ints .u64 64 Cw, .one (.int .u64 ((top : Nat) : Int)), .one (.int .u64 ((taken : Nat) : Int))]) (id sh m cap : Nat) (B : List Int) (bd : Blk) (hdl : B.length = (29 + m)) (hdc : (29 + m) ≤ cap) (hdm : (29 + m) ≤ 140737488351232) (hd : H[id]? = some (some bd)) (hds : ∀ (i : Nat) (y : SV), atS [.ints .u8 (29 + m) B] i = some y → atS bd.segs (sh + i) = some y) (n : Nat) (hM : M.length = 32) (hC : C.length = 16) (hC8 : U8 C) (hB8 : U8 B) (h2k : 29 + m ≤ 2048) (h9 : B.getD 0 0 = 9) (hlt : l < 4294967296) (hg : getI ((B.drop (0 + 1)).take (29 + m - 1)) 4 = ((l : Nat) : Int)) (hm : mo (((sMac M B (13 + m)).drop 0).take 16) ((B.drop (13 + m)).take 16) 16 = 0) (hgn : getI ((B.drop (0 + 5)).take (29 + m - 5)) 8 = ((n : Nat) : Int)) (hn0 : n ≠ 0) (hn : n < 18446744073709551616) (htop : top < 18446744073709551616) (hold : top - n < 64) (hCw : Cw.getD (n % 64) 0 = ((n : Nat) : Int)) (h0 : 0 < m) : ACall Try.prog 40 H [.s (.ptr ii (0 + 0) 0), .s (.slice id (0 + sh) 0 (29 + m) cap)] (.tup [.s (.int .u64 0), .s (.nils), .s (.int .i64 8)]) [] := by
  refine acall_gen2 (args0 := [.s (.ptr 0 0 0), .s (.slice 2 0 0 (29 + m) cap)]) (H0 := [some ⟨false, [.ints .u8 32 M, .ints .u8 16 C, .one (.int .u32 ((l : Nat) : Int)), .one (.int .i64 1), .one (.ptr 1 0 0)]⟩, some ⟨false, [.ints .i64 1 [1], .ints .u64 64 Cw, .one (.int .u64 ((top : Nat) : Int)), .one (.int .u64 ((taken : Nat) : Int))]⟩, some ⟨false, [.ints .u8 (29 + m) B]⟩]) (Hf := []) (v0 := (.tup [.s (.int .u64 0), .s (.nils), .s (.int .i64 8)])) [(ii, 0), (iw, 0), (id, sh)] [] Try.func40 rfl Try.ntmps40 (by simp) rfl
    (fun k id' sh' b0 h1 h2 => by
      match k, h1, h2 with
      | 0, h1, h2 => simp at h1 h2; obtain ⟨rfl, rfl⟩ := h1; subst h2; exact ⟨rfl, rfl, _, hi, foot_same his⟩
      | 1, h1, h2 => simp at h1 h2; obtain ⟨rfl, rfl⟩ := h1; subst h2; exact ⟨rfl, rfl, _, hw, foot_same hws⟩
      | 2, h1, h2 => simp at h1 h2; obtain ⟨rfl, rfl⟩ := h1; subst h2; exact ⟨rfl, rfl, _, hd, fun i y hy => by (have h := hds i y hy; obtain ⟨_, rfl⟩ := atS_ints1 hy; exact h)⟩
      | k + 3, h1, _ => simp at h1)
    (fun W ρ vals w hH ha k id' sh' hk => by
      match k, hk with
      | 0, hk => simp at hk; obtain ⟨rfl, rfl⟩ := hk; exact ⟨(List.getElem?_eq_some_iff.1 hi).1, live_ptr (i := 0) ha rfl⟩
      | 1, hk => simp at hk; obtain ⟨rfl, rfl⟩ := hk; exact ⟨(List.getElem?_eq_some_iff.1 hw).1, live_in (p := 50) hH (live_ptr (i := 0) ha rfl) hi (by rw [his]; rfl)⟩
      | 2, hk => simp at hk; obtain ⟨rfl, rfl⟩ := hk; exact ⟨(List.getElem?_eq_some_iff.1 hd).1, live_slice (i := 1) ha rfl⟩
      | k + 3, hk => simp at hk)
    rfl rfl rfl (by decide) rfl rfl rfl (fun W w ρ0 hW hdom => ?_)
  refine w_seq ?_
  refine c_reg (by kernel_rfl) rfl ?_
  refine s_p (by first | exact h_assign (v := .s _) rfl | exact h_assign (v := .agg _) rfl | exact h_assign (v := .tup _) rfl) ?_
  refine s_p (by first | exact h_assign (v := .s _) rfl | exact h_assign (v := .agg _) rfl | exact h_assign (v := .tup _) rfl) ?_
  refine s_p (by first | exact h_assign (v := .s _) rfl | exact h_assign (v := .agg _) rfl | exact h_assign (v := .tup _) rfl) ?_
  refine s_nil ?_
  refine n_wp ?_
  refine w_seq ?_
  refine w_seq ?_
  refine c_reg (by kernel_rfl) rfl ?_
  refine s_p (by first | exact h_move (v := .s _) rfl | exact h_move (v := .agg _) rfl | exact h_move (v := .tup _) rfl) ?_
  refine s_p (h_eqn rfl rfl Try.underlying79) ?_
  refine s_p (by first | exact h_move (v := .s _) rfl | exact h_move (v := .agg _) rfl | exact h_move (v := .tup _) rfl) ?_
  first | refine s_on rfl rfl (by first | rfl | assumption) (by first | exact h_move (v := .s _) rfl | exact h_move (v := .agg _) rfl | exact h_move (v := .tup _) rfl) ?_ | refine s_off rfl rfl (by first | rfl | assumption) ?_
  first | refine s_on rfl rfl (by first | rfl | assumption) (h_nilCheck rfl) ?_ | refine s_off rfl rfl (by first | rfl | assumption) ?_
  first | refine s_on rfl rfl (by first | rfl | assumption) (h_field rfl Try.underlying82 rfl Try.sizeOf75 (by decide)) ?_ | refine s_off rfl rfl (by first | rfl | assumption) ?_
  first | refine s_on rfl rfl (by first | rfl | assumption) (h_field rfl Try.underlying75 rfl Try.sizeOf3 (by decide)) ?_ | refine s_off rfl rfl (by first | rfl | assumption) ?_
  first | refine s_on rfl rfl (by first | rfl | assumption) (by first | exact h_load_ints rfl rfl rfl (by omega) rfl Try.isAgg3 | exact h_load_one rfl rfl rfl Try.isAgg3) ?_ | refine s_off rfl rfl (by first | rfl | assumption) ?_
  first | refine s_on rfl rfl (by first | rfl | assumption) (h_bin rfl rfl (b_eql (decide_eq_false (by decide)))) ?_ | refine s_off rfl rfl (by first | rfl | assumption) ?_
  refine s_p (by first | exact h_pick_t rfl (by first | rfl | assumption) rfl | exact h_pick_f rfl (by first | rfl | assumption) rfl) ?_
  refine s_nil ?_
  refine n_wp ?_
  refine w_cond rfl (fun hc_t17 => ?_) (fun hc_t17 => ?_)
  · exact absurd hc_t17 (by simp)
  refine w_skip ?_
  refine n_wp ?_
  refine w_seq ?_
  refine c_reg (by kernel_rfl) rfl ?_
  refine s_p (by first | exact h_move (v := .s _) rfl | exact h_move (v := .agg _) rfl | exact h_move (v := .tup _) rfl) ?_
  refine s_p (h_call callable_38 rfl (Lane_ok _ 2 0 (29 + m) cap B _ hdl hdc hdm rfl (fun i y hy => by rw [Nat.zero_add i]; exact hy) (by omega) h2k h9 l hlt hg)) ?_
  refine s_p (by first | exact h_move (v := .s _) rfl | exact h_move (v := .agg _) rfl | exact h_move (v := .tup _) rfl) ?_
  refine s_p (h_extract rfl rfl (by simp)) ?_
  refine s_p (h_extract rfl rfl (by simp)) ?_
  refine s_p (by first | exact h_assign (v := .s _) rfl | exact h_assign (v := .agg _) rfl | exact h_assign (v := .tup _) rfl) ?_
  refine s_p (by first | exact h_assign (v := .s _) rfl | exact h_assign (v := .agg _) rfl | exact h_assign (v := .tup _) rfl) ?_
  refine s_nil ?_
  refine n_wp ?_
  refine w_seq ?_
  refine w_block ?_
  refine w_seq ?_
  refine c_reg (by kernel_rfl) rfl ?_
  refine s_p (by first | exact h_move (v := .s _) rfl | exact h_move (v := .agg _) rfl | exact h_move (v := .tup _) rfl) ?_
  refine s_p (h_bin rfl rfl (b_neq (decide_eq_false (fun h => h rfl)))) ?_
  refine s_p (by first | exact h_assign (v := .s _) rfl | exact h_assign (v := .agg _) rfl | exact h_assign (v := .tup _) rfl) ?_
  refine s_nil ?_
  refine n_wp ?_
  refine w_cond rfl (fun hc_t23 => ?_) (fun hc_t23 => ?_)
  · exact absurd hc_t23 (by simp)
  refine w_seq ?_
  refine c_reg (by kernel_rfl) rfl ?_
  refine s_p (by first | exact h_move (v := .s _) rfl | exact h_move (v := .agg _) rfl | exact h_move (v := .tup _) rfl) ?_
  refine s_p (by first | exact h_move (v := .s _) rfl | exact h_move (v := .agg _) rfl | exact h_move (v := .tup _) rfl) ?_
  refine s_p (h_nilCheck rfl) ?_
  refine s_p (h_field rfl Try.underlying82 rfl Try.sizeOf75 (by decide)) ?_
  refine s_p (h_field rfl Try.underlying75 rfl Try.sizeOf61 (by decide)) ?_
  refine s_p (by first | exact h_load_ints rfl rfl rfl (by omega) rfl Try.isAgg61 | exact h_load_one rfl rfl rfl Try.isAgg61) ?_
  refine s_p (h_bin rfl rfl (b_neq (decide_eq_false (fun h => h rfl)))) ?_
  refine s_p (by first | exact h_assign (v := .s _) rfl | exact h_assign (v := .agg _) rfl | exact h_assign (v := .tup _) rfl) ?_
  refine s_nil ?_
  refine n_wp ?_
  refine w_cond rfl (fun hc_t27 => ?_) (fun hc_t27 => ?_)
  · exact absurd hc_t27 (by simp)
  refine w_skip ?_
  refine n_blo ?_
  refine n_wp ?_
  refine w_seq ?_
  refine w_seq ?_
  refine c_reg (by kernel_rfl) rfl ?_
  refine s_p (by first | exact h_move (v := .s _) rfl | exact h_move (v := .agg _) rfl | exact h_move (v := .tup _) rfl) ?_
  refine s_p (h_nilCheck rfl) ?_
  refine s_p (h_field rfl Try.underlying82 rfl Try.sizeOf75 (by decide)) ?_
  refine s_p (h_field rfl Try.underlying75 rfl Try.sizeOf56 (by decide)) ?_
  refine s_p (h_load_agg rfl rfl (.two (m := 32) (n := 16) rfl rfl (.seg rfl rfl)) Try.isAgg56 Try.sizeOf56) ?_
  refine s_p (by first | exact h_move (v := .s _) rfl | exact h_move (v := .agg _) rfl | exact h_move (v := .tup _) rfl) ?_
  refine s_a (h_call callable_37 rfl ((show ACall _ _ _ _ (.tup [_, .s (.int .u64 ((n : Nat) : Int)), _, _]) _ by have h := open_ok [some ⟨false, [.ints .u8 32 M, .ints .u8 16 C, .one (.int .u32 ((l : Nat) : Int)), .one (.int .i64 1), .one (.ptr 1 0 0)]⟩, some ⟨false, [.ints .i64 1 [1], .ints .u64 64 Cw, .one (.int .u64 ((top : Nat) : Int)), .one (.int .u64 ((taken : Nat) : Int))]⟩, some ⟨false, [.ints .u8 (29 + m) B]⟩] M C m hM hC hC8 2 0 (29 + m) cap B _ hdl hdc hdm rfl (fun i y hy => by rw [Nat.zero_add i]; exact hy) hB8 rfl (by omega) h9 l hlt hg hm h0; rw [hgn] at h; exact h))) rfl ?_
  refine s_p (by first | exact h_move (v := .s _) rfl | exact h_move (v := .agg _) rfl | exact h_move (v := .tup _) rfl) ?_
  refine s_p (h_extract rfl rfl (by simp)) ?_
  refine s_p (h_extract rfl rfl (by simp)) ?_
  refine s_p (h_extract rfl rfl (by simp)) ?_
  refine s_p (h_extract rfl rfl (by simp)) ?_
  refine s_p (by first | exact h_assign (v := .s _) rfl | exact h_assign (v := .agg _) rfl | exact h_assign (v := .tup _) rfl) ?_
  refine s_p (by first | exact h_assign (v := .s _) rfl | exact h_assign (v := .agg _) rfl | exact h_assign (v := .tup _) rfl) ?_
  refine s_p (by first | exact h_assign (v := .s _) rfl | exact h_assign (v := .agg _) rfl | exact h_assign (v := .tup _) rfl) ?_
  refine s_nil ?_
  refine n_wp ?_
  refine w_seq ?_
  refine c_reg (by kernel_rfl) rfl ?_
  refine s_p (by first | exact h_move (v := .s _) rfl | exact h_move (v := .agg _) rfl | exact h_move (v := .tup _) rfl) ?_
  refine s_p (h_bin rfl rfl (b_eql (decide_eq_true rfl))) ?_
  refine s_nil ?_
  refine n_wp ?_
  refine w_cond rfl (fun hc_t48 => ?_) (fun hc_t48 => ?_)
  rotate_left
  · exact absurd hc_t48 (by simp)
  refine c_reg (by kernel_rfl) rfl ?_
  refine s_p (by first | exact h_move (v := .s _) rfl | exact h_move (v := .agg _) rfl | exact h_move (v := .tup _) rfl) ?_
  refine s_p (h_nilCheck rfl) ?_
  refine s_p (h_field rfl Try.underlying82 rfl Try.sizeOf80 (by decide)) ?_
  refine s_p (by first | exact h_load_ints rfl rfl rfl (by omega) rfl Try.isAgg80 | exact h_load_one rfl rfl rfl Try.isAgg80) ?_
  refine s_p (by first | exact h_move (v := .s _) rfl | exact h_move (v := .agg _) rfl | exact h_move (v := .tup _) rfl) ?_
  refine s_p (h_call callable_64 rfl (WTake_there _ 1 Cw top taken _ rfl rfl n hn0 hn htop hold hCw)) ?_
  refine s_p (by first | exact h_assign (v := .s _) rfl | exact h_assign (v := .agg _) rfl | exact h_assign (v := .tup _) rfl) ?_
  refine s_nil ?_
  refine n_wp ?_
  refine w_seq ?_
  refine w_seq ?_
  refine c_reg (by kernel_rfl) rfl ?_
  refine s_p (by first | exact h_move (v := .s _) rfl | exact h_move (v := .agg _) rfl | exact h_move (v := .tup _) rfl) ?_
  refine s_p (h_bin rfl rfl (b_neq (decide_eq_true (by decide)))) ?_
  refine s_nil ?_
  refine n_wp ?_
  refine w_cond rfl (fun hc_t56 => ?_) (fun hc_t56 => ?_)
  rotate_left
  · exact absurd hc_t56 (by simp)
  refine w_seq ?_
  refine c_reg (by kernel_rfl) rfl ?_
  refine s_p (by first | exact h_move (v := .s _) rfl | exact h_move (v := .agg _) rfl | exact h_move (v := .tup _) rfl) ?_
  refine s_p (by first | exact h_assign (v := .s _) rfl | exact h_assign (v := .agg _) rfl | exact h_assign (v := .tup _) rfl) ?_
  refine s_p (by first | exact h_assign (v := .s _) rfl | exact h_assign (v := .agg _) rfl | exact h_assign (v := .tup _) rfl) ?_
  refine s_p (by first | exact h_assign (v := .s _) rfl | exact h_assign (v := .agg _) rfl | exact h_assign (v := .tup _) rfl) ?_
  refine s_nil ?_
  refine n_wp ?_
  refine w_ret ?_
  refine r_thn ?_
  exact doneM (by repeat (first | exact trivial | refine ⟨rfl, ?_⟩)) (ret_tmps3 Try.results40 rfl rfl rfl)
set_option maxRecDepth 100000 in
set_option maxHeartbeats 2000000 in
theorem take_there0 (H : Heap) (ii iw : Nat) (M C : List Int) (l : Nat) (bi : Blk) (hi : H[ii]? = some (some bi)) (his : bi.segs = [.ints .u8 32 M, .ints .u8 16 C, .one (.int .u32 ((l : Nat) : Int)), .one (.int .i64 1), .one (.ptr iw (0 + 0) 0)]) (Cw : List Int) (top taken : Nat) (bw : Blk) (hw : H[iw]? = some (some bw)) (hws : bw.segs = [.ints .i64 1 [1], .ints .u64 64 Cw, .one (.int .u64 ((top : Nat) : Int)), .one (.int .u64 ((taken : Nat) : Int))]) (id sh m cap : Nat) (B : List Int) (bd : Blk) (hdl : B.length = (29 + m)) (hdc : (29 + m) ≤ cap) (hdm : (29 + m) ≤ 140737488351232) (hd : H[id]? = some (some bd)) (hds : ∀ (i : Nat) (y : SV), atS [.ints .u8 (29 + m) B] i = some y → atS bd.segs (sh + i) = some y) (n : Nat) (hM : M.length = 32) (hC : C.length = 16) (hC8 : U8 C) (hB8 : U8 B) (h2k : 29 + m ≤ 2048) (h9 : B.getD 0 0 = 9) (hlt : l < 4294967296) (hg : getI ((B.drop (0 + 1)).take (29 + m - 1)) 4 = ((l : Nat) : Int)) (hm : mo (((sMac M B (13 + m)).drop 0).take 16) ((B.drop (13 + m)).take 16) 16 = 0) (hgn : getI ((B.drop (0 + 5)).take (29 + m - 5)) 8 = ((n : Nat) : Int)) (hn0 : n ≠ 0) (hn : n < 18446744073709551616) (htop : top < 18446744073709551616) (hold : top - n < 64) (hCw : Cw.getD (n % 64) 0 = ((n : Nat) : Int)) (h0 : m = 0) : ACall Try.prog 40 H [.s (.ptr ii (0 + 0) 0), .s (.slice id (0 + sh) 0 (29 + m) cap)] (.tup [.s (.int .u64 0), .s (.nils), .s (.int .i64 8)]) [] := by
  refine acall_gen2 (args0 := [.s (.ptr 0 0 0), .s (.slice 2 0 0 (29 + m) cap)]) (H0 := [some ⟨false, [.ints .u8 32 M, .ints .u8 16 C, .one (.int .u32 ((l : Nat) : Int)), .one (.int .i64 1), .one (.ptr 1 0 0)]⟩, some ⟨false, [.ints .i64 1 [1], .ints .u64 64 Cw, .one (.int .u64 ((top : Nat) : Int)), .one (.int .u64 ((taken : Nat) : Int))]⟩, some ⟨false, [.ints .u8 (29 + m) B]⟩]) (Hf := []) (v0 := (.tup [.s (.int .u64 0), .s (.nils), .s (.int .i64 8)])) [(ii, 0), (iw, 0), (id, sh)] [] Try.func40 rfl Try.ntmps40 (by simp) rfl
    (fun k id' sh' b0 h1 h2 => by
      match k, h1, h2 with
      | 0, h1, h2 => simp at h1 h2; obtain ⟨rfl, rfl⟩ := h1; subst h2; exact ⟨rfl, rfl, _, hi, foot_same his⟩
      | 1, h1, h2 => simp at h1 h2; obtain ⟨rfl, rfl⟩ := h1; subst h2; exact ⟨rfl, rfl, _, hw, foot_same hws⟩
      | 2, h1, h2 => simp at h1 h2; obtain ⟨rfl, rfl⟩ := h1; subst h2; exact ⟨rfl, rfl, _, hd, fun i y hy => by (have h := hds i y hy; obtain ⟨_, rfl⟩ := atS_ints1 hy; exact h)⟩
      | k + 3, h1, _ => simp at h1)
    (fun W ρ vals w hH ha k id' sh' hk => by
      match k, hk with
      | 0, hk => simp at hk; obtain ⟨rfl, rfl⟩ := hk; exact ⟨(List.getElem?_eq_some_iff.1 hi).1, live_ptr (i := 0) ha rfl⟩
      | 1, hk => simp at hk; obtain ⟨rfl, rfl⟩ := hk; exact ⟨(List.getElem?_eq_some_iff.1 hw).1, live_in (p := 50) hH (live_ptr (i := 0) ha rfl) hi (by rw [his]; rfl)⟩
      | 2, hk => simp at hk; obtain ⟨rfl, rfl⟩ := hk; exact ⟨(List.getElem?_eq_some_iff.1 hd).1, live_slice (i := 1) ha rfl⟩
      | k + 3, hk => simp at hk)
    rfl rfl rfl (by decide) rfl rfl rfl (fun W w ρ0 hW hdom => ?_)
  refine w_seq ?_
  refine c_reg (by kernel_rfl) rfl ?_
  refine s_p (by first | exact h_assign (v := .s _) rfl | exact h_assign (v := .agg _) rfl | exact h_assign (v := .tup _) rfl) ?_
  refine s_p (by first | exact h_assign (v := .s _) rfl | exact h_assign (v := .agg _) rfl | exact h_assign (v := .tup _) rfl) ?_
  refine s_p (by first | exact h_assign (v := .s _) rfl | exact h_assign (v := .agg _) rfl | exact h_assign (v := .tup _) rfl) ?_
  refine s_nil ?_
  refine n_wp ?_
  refine w_seq ?_
  refine w_seq ?_
  refine c_reg (by kernel_rfl) rfl ?_
  refine s_p (by first | exact h_move (v := .s _) rfl | exact h_move (v := .agg _) rfl | exact h_move (v := .tup _) rfl) ?_
  refine s_p (h_eqn rfl rfl Try.underlying79) ?_
  refine s_p (by first | exact h_move (v := .s _) rfl | exact h_move (v := .agg _) rfl | exact h_move (v := .tup _) rfl) ?_
  first | refine s_on rfl rfl (by first | rfl | assumption) (by first | exact h_move (v := .s _) rfl | exact h_move (v := .agg _) rfl | exact h_move (v := .tup _) rfl) ?_ | refine s_off rfl rfl (by first | rfl | assumption) ?_
  first | refine s_on rfl rfl (by first | rfl | assumption) (h_nilCheck rfl) ?_ | refine s_off rfl rfl (by first | rfl | assumption) ?_
  first | refine s_on rfl rfl (by first | rfl | assumption) (h_field rfl Try.underlying82 rfl Try.sizeOf75 (by decide)) ?_ | refine s_off rfl rfl (by first | rfl | assumption) ?_
  first | refine s_on rfl rfl (by first | rfl | assumption) (h_field rfl Try.underlying75 rfl Try.sizeOf3 (by decide)) ?_ | refine s_off rfl rfl (by first | rfl | assumption) ?_
  first | refine s_on rfl rfl (by first | rfl | assumption) (by first | exact h_load_ints rfl rfl rfl (by omega) rfl Try.isAgg3 | exact h_load_one rfl rfl rfl Try.isAgg3) ?_ | refine s_off rfl rfl (by first | rfl | assumption) ?_
  first | refine s_on rfl rfl (by first | rfl | assumption) (h_bin rfl rfl (b_eql (decide_eq_false (by decide)))) ?_ | refine s_off rfl rfl (by first | rfl | assumption) ?_
  refine s_p (by first | exact h_pick_t rfl (by first | rfl | assumption) rfl | exact h_pick_f rfl (by first | rfl | assumption) rfl) ?_
  refine s_nil ?_
  refine n_wp ?_
  refine w_cond rfl (fun hc_t17 => ?_) (fun hc_t17 => ?_)
  · exact absurd hc_t17 (by simp)
  refine w_skip ?_
  refine n_wp ?_
  refine w_seq ?_
  refine c_reg (by kernel_rfl) rfl ?_
  refine s_p (by first | exact h_move (v := .s _) rfl | exact h_move (v := .agg _) rfl | exact h_move (v := .tup _) rfl) ?_
  refine s_p (h_call callable_38 rfl (Lane_ok _ 2 0 (29 + m) cap B _ hdl hdc hdm rfl (fun i y hy => by rw [Nat.zero_add i]; exact hy) (by omega) h2k h9 l hlt hg)) ?_
  refine s_p (by first | exact h_move (v := .s _) rfl | exact h_move (v := .agg _) rfl | exact h_move (v := .tup _) rfl) ?_
  refine s_p (h_extract rfl rfl (by simp)) ?_
  refine s_p (h_extract rfl rfl (by simp)) ?_
  refine s_p (by first | exact h_assign (v := .s _) rfl | exact h_assign (v := .agg _) rfl | exact h_assign (v := .tup _) rfl) ?_
  refine s_p (by first | exact h_assign (v := .s _) rfl | exact h_assign (v := .agg _) rfl | exact h_assign (v := .tup _) rfl) ?_
  refine s_nil ?_
  refine n_wp ?_
  refine w_seq ?_
  refine w_block ?_
  refine w_seq ?_
  refine c_reg (by kernel_rfl) rfl ?_
  refine s_p (by first | exact h_move (v := .s _) rfl | exact h_move (v := .agg _) rfl | exact h_move (v := .tup _) rfl) ?_
  refine s_p (h_bin rfl rfl (b_neq (decide_eq_false (fun h => h rfl)))) ?_
  refine s_p (by first | exact h_assign (v := .s _) rfl | exact h_assign (v := .agg _) rfl | exact h_assign (v := .tup _) rfl) ?_
  refine s_nil ?_
  refine n_wp ?_
  refine w_cond rfl (fun hc_t23 => ?_) (fun hc_t23 => ?_)
  · exact absurd hc_t23 (by simp)
  refine w_seq ?_
  refine c_reg (by kernel_rfl) rfl ?_
  refine s_p (by first | exact h_move (v := .s _) rfl | exact h_move (v := .agg _) rfl | exact h_move (v := .tup _) rfl) ?_
  refine s_p (by first | exact h_move (v := .s _) rfl | exact h_move (v := .agg _) rfl | exact h_move (v := .tup _) rfl) ?_
  refine s_p (h_nilCheck rfl) ?_
  refine s_p (h_field rfl Try.underlying82 rfl Try.sizeOf75 (by decide)) ?_
  refine s_p (h_field rfl Try.underlying75 rfl Try.sizeOf61 (by decide)) ?_
  refine s_p (by first | exact h_load_ints rfl rfl rfl (by omega) rfl Try.isAgg61 | exact h_load_one rfl rfl rfl Try.isAgg61) ?_
  refine s_p (h_bin rfl rfl (b_neq (decide_eq_false (fun h => h rfl)))) ?_
  refine s_p (by first | exact h_assign (v := .s _) rfl | exact h_assign (v := .agg _) rfl | exact h_assign (v := .tup _) rfl) ?_
  refine s_nil ?_
  refine n_wp ?_
  refine w_cond rfl (fun hc_t27 => ?_) (fun hc_t27 => ?_)
  · exact absurd hc_t27 (by simp)
  refine w_skip ?_
  refine n_blo ?_
  refine n_wp ?_
  refine w_seq ?_
  refine w_seq ?_
  refine c_reg (by kernel_rfl) rfl ?_
  refine s_p (by first | exact h_move (v := .s _) rfl | exact h_move (v := .agg _) rfl | exact h_move (v := .tup _) rfl) ?_
  refine s_p (h_nilCheck rfl) ?_
  refine s_p (h_field rfl Try.underlying82 rfl Try.sizeOf75 (by decide)) ?_
  refine s_p (h_field rfl Try.underlying75 rfl Try.sizeOf56 (by decide)) ?_
  refine s_p (h_load_agg rfl rfl (.two (m := 32) (n := 16) rfl rfl (.seg rfl rfl)) Try.isAgg56 Try.sizeOf56) ?_
  refine s_p (by first | exact h_move (v := .s _) rfl | exact h_move (v := .agg _) rfl | exact h_move (v := .tup _) rfl) ?_
  refine s_p (h_call callable_37 rfl ((show ACall _ _ _ _ (.tup [_, .s (.int .u64 ((n : Nat) : Int)), _, _]) _ by have h := open_ok0 [some ⟨false, [.ints .u8 32 M, .ints .u8 16 C, .one (.int .u32 ((l : Nat) : Int)), .one (.int .i64 1), .one (.ptr 1 0 0)]⟩, some ⟨false, [.ints .i64 1 [1], .ints .u64 64 Cw, .one (.int .u64 ((top : Nat) : Int)), .one (.int .u64 ((taken : Nat) : Int))]⟩, some ⟨false, [.ints .u8 (29 + m) B]⟩] M C m hM hC hC8 2 0 (29 + m) cap B _ hdl hdc hdm rfl (fun i y hy => by rw [Nat.zero_add i]; exact hy) hB8 rfl (by omega) h9 l hlt hg hm h0; rw [hgn] at h; exact h))) ?_
  refine s_p (by first | exact h_move (v := .s _) rfl | exact h_move (v := .agg _) rfl | exact h_move (v := .tup _) rfl) ?_
  refine s_p (h_extract rfl rfl (by simp)) ?_
  refine s_p (h_extract rfl rfl (by simp)) ?_
  refine s_p (h_extract rfl rfl (by simp)) ?_
  refine s_p (h_extract rfl rfl (by simp)) ?_
  refine s_p (by first | exact h_assign (v := .s _) rfl | exact h_assign (v := .agg _) rfl | exact h_assign (v := .tup _) rfl) ?_
  refine s_p (by first | exact h_assign (v := .s _) rfl | exact h_assign (v := .agg _) rfl | exact h_assign (v := .tup _) rfl) ?_
  refine s_p (by first | exact h_assign (v := .s _) rfl | exact h_assign (v := .agg _) rfl | exact h_assign (v := .tup _) rfl) ?_
  refine s_nil ?_
  refine n_wp ?_
  refine w_seq ?_
  refine c_reg (by kernel_rfl) rfl ?_
  refine s_p (by first | exact h_move (v := .s _) rfl | exact h_move (v := .agg _) rfl | exact h_move (v := .tup _) rfl) ?_
  refine s_p (h_bin rfl rfl (b_eql (decide_eq_true rfl))) ?_
  refine s_nil ?_
  refine n_wp ?_
  refine w_cond rfl (fun hc_t48 => ?_) (fun hc_t48 => ?_)
  rotate_left
  · exact absurd hc_t48 (by simp)
  refine c_reg (by kernel_rfl) rfl ?_
  refine s_p (by first | exact h_move (v := .s _) rfl | exact h_move (v := .agg _) rfl | exact h_move (v := .tup _) rfl) ?_
  refine s_p (h_nilCheck rfl) ?_
  refine s_p (h_field rfl Try.underlying82 rfl Try.sizeOf80 (by decide)) ?_
  refine s_p (by first | exact h_load_ints rfl rfl rfl (by omega) rfl Try.isAgg80 | exact h_load_one rfl rfl rfl Try.isAgg80) ?_
  refine s_p (by first | exact h_move (v := .s _) rfl | exact h_move (v := .agg _) rfl | exact h_move (v := .tup _) rfl) ?_
  refine s_p (h_call callable_64 rfl (WTake_there _ 1 Cw top taken _ rfl rfl n hn0 hn htop hold hCw)) ?_
  refine s_p (by first | exact h_assign (v := .s _) rfl | exact h_assign (v := .agg _) rfl | exact h_assign (v := .tup _) rfl) ?_
  refine s_nil ?_
  refine n_wp ?_
  refine w_seq ?_
  refine w_seq ?_
  refine c_reg (by kernel_rfl) rfl ?_
  refine s_p (by first | exact h_move (v := .s _) rfl | exact h_move (v := .agg _) rfl | exact h_move (v := .tup _) rfl) ?_
  refine s_p (h_bin rfl rfl (b_neq (decide_eq_true (by decide)))) ?_
  refine s_nil ?_
  refine n_wp ?_
  refine w_cond rfl (fun hc_t56 => ?_) (fun hc_t56 => ?_)
  rotate_left
  · exact absurd hc_t56 (by simp)
  refine w_seq ?_
  refine c_reg (by kernel_rfl) rfl ?_
  refine s_p (by first | exact h_move (v := .s _) rfl | exact h_move (v := .agg _) rfl | exact h_move (v := .tup _) rfl) ?_
  refine s_p (by first | exact h_assign (v := .s _) rfl | exact h_assign (v := .agg _) rfl | exact h_assign (v := .tup _) rfl) ?_
  refine s_p (by first | exact h_assign (v := .s _) rfl | exact h_assign (v := .agg _) rfl | exact h_assign (v := .tup _) rfl) ?_
  refine s_p (by first | exact h_assign (v := .s _) rfl | exact h_assign (v := .agg _) rfl | exact h_assign (v := .tup _) rfl) ?_
  refine s_nil ?_
  refine n_wp ?_
  refine w_ret ?_
  refine r_thn ?_
  exact doneM (by repeat (first | exact trivial | refine ⟨rfl, ?_⟩)) (ret_tmps3 Try.results40 rfl rfl rfl)
set_option maxRecDepth 100000 in
set_option maxHeartbeats 2000000 in
theorem take_none (H : Heap) (ii iw : Nat) (M C : List Int) (l : Nat) (bi : Blk) (hi : H[ii]? = some (some bi)) (his : bi.segs = [.ints .u8 32 M, .ints .u8 16 C, .one (.int .u32 ((l : Nat) : Int)), .one (.int .i64 1), .one (.ptr iw (0 + 0) 0)]) (Cw : List Int) (top taken : Nat) (bw : Blk) (hw : H[iw]? = some (some bw)) (hws : bw.segs = [.ints .i64 1 [1], .ints .u64 64 Cw, .one (.int .u64 ((top : Nat) : Int)), .one (.int .u64 ((taken : Nat) : Int))]) (id sh m cap : Nat) (B : List Int) (bd : Blk) (hdl : B.length = (29 + m)) (hdc : (29 + m) ≤ cap) (hdm : (29 + m) ≤ 140737488351232) (hd : H[id]? = some (some bd)) (hds : ∀ (i : Nat) (y : SV), atS [.ints .u8 (29 + m) B] i = some y → atS bd.segs (sh + i) = some y) (l2 : Nat) (h2k : 29 + m ≤ 2048) (h9 : B.getD 0 0 = 9) (hlt : l2 < 4294967296) (hg : getI ((B.drop (0 + 1)).take (29 + m - 1)) 4 = ((l2 : Nat) : Int)) (hnl : l2 ≠ l) : ACall Try.prog 40 H [.s (.ptr ii (0 + 0) 0), .s (.slice id (0 + sh) 0 (29 + m) cap)] (.tup [.s (.int .u64 0), .s (.nils), .s (.int .i64 7)]) [] := by
  refine acall_gen2 (args0 := [.s (.ptr 0 0 0), .s (.slice 2 0 0 (29 + m) cap)]) (H0 := [some ⟨false, [.ints .u8 32 M, .ints .u8 16 C, .one (.int .u32 ((l : Nat) : Int)), .one (.int .i64 1), .one (.ptr 1 0 0)]⟩, some ⟨false, [.ints .i64 1 [1], .ints .u64 64 Cw, .one (.int .u64 ((top : Nat) : Int)), .one (.int .u64 ((taken : Nat) : Int))]⟩, some ⟨false, [.ints .u8 (29 + m) B]⟩]) (Hf := []) (v0 := (.tup [.s (.int .u64 0), .s (.nils), .s (.int .i64 7)])) [(ii, 0), (iw, 0), (id, sh)] [] Try.func40 rfl Try.ntmps40 (by simp) rfl
    (fun k id' sh' b0 h1 h2 => by
      match k, h1, h2 with
      | 0, h1, h2 => simp at h1 h2; obtain ⟨rfl, rfl⟩ := h1; subst h2; exact ⟨rfl, rfl, _, hi, foot_same his⟩
      | 1, h1, h2 => simp at h1 h2; obtain ⟨rfl, rfl⟩ := h1; subst h2; exact ⟨rfl, rfl, _, hw, foot_same hws⟩
      | 2, h1, h2 => simp at h1 h2; obtain ⟨rfl, rfl⟩ := h1; subst h2; exact ⟨rfl, rfl, _, hd, fun i y hy => by (have h := hds i y hy; obtain ⟨_, rfl⟩ := atS_ints1 hy; exact h)⟩
      | k + 3, h1, _ => simp at h1)
    (fun W ρ vals w hH ha k id' sh' hk => by
      match k, hk with
      | 0, hk => simp at hk; obtain ⟨rfl, rfl⟩ := hk; exact ⟨(List.getElem?_eq_some_iff.1 hi).1, live_ptr (i := 0) ha rfl⟩
      | 1, hk => simp at hk; obtain ⟨rfl, rfl⟩ := hk; exact ⟨(List.getElem?_eq_some_iff.1 hw).1, live_in (p := 50) hH (live_ptr (i := 0) ha rfl) hi (by rw [his]; rfl)⟩
      | 2, hk => simp at hk; obtain ⟨rfl, rfl⟩ := hk; exact ⟨(List.getElem?_eq_some_iff.1 hd).1, live_slice (i := 1) ha rfl⟩
      | k + 3, hk => simp at hk)
    rfl rfl rfl (by decide) rfl rfl rfl (fun W w ρ0 hW hdom => ?_)
  refine w_seq ?_
  refine c_reg (by kernel_rfl) rfl ?_
  refine s_p (by first | exact h_assign (v := .s _) rfl | exact h_assign (v := .agg _) rfl | exact h_assign (v := .tup _) rfl) ?_
  refine s_p (by first | exact h_assign (v := .s _) rfl | exact h_assign (v := .agg _) rfl | exact h_assign (v := .tup _) rfl) ?_
  refine s_p (by first | exact h_assign (v := .s _) rfl | exact h_assign (v := .agg _) rfl | exact h_assign (v := .tup _) rfl) ?_
  refine s_nil ?_
  refine n_wp ?_
  refine w_seq ?_
  refine w_seq ?_
  refine c_reg (by kernel_rfl) rfl ?_
  refine s_p (by first | exact h_move (v := .s _) rfl | exact h_move (v := .agg _) rfl | exact h_move (v := .tup _) rfl) ?_
  refine s_p (h_eqn rfl rfl Try.underlying79) ?_
  refine s_p (by first | exact h_move (v := .s _) rfl | exact h_move (v := .agg _) rfl | exact h_move (v := .tup _) rfl) ?_
  first | refine s_on rfl rfl (by first | rfl | assumption) (by first | exact h_move (v := .s _) rfl | exact h_move (v := .agg _) rfl | exact h_move (v := .tup _) rfl) ?_ | refine s_off rfl rfl (by first | rfl | assumption) ?_
  first | refine s_on rfl rfl (by first | rfl | assumption) (h_nilCheck rfl) ?_ | refine s_off rfl rfl (by first | rfl | assumption) ?_
  first | refine s_on rfl rfl (by first | rfl | assumption) (h_field rfl Try.underlying82 rfl Try.sizeOf75 (by decide)) ?_ | refine s_off rfl rfl (by first | rfl | assumption) ?_
  first | refine s_on rfl rfl (by first | rfl | assumption) (h_field rfl Try.underlying75 rfl Try.sizeOf3 (by decide)) ?_ | refine s_off rfl rfl (by first | rfl | assumption) ?_
  first | refine s_on rfl rfl (by first | rfl | assumption) (by first | exact h_load_ints rfl rfl rfl (by omega) rfl Try.isAgg3 | exact h_load_one rfl rfl rfl Try.isAgg3) ?_ | refine s_off rfl rfl (by first | rfl | assumption) ?_
  first | refine s_on rfl rfl (by first | rfl | assumption) (h_bin rfl rfl (b_eql (decide_eq_false (by decide)))) ?_ | refine s_off rfl rfl (by first | rfl | assumption) ?_
  refine s_p (by first | exact h_pick_t rfl (by first | rfl | assumption) rfl | exact h_pick_f rfl (by first | rfl | assumption) rfl) ?_
  refine s_nil ?_
  refine n_wp ?_
  refine w_cond rfl (fun hc_t17 => ?_) (fun hc_t17 => ?_)
  · exact absurd hc_t17 (by simp)
  refine w_skip ?_
  refine n_wp ?_
  refine w_seq ?_
  refine c_reg (by kernel_rfl) rfl ?_
  refine s_p (by first | exact h_move (v := .s _) rfl | exact h_move (v := .agg _) rfl | exact h_move (v := .tup _) rfl) ?_
  refine s_p (h_call callable_38 rfl (Lane_ok _ 2 0 (29 + m) cap B _ hdl hdc hdm rfl (fun i y hy => by rw [Nat.zero_add i]; exact hy) (by omega) h2k h9 l2 hlt hg)) ?_
  refine s_p (by first | exact h_move (v := .s _) rfl | exact h_move (v := .agg _) rfl | exact h_move (v := .tup _) rfl) ?_
  refine s_p (h_extract rfl rfl (by simp)) ?_
  refine s_p (h_extract rfl rfl (by simp)) ?_
  refine s_p (by first | exact h_assign (v := .s _) rfl | exact h_assign (v := .agg _) rfl | exact h_assign (v := .tup _) rfl) ?_
  refine s_p (by first | exact h_assign (v := .s _) rfl | exact h_assign (v := .agg _) rfl | exact h_assign (v := .tup _) rfl) ?_
  refine s_nil ?_
  refine n_wp ?_
  refine w_seq ?_
  refine w_block ?_
  refine w_seq ?_
  refine c_reg (by kernel_rfl) rfl ?_
  refine s_p (by first | exact h_move (v := .s _) rfl | exact h_move (v := .agg _) rfl | exact h_move (v := .tup _) rfl) ?_
  refine s_p (h_bin rfl rfl (b_neq (decide_eq_false (fun h => h rfl)))) ?_
  refine s_p (by first | exact h_assign (v := .s _) rfl | exact h_assign (v := .agg _) rfl | exact h_assign (v := .tup _) rfl) ?_
  refine s_nil ?_
  refine n_wp ?_
  refine w_cond rfl (fun hc_t23 => ?_) (fun hc_t23 => ?_)
  · exact absurd hc_t23 (by simp)
  refine w_seq ?_
  refine c_reg (by kernel_rfl) rfl ?_
  refine s_p (by first | exact h_move (v := .s _) rfl | exact h_move (v := .agg _) rfl | exact h_move (v := .tup _) rfl) ?_
  refine s_p (by first | exact h_move (v := .s _) rfl | exact h_move (v := .agg _) rfl | exact h_move (v := .tup _) rfl) ?_
  refine s_p (h_nilCheck rfl) ?_
  refine s_p (h_field rfl Try.underlying82 rfl Try.sizeOf75 (by decide)) ?_
  refine s_p (h_field rfl Try.underlying75 rfl Try.sizeOf61 (by decide)) ?_
  refine s_p (by first | exact h_load_ints rfl rfl rfl (by omega) rfl Try.isAgg61 | exact h_load_one rfl rfl rfl Try.isAgg61) ?_
  refine s_p (h_bin rfl rfl (b_neq (decide_eq_true (by omega)))) ?_
  refine s_p (by first | exact h_assign (v := .s _) rfl | exact h_assign (v := .agg _) rfl | exact h_assign (v := .tup _) rfl) ?_
  refine s_nil ?_
  refine n_wp ?_
  refine w_cond rfl (fun hc_t27 => ?_) (fun hc_t27 => ?_)
  rotate_left
  · exact absurd hc_t27 (by simp)
  refine w_seq ?_
  refine c_reg (by kernel_rfl) rfl ?_
  refine s_p (by first | exact h_assign (v := .s _) rfl | exact h_assign (v := .agg _) rfl | exact h_assign (v := .tup _) rfl) ?_
  refine s_p (by first | exact h_assign (v := .s _) rfl | exact h_assign (v := .agg _) rfl | exact h_assign (v := .tup _) rfl) ?_
  refine s_p (by first | exact h_assign (v := .s _) rfl | exact h_assign (v := .agg _) rfl | exact h_assign (v := .tup _) rfl) ?_
  refine s_nil ?_
  refine n_wp ?_
  refine w_ret ?_
  refine r_blo ?_
  refine r_thn ?_
  exact doneM (by repeat (first | exact trivial | refine ⟨rfl, ?_⟩)) (ret_tmps3 Try.results40 rfl rfl rfl)
set_option maxRecDepth 100000 in
set_option maxHeartbeats 2000000 in
theorem take_short (H : Heap) (ii iw : Nat) (M C : List Int) (l : Nat) (bi : Blk) (hi : H[ii]? = some (some bi)) (his : bi.segs = [.ints .u8 32 M, .ints .u8 16 C, .one (.int .u32 ((l : Nat) : Int)), .one (.int .i64 1), .one (.ptr iw (0 + 0) 0)]) (Cw : List Int) (top taken : Nat) (bw : Blk) (hw : H[iw]? = some (some bw)) (hws : bw.segs = [.ints .i64 1 [1], .ints .u64 64 Cw, .one (.int .u64 ((top : Nat) : Int)), .one (.int .u64 ((taken : Nat) : Int))]) (id sh len cap : Nat) (B : List Int) (bd : Blk) (hdl : B.length = len) (hdc : len ≤ cap) (hdm : len ≤ 140737488351232) (hd : H[id]? = some (some bd)) (hds : ∀ (i : Nat) (y : SV), atS [.ints .u8 len B] i = some y → atS bd.segs (sh + i) = some y) (h29 : len < 29) : ACall Try.prog 40 H [.s (.ptr ii (0 + 0) 0), .s (.slice id (0 + sh) 0 len cap)] (.tup [.s (.int .u64 0), .s (.nils), .s (.int .i64 5)]) [] := by
  refine acall_gen2 (args0 := [.s (.ptr 0 0 0), .s (.slice 2 0 0 len cap)]) (H0 := [some ⟨false, [.ints .u8 32 M, .ints .u8 16 C, .one (.int .u32 ((l : Nat) : Int)), .one (.int .i64 1), .one (.ptr 1 0 0)]⟩, some ⟨false, [.ints .i64 1 [1], .ints .u64 64 Cw, .one (.int .u64 ((top : Nat) : Int)), .one (.int .u64 ((taken : Nat) : Int))]⟩, some ⟨false, [.ints .u8 len B]⟩]) (Hf := []) (v0 := (.tup [.s (.int .u64 0), .s (.nils), .s (.int .i64 5)])) [(ii, 0), (iw, 0), (id, sh)] [] Try.func40 rfl Try.ntmps40 (by simp) rfl
    (fun k id' sh' b0 h1 h2 => by
      match k, h1, h2 with
      | 0, h1, h2 => simp at h1 h2; obtain ⟨rfl, rfl⟩ := h1; subst h2; exact ⟨rfl, rfl, _, hi, foot_same his⟩
      | 1, h1, h2 => simp at h1 h2; obtain ⟨rfl, rfl⟩ := h1; subst h2; exact ⟨rfl, rfl, _, hw, foot_same hws⟩
      | 2, h1, h2 => simp at h1 h2; obtain ⟨rfl, rfl⟩ := h1; subst h2; exact ⟨rfl, rfl, _, hd, fun i y hy => by (have h := hds i y hy; obtain ⟨_, rfl⟩ := atS_ints1 hy; exact h)⟩
      | k + 3, h1, _ => simp at h1)
    (fun W ρ vals w hH ha k id' sh' hk => by
      match k, hk with
      | 0, hk => simp at hk; obtain ⟨rfl, rfl⟩ := hk; exact ⟨(List.getElem?_eq_some_iff.1 hi).1, live_ptr (i := 0) ha rfl⟩
      | 1, hk => simp at hk; obtain ⟨rfl, rfl⟩ := hk; exact ⟨(List.getElem?_eq_some_iff.1 hw).1, live_in (p := 50) hH (live_ptr (i := 0) ha rfl) hi (by rw [his]; rfl)⟩
      | 2, hk => simp at hk; obtain ⟨rfl, rfl⟩ := hk; exact ⟨(List.getElem?_eq_some_iff.1 hd).1, live_slice (i := 1) ha rfl⟩
      | k + 3, hk => simp at hk)
    rfl rfl rfl (by decide) rfl rfl rfl (fun W w ρ0 hW hdom => ?_)
  refine w_seq ?_
  refine c_reg (by kernel_rfl) rfl ?_
  refine s_p (by first | exact h_assign (v := .s _) rfl | exact h_assign (v := .agg _) rfl | exact h_assign (v := .tup _) rfl) ?_
  refine s_p (by first | exact h_assign (v := .s _) rfl | exact h_assign (v := .agg _) rfl | exact h_assign (v := .tup _) rfl) ?_
  refine s_p (by first | exact h_assign (v := .s _) rfl | exact h_assign (v := .agg _) rfl | exact h_assign (v := .tup _) rfl) ?_
  refine s_nil ?_
  refine n_wp ?_
  refine w_seq ?_
  refine w_seq ?_
  refine c_reg (by kernel_rfl) rfl ?_
  refine s_p (by first | exact h_move (v := .s _) rfl | exact h_move (v := .agg _) rfl | exact h_move (v := .tup _) rfl) ?_
  refine s_p (h_eqn rfl rfl Try.underlying79) ?_
  refine s_p (by first | exact h_move (v := .s _) rfl | exact h_move (v := .agg _) rfl | exact h_move (v := .tup _) rfl) ?_
  first | refine s_on rfl rfl (by first | rfl | assumption) (by first | exact h_move (v := .s _) rfl | exact h_move (v := .agg _) rfl | exact h_move (v := .tup _) rfl) ?_ | refine s_off rfl rfl (by first | rfl | assumption) ?_
  first | refine s_on rfl rfl (by first | rfl | assumption) (h_nilCheck rfl) ?_ | refine s_off rfl rfl (by first | rfl | assumption) ?_
  first | refine s_on rfl rfl (by first | rfl | assumption) (h_field rfl Try.underlying82 rfl Try.sizeOf75 (by decide)) ?_ | refine s_off rfl rfl (by first | rfl | assumption) ?_
  first | refine s_on rfl rfl (by first | rfl | assumption) (h_field rfl Try.underlying75 rfl Try.sizeOf3 (by decide)) ?_ | refine s_off rfl rfl (by first | rfl | assumption) ?_
  first | refine s_on rfl rfl (by first | rfl | assumption) (by first | exact h_load_ints rfl rfl rfl (by omega) rfl Try.isAgg3 | exact h_load_one rfl rfl rfl Try.isAgg3) ?_ | refine s_off rfl rfl (by first | rfl | assumption) ?_
  first | refine s_on rfl rfl (by first | rfl | assumption) (h_bin rfl rfl (b_eql (decide_eq_false (by decide)))) ?_ | refine s_off rfl rfl (by first | rfl | assumption) ?_
  refine s_p (by first | exact h_pick_t rfl (by first | rfl | assumption) rfl | exact h_pick_f rfl (by first | rfl | assumption) rfl) ?_
  refine s_nil ?_
  refine n_wp ?_
  refine w_cond rfl (fun hc_t17 => ?_) (fun hc_t17 => ?_)
  · exact absurd hc_t17 (by simp)
  refine w_skip ?_
  refine n_wp ?_
  refine w_seq ?_
  refine c_reg (by kernel_rfl) rfl ?_
  refine s_p (by first | exact h_move (v := .s _) rfl | exact h_move (v := .agg _) rfl | exact h_move (v := .tup _) rfl) ?_
  refine s_p (h_call callable_38 rfl (Lane_short _ 2 0 len cap B _ hdl hdc hdm rfl (fun i y hy => by rw [Nat.zero_add i]; exact hy) h29)) ?_
  refine s_p (by first | exact h_move (v := .s _) rfl | exact h_move (v := .agg _) rfl | exact h_move (v := .tup _) rfl) ?_
  refine s_p (h_extract rfl rfl (by simp)) ?_
  refine s_p (h_extract rfl rfl (by simp)) ?_
  refine s_p (by first | exact h_assign (v := .s _) rfl | exact h_assign (v := .agg _) rfl | exact h_assign (v := .tup _) rfl) ?_
  refine s_p (by first | exact h_assign (v := .s _) rfl | exact h_assign (v := .agg _) rfl | exact h_assign (v := .tup _) rfl) ?_
  refine s_nil ?_
  refine n_wp ?_
  refine w_seq ?_
  refine w_block ?_
  refine w_seq ?_
  refine c_reg (by kernel_rfl) rfl ?_
  refine s_p (by first | exact h_move (v := .s _) rfl | exact h_move (v := .agg _) rfl | exact h_move (v := .tup _) rfl) ?_
  refine s_p (h_bin rfl rfl (b_neq (decide_eq_true (by decide)))) ?_
  refine s_p (by first | exact h_assign (v := .s _) rfl | exact h_assign (v := .agg _) rfl | exact h_assign (v := .tup _) rfl) ?_
  refine s_nil ?_
  refine n_wp ?_
  refine w_cond rfl (fun hc_t23 => ?_) (fun hc_t23 => ?_)
  rotate_left
  · exact absurd hc_t23 (by simp)
  refine w_seq ?_
  refine c_reg (by kernel_rfl) rfl ?_
  refine s_p (by first | exact h_move (v := .s _) rfl | exact h_move (v := .agg _) rfl | exact h_move (v := .tup _) rfl) ?_
  refine s_p (by first | exact h_assign (v := .s _) rfl | exact h_assign (v := .agg _) rfl | exact h_assign (v := .tup _) rfl) ?_
  refine s_p (by first | exact h_assign (v := .s _) rfl | exact h_assign (v := .agg _) rfl | exact h_assign (v := .tup _) rfl) ?_
  refine s_p (by first | exact h_assign (v := .s _) rfl | exact h_assign (v := .agg _) rfl | exact h_assign (v := .tup _) rfl) ?_
  refine s_nil ?_
  refine n_wp ?_
  refine w_ret ?_
  refine r_blo ?_
  refine r_thn ?_
  exact doneM (by repeat (first | exact trivial | refine ⟨rfl, ?_⟩)) (ret_tmps3 Try.results40 rfl rfl rfl)
end Go.Proofs.X
