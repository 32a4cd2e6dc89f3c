/- A part of the proofs of this claim: TagW2 (TagW2). No conditions. -/
import Derived.Test.YthlkbpkjmkdilaaGreatTagW1
import Derived.Test.YthlkbpkjmkdilaaGreatPoolW1
set_option linter.unusedVariables false
set_option linter.unusedSimpArgs false
open Go Go.Ab Go.Proofs
namespace Go.Proofs.X
theorem callable_125 : Callable Tryz.prog 125 := ⟨_, Tryz.func125, by kernel_rfl, rfl⟩
theorem callable_46 : Callable Tryz.prog 46 := ⟨_, Tryz.func46, by kernel_rfl, rfl⟩
/-- The sum of a word and one part. -/
def asL (SB : List Int) (n : Nat) (B : List Int) (len : Nat) : List Int := sumL (tk (tk (tk run0 (pbL SB n)) (rr 4 4 1 [1] 1)) (pbL B len)) ((0 + (4 + n) + 4) + (4 + len))
theorem asL_len (SB : List Int) (n : Nat) (B : List Int) (len : Nat) : (asL SB n B len).length = 32 := sumL_len _ _
def I125 (SB : List Int) (n : Nat) (B : List Int) (len cap : Nat) (m : Nat) (T : Tm) (H : Heap) : Prop := (m = 1 ∧ T = [(4, .s (.ptr 2 0 0)), (5, .s (.ptr 4 0 0)), (19, .s (.slice 0 0 0 1 1)), (20, .s (.int .i64 1)), (21, .s (.int .i64 0))] ∧ H = [some ⟨false, [.one (.slice 1 0 0 len cap)]⟩, some ⟨false, [.ints .u8 len B]⟩, some ⟨true, [.ints .u8 32 (List.replicate 32 0)]⟩, none, some ⟨true, [.one (.ptr 9 0 0), .ints .u8 64 (tk (tk run0 (pbL SB n)) (rr 4 4 1 [1] 1)).b, .one (.int .i64 ((tk (tk run0 (pbL SB n)) (rr 4 4 1 [1] 1)).m : Nat)), .one (.int .u64 (((0 + (4 + n) + 4) : Nat) : Int))]⟩, some ⟨false, [.ints .u8 n SB]⟩, some ⟨true, [.ints .u8 (4 + n) (pbL SB n)]⟩, some ⟨true, [.ints .u8 4 (rr 4 4 1 [1] 1)]⟩, some ⟨true, [.one (.slice 6 0 0 (4 + n) (4 + n)), .one (.slice 7 0 0 4 4)]⟩, some ⟨true, [.ints .u32 8 (tk (tk run0 (pbL SB n)) (rr 4 4 1 [1] 1)).s]⟩]) ∨ (m = 0 ∧ T = [(4, .s (.ptr 2 0 0)), (5, .s (.ptr 4 0 0)), (19, .s (.slice 0 0 0 1 1)), (20, .s (.int .i64 1)), (21, .s (.int .i64 1))] ∧ H = [some ⟨false, [.one (.slice 1 0 0 len cap)]⟩, some ⟨false, [.ints .u8 len B]⟩, some ⟨true, [.ints .u8 32 (List.replicate 32 0)]⟩, none, some ⟨true, [.one (.ptr 12 0 0), .ints .u8 64 (tk (tk (tk run0 (pbL SB n)) (rr 4 4 1 [1] 1)) (pbL B len)).b, .one (.int .i64 ((tk (tk (tk run0 (pbL SB n)) (rr 4 4 1 [1] 1)) (pbL B len)).m : Nat)), .one (.int .u64 ((((0 + (4 + n) + 4) + (4 + len)) : Nat) : Int))]⟩, some ⟨false, [.ints .u8 n SB]⟩, some ⟨true, [.ints .u8 (4 + n) (pbL SB n)]⟩, some ⟨true, [.ints .u8 4 (rr 4 4 1 [1] 1)]⟩, some ⟨true, [.one (.slice 6 0 0 (4 + n) (4 + n)), .one (.slice 7 0 0 4 4)]⟩, none, some ⟨true, [.ints .u8 (4 + len) (pbL B len)]⟩, some ⟨true, [.one (.slice 10 0 0 (4 + len) (4 + len))]⟩, some ⟨true, [.ints .u32 8 (tk (tk (tk run0 (pbL SB n)) (rr 4 4 1 [1] 1)) (pbL B len)).s]⟩])
set_option maxRecDepth 100000 in
set_option maxHeartbeats 4000000 in
theorem As_1 (H : Heap) (s : ByteArray) (SB : List Int) (n : Nat) (hSL : s.data.toList.map (fun b => (b.toNat : Int)) = SB) (hSn : s.size = n) (hn0 : 0 < n) (hn1 : n ≤ 1000) (ip : Nat) (bp : Blk) (hp : H[ip]? = some (some bp)) (id sh len cap : Nat) (B : List Int) (bd : Blk) (hdl : B.length = len) (hdc : len ≤ cap) (hdm : len ≤ 140737488351232) (hd : H[id]? = some (some bd)) (hds : ∀ (i : Nat) (y : SV), atS [.ints .u8 len B] i = some y → atS bd.segs (sh + i) = some y) (hps : bp.segs = [.one (.slice id (0 + sh) 0 len cap)]) (h0 : 0 < len) (hm : len ≤ 100000) : ACall Tryz.prog 125 H [.s (.val (.string s)), .s (.slice ip (0 + 0) 0 1 1)] (.agg [.ints .u8 32 (asL SB n B len)]) [] := by
  have hSBl : SB.length = n := by rw [← hSL, ← hSn]; simp
  unfold asL
  refine acall_gen2 (args0 := [.s (.val (.string s)), .s (.slice 0 0 0 1 1)]) (H0 := [some ⟨false, [.one (.slice 1 0 0 len cap)]⟩, some ⟨false, [.ints .u8 len B]⟩]) (Hf := []) (v0 := .agg [.ints .u8 32 (sumL (tk (tk (tk run0 (pbL SB n)) (rr 4 4 1 [1] 1)) (pbL B len)) ((0 + (4 + n) + 4) + (4 + len)))]) [(ip, 0), (id, sh)] [] Tryz.func125 rfl Tryz.ntmps125 (by simp) rfl
    (fun k id' sh' b0 h1 h2 => by
      match k, h1, h2 with
      | 0, h1, h2 => simp at h1 h2; obtain ⟨rfl, rfl⟩ := h1; subst h2; exact ⟨rfl, rfl, _, hp, foot_same hps⟩
      | 1, h1, h2 => simp at h1 h2; obtain ⟨rfl, rfl⟩ := h1; subst h2; exact ⟨rfl, rfl, _, hd, fun i y hy => by (have h := hds i y hy; obtain ⟨_, rfl⟩ := atS_ints1 hy; exact h)⟩
      | k + 2, h1, _ => simp at h1)
    (fun W ρ vals w hH ha k id' sh' hk => by
      match k, hk with
      | 0, hk => simp at hk; obtain ⟨rfl, rfl⟩ := hk; exact ⟨(List.getElem?_eq_some_iff.1 hp).1, live_slice (i := 1) ha rfl⟩
      | 1, hk => simp at hk; obtain ⟨rfl, rfl⟩ := hk; exact ⟨(List.getElem?_eq_some_iff.1 hd).1, live_in_slice (p := 0) hH (live_slice (i := 1) ha rfl) hp (by rw [hps]; rfl)⟩
      | k + 2, hk => simp at hk)
    rfl rfl rfl (by decide) rfl rfl rfl (fun W w ρ0 hW hdom => ?_)
  refine w_seq ?_
  refine c_reg (by kernel_rfl) rfl ?_
  refine s_a (h_alloc (segs := [.ints .u8 32 (List.replicate 32 0)]) Tryz.zeroValue38 (by kernel_rfl) rfl) rfl ?_
  refine s_nil ?_
  refine n_wp ?_
  refine w_seq ?_
  refine c_reg (by kernel_rfl) rfl ?_
  refine s_nb (h_call callable_156 rfl (New_c _)) rfl ?_
  refine s_p (by first | exact h_assign (v := .s _) rfl | exact h_assign (v := .agg _) rfl | exact h_assign (v := .tup _) rfl) ?_
  refine s_nil ?_
  refine n_wp ?_
  refine w_seq ?_
  refine c_reg (by kernel_rfl) rfl ?_
  refine s_p (by first | exact h_move (v := .s _) rfl | exact h_move (v := .agg _) rfl | exact h_move (v := .tup _) rfl) ?_
  refine s_p (by first | exact h_move (v := .s _) rfl | exact h_move (v := .agg _) rfl | exact h_move (v := .tup _) rfl) ?_
  refine s_a (h_strb (s := s) (L := SB) (n := n) rfl Tryz.underlying9 Tryz.underlying49 Tryz.underlying5 hSL hSn rfl) rfl ?_
  refine s_a (h_call callable_222 rfl (acall_slx (pre := [.s .nils]) (post := []) (fun cap2 hl => PutBytes_c _ 5 0 n cap2 SB _ hSBl hl (by omega) rfl (fun i y hy => by rw [Nat.zero_add i]; exact hy) hn0 (by omega)))) rfl ?_
  refine s_p (by first | exact h_move (v := .s _) rfl | exact h_move (v := .agg _) rfl | exact h_move (v := .tup _) rfl) ?_
  refine s_p (by first | exact h_len rfl Tryz.underlying289 | exact h_len_nil rfl Tryz.underlying289 | exact h_len_slx rfl Tryz.underlying289 | exact h_len_val rfl Tryz.underlying289) ?_
  refine s_p (h_conv (r := 1) rfl Tryz.underlying3 Tryz.underlying32 (by decide)) ?_
  refine s_a (h_call callable_112 rfl (Put_n _ 4 1 (by omega))) rfl ?_
  refine s_a (h_bsls2 rfl rfl (by simp) (by simp) Tryz.underlying289 Tryz.sizeOf49 Tryz.zeroValue49 rfl rfl) rfl ?_
  refine s_m (m_call callable_221 rfl (takes2 _ 4 8 3 run0 0 _ _ _ _ _ _ _ run0_ok (by omega) rfl rfl rfl 6 0 _ (pbL_len SB n) (Nat.le_refl _) (by omega) rfl (fun i y hy => by rw [Nat.zero_add i]; exact hy) 7 0 _ (rr_len _ _ _ _ _) (Nat.le_refl _) (by omega) rfl (fun i y hy => by rw [Nat.zero_add i]; exact hy) rfl (by decide) (by decide) (by decide) (by decide) (by decide) (by decide) (by decide))) ?_
  refine s_heap (H' := [some ⟨false, [.one (.slice 1 0 0 len cap)]⟩, some ⟨false, [.ints .u8 len B]⟩, some ⟨true, [.ints .u8 32 (List.replicate 32 0)]⟩, none, some ⟨true, [.one (.ptr 9 0 0), .ints .u8 64 (tk (tk run0 (pbL SB n)) (rr 4 4 1 [1] 1)).b, .one (.int .i64 ((tk (tk run0 (pbL SB n)) (rr 4 4 1 [1] 1)).m : Nat)), .one (.int .u64 (((0 + (4 + n) + 4) : Nat) : Int))]⟩, some ⟨false, [.ints .u8 n SB]⟩, some ⟨true, [.ints .u8 (4 + n) (pbL SB n)]⟩, some ⟨true, [.ints .u8 4 (rr 4 4 1 [1] 1)]⟩, some ⟨true, [.one (.slice 6 0 0 (4 + n) (4 + n)), .one (.slice 7 0 0 4 4)]⟩, some ⟨true, [.ints .u32 8 (tk (tk run0 (pbL SB n)) (rr 4 4 1 [1] 1)).s]⟩]) (by kernel_rfl) ?_
  refine s_nil ?_
  refine n_wp ?_
  refine w_seq ?_
  refine w_seq ?_
  refine c_reg (by kernel_rfl) rfl ?_
  refine s_p (by first | exact h_move (v := .s _) rfl | exact h_move (v := .agg _) rfl | exact h_move (v := .tup _) rfl) ?_
  refine s_p (by first | exact h_len rfl Tryz.underlying289 | exact h_len_nil rfl Tryz.underlying289 | exact h_len_slx rfl Tryz.underlying289 | exact h_len_val rfl Tryz.underlying289) ?_
  refine s_p (by first | exact h_move (v := .s _) rfl | exact h_move (v := .agg _) rfl | exact h_move (v := .tup _) rfl) ?_
  refine s_nil ?_
  refine n_wp ?_
  refine w_block ?_
  refine c_loop (I125 SB n B len cap) 1 (.inl ⟨rfl, rfl, rfl⟩) (weak' (by repeat (first | exact trivial | refine ⟨rfl, ?_⟩)) rfl rfl (Nat.le_of_ble_eq_true rfl)) ?_
  rintro n T H hI
  rcases hI with ⟨rfl, rfl, rfl⟩ | ⟨rfl, rfl, rfl⟩
  · skip
    refine w_seq ?_
    refine c_reg (by kernel_rfl) rfl ?_
    refine s_p (h_bin rfl rfl (b_lss rfl)) ?_
    refine s_nil ?_
    refine n_wp ?_
    refine w_seq ?_
    refine w_cond rfl (fun hc_t22 => ?_) (fun hc_t22 => ?_)
    rotate_left
    · exact absurd hc_t22 (by simp)
    refine w_skip ?_
    refine n_wp ?_
    refine w_seq ?_
    refine w_block ?_
    refine w_seq ?_
    refine c_reg (by kernel_rfl) rfl ?_
    refine s_p (h_ixs0l 0 rfl rfl rfl Tryz.underlying289 Tryz.sizeOf49 (by omega)) ?_
    refine s_p (by first | exact h_load_one rfl rfl rfl Tryz.isAgg49 | exact h_load rfl rfl rfl Tryz.isAgg49) ?_
    refine s_p (by first | exact h_assign (v := .s _) rfl | exact h_assign (v := .agg _) rfl | exact h_assign (v := .tup _) rfl) ?_
    refine s_nil ?_
    refine n_wp ?_
    refine c_reg (by kernel_rfl) rfl ?_
    refine s_p (by first | exact h_move (v := .s _) rfl | exact h_move (v := .agg _) rfl | exact h_move (v := .tup _) rfl) ?_
    refine s_p (by first | exact h_move (v := .s _) rfl | exact h_move (v := .agg _) rfl | exact h_move (v := .tup _) rfl) ?_
    refine s_a (h_call callable_222 rfl (PutBytes_c _ 1 0 len cap B _ hdl hdc hdm rfl (fun i y hy => by rw [Nat.zero_add i]; exact hy) h0 hm)) rfl ?_
    refine s_a (h_bsls1 rfl (by simp) Tryz.underlying289 Tryz.sizeOf49 Tryz.zeroValue49 rfl rfl) rfl ?_
    refine s_m (m_call callable_221 rfl (takes_c _ 4 11 10 9 0 (tk (tk run0 (pbL SB n)) (rr 4 4 1 [1] 1)) (0 + (4 + n) + 4) (pbL B len) (4 + len) (4 + len) _ _ (tk_ok (tk_ok run0_ok _) _) (pbL_len _ _) (Nat.le_refl _) (by omega) (by omega) rfl rfl rfl rfl (fun i y hy => by rw [Nat.zero_add i]; exact hy) rfl (by decide) (by decide) (by decide) (by decide) (by decide))) ?_
    refine s_heap (H' := [some ⟨false, [.one (.slice 1 0 0 len cap)]⟩, some ⟨false, [.ints .u8 len B]⟩, some ⟨true, [.ints .u8 32 (List.replicate 32 0)]⟩, none, some ⟨true, [.one (.ptr 12 0 0), .ints .u8 64 (tk (tk (tk run0 (pbL SB n)) (rr 4 4 1 [1] 1)) (pbL B len)).b, .one (.int .i64 ((tk (tk (tk run0 (pbL SB n)) (rr 4 4 1 [1] 1)) (pbL B len)).m : Nat)), .one (.int .u64 ((((0 + (4 + n) + 4) + (4 + len)) : Nat) : Int))]⟩, some ⟨false, [.ints .u8 n SB]⟩, some ⟨true, [.ints .u8 (4 + n) (pbL SB n)]⟩, some ⟨true, [.ints .u8 4 (rr 4 4 1 [1] 1)]⟩, some ⟨true, [.one (.slice 6 0 0 (4 + n) (4 + n)), .one (.slice 7 0 0 4 4)]⟩, none, some ⟨true, [.ints .u8 (4 + len) (pbL B len)]⟩, some ⟨true, [.one (.slice 10 0 0 (4 + len) (4 + len))]⟩, some ⟨true, [.ints .u32 8 (tk (tk (tk run0 (pbL SB n)) (rr 4 4 1 [1] 1)) (pbL B len)).s]⟩]) (by kernel_rfl) ?_
    refine s_nil ?_
    refine n_blo ?_
    refine n_wp ?_
    refine c_reg (by kernel_rfl) rfl ?_
    refine s_p (by first | exact h_bin rfl rfl (b_add (Go.IntWalk.i64_in _ (by omega))) | exact h_bin rfl rfl (b_add rfl)) ?_
    refine s_p (by first | exact h_move (v := .s _) rfl | exact h_move (v := .agg _) rfl | exact h_move (v := .tup _) rfl) ?_
    refine s_nil ?_
    exact n_round 0 (by omega) (.inr ⟨rfl, rfl, rfl⟩) (weak' (by repeat (first | exact trivial | refine ⟨rfl, ?_⟩)) rfl rfl (Nat.le_of_ble_eq_true rfl))
  · skip
    refine w_seq ?_
    refine c_reg (by kernel_rfl) rfl ?_
    refine s_p (h_bin rfl rfl (b_lss rfl)) ?_
    refine s_nil ?_
    refine n_wp ?_
    refine w_seq ?_
    refine w_cond rfl (fun hc_t22 => ?_) (fun hc_t22 => ?_)
    · exact absurd hc_t22 (by simp)
    refine w_exit ?_
    refine x_thn ?_
    refine x_thn ?_
    refine x_eq ?_
    refine n_wp ?_
    refine w_seq ?_
    refine c_reg (by kernel_rfl) rfl ?_
    refine s_p (by first | exact h_move (v := .s _) rfl | exact h_move (v := .agg _) rfl | exact h_move (v := .tup _) rfl) ?_
    refine s_m (m_call callable_158 rfl (Sum_c _ 4 12 (tk (tk (tk run0 (pbL SB n)) (rr 4 4 1 [1] 1)) (pbL B len)) ((0 + (4 + n) + 4) + (4 + len)) _ (tk_ok (tk_ok (tk_ok run0_ok _) _) _) (by omega) rfl rfl rfl (by decide))) ?_
    refine s_heap (H' := [some ⟨false, [.one (.slice 1 0 0 len cap)]⟩, some ⟨false, [.ints .u8 len B]⟩, some ⟨true, [.ints .u8 32 (List.replicate 32 0)]⟩, none, some ⟨true, [.one (.ptr 12 0 0), .ints .u8 64 (tk (tk (tk run0 (pbL SB n)) (rr 4 4 1 [1] 1)) (pbL B len)).b, .one (.int .i64 ((tk (tk (tk run0 (pbL SB n)) (rr 4 4 1 [1] 1)) (pbL B len)).m : Nat)), .one (.int .u64 ((((0 + (4 + n) + 4) + (4 + len)) : Nat) : Int))]⟩, some ⟨false, [.ints .u8 n SB]⟩, some ⟨true, [.ints .u8 (4 + n) (pbL SB n)]⟩, some ⟨true, [.ints .u8 4 (rr 4 4 1 [1] 1)]⟩, some ⟨true, [.one (.slice 6 0 0 (4 + n) (4 + n)), .one (.slice 7 0 0 4 4)]⟩, none, some ⟨true, [.ints .u8 (4 + len) (pbL B len)]⟩, some ⟨true, [.one (.slice 10 0 0 (4 + len) (4 + len))]⟩, none]) (by kernel_rfl) ?_
    refine s_st (m_store_agg (n := 32) (segs := [.ints .u8 32 (List.replicate 32 0)]) (sub := [.ints .u8 32 (sumL (tk (tk (tk run0 (pbL SB n)) (rr 4 4 1 [1] 1)) (pbL B len)) ((0 + (4 + n) + 4) + (4 + len)))]) (id := 2) (base := 0) (idx := 0) rfl rfl rfl (.whole (Nat.le_of_ble_eq_true rfl) rfl rfl) Tryz.sizeOf38 rfl) ?_
    refine s_nil ?_
    refine n_wp ?_
    refine w_ret ?_
    refine doneM (by repeat (first | exact trivial | refine ⟨rfl, ?_⟩)) ?_
    exact (ret_cell_agg Tryz.results125 rfl rfl (.whole rfl) Tryz.isAgg38 Tryz.sizeOf38)
attribute [irreducible] asL
def tagL (l : List Int) : List Int := spl [32, 1, 0, 33, 0, 0, 0, 0, 0, 0, 0, 0, 0, 0, 0, 0] (((asL [116, 97, 103] 3 (rr 32 8 4 [l.getD 3 0, l.getD 2 0, l.getD 1 0, l.getD 0 0] 4) 32).drop 10).take 12) (0 + 4) 12 16
theorem tagL_len (l : List Int) : (tagL l).length = 16 := spl_len _ _ _ _ _
set_option maxRecDepth 100000 in
set_option maxHeartbeats 4000000 in
theorem tagOf_c (H : Heap) (l : List Int) (hl : l.length = 4) : ACall Tryz.prog 46 H [.agg [.ints .u64 4 l]] (.agg [.ints .u8 16 (tagL l)]) [] := by
  refine acall_free Tryz.func46 rfl Tryz.ntmps46 (by simp) rfl rfl (fun W w hW => ?_) H
  refine w_seq ?_
  refine c_reg (by kernel_rfl) rfl ?_
  refine s_a (by first | exact h_box_agg rfl rfl | exact h_box rfl (by simp) rfl) rfl ?_
  refine s_a (h_alloc (segs := [.ints .u8 16 (List.replicate 16 0)]) Tryz.zeroValue24 (by kernel_rfl) rfl) rfl ?_
  refine s_nil ?_
  refine n_wp ?_
  refine w_seq ?_
  refine c_reg (by kernel_rfl) rfl ?_
  refine s_p (by first | exact h_load_agg rfl rfl (.whole rfl) Tryz.isAgg34 Tryz.sizeOf34 | exact h_load_agg rfl rfl (.seg rfl rfl) Tryz.isAgg34 Tryz.sizeOf34 | exact h_load_agg rfl rfl (.ints rfl (by omega)) Tryz.isAgg34 Tryz.sizeOf34) ?_
  refine s_a (h_call callable_126 rfl (PutLong_n _ l hl)) rfl ?_
  refine s_a (h_bsls1 rfl (by simp) Tryz.underlying289 Tryz.sizeOf49 Tryz.zeroValue49 rfl rfl) rfl ?_
  refine s_p (h_call callable_125 rfl (As_1 _ _ [116, 97, 103] 3 rfl rfl (by omega) (by omega) 3 _ rfl 2 0 32 32 _ _ (rr_len _ _ _ _ _) (Nat.le_refl _) (by omega) rfl (fun i y hy => by rw [Nat.zero_add i]; exact hy) rfl (by omega) (by omega))) ?_
  refine s_a (h_alloc (segs := [.ints .u8 32 (List.replicate 32 0)]) Tryz.zeroValue38 (by kernel_rfl) rfl) rfl ?_
  refine s_st (by first | exact m_store_agg rfl rfl rfl (.whole (Nat.le_of_ble_eq_true rfl) rfl rfl) Tryz.sizeOf38 rfl | exact m_store_agg rfl rfl rfl (.seg (Nat.le_of_ble_eq_true rfl) rfl rfl rfl) Tryz.sizeOf38 rfl | exact m_store_agg rfl rfl rfl (.ints (Nat.le_of_ble_eq_true rfl) rfl (by omega)) Tryz.sizeOf38 rfl) ?_
  refine s_nil ?_
  refine n_wp ?_
  refine w_seq ?_
  refine c_reg (by kernel_rfl) rfl ?_
  refine s_p (h_build_ints (n := 16) (l := [(0, 32), (1, 1), (2, 0), (3, 33)]) (xs := [32, 1, 0, 33, 0, 0, 0, 0, 0, 0, 0, 0, 0, 0, 0, 0]) rfl (fun w => by kernel_rfl) rfl) ?_
  refine s_a (h_alloc (segs := [.ints .u8 16 (List.replicate 16 0)]) Tryz.zeroValue24 (by kernel_rfl) rfl) rfl ?_
  refine s_st (by first | exact m_store_agg rfl rfl rfl (.whole (Nat.le_of_ble_eq_true rfl) rfl rfl) Tryz.sizeOf24 rfl | exact m_store_agg rfl rfl rfl (.seg (Nat.le_of_ble_eq_true rfl) rfl rfl rfl) Tryz.sizeOf24 rfl | exact m_store_agg rfl rfl rfl (.ints (Nat.le_of_ble_eq_true rfl) rfl (by omega)) Tryz.sizeOf24 rfl) ?_
  refine s_nil ?_
  refine n_wp ?_
  refine w_seq ?_
  refine c_any 2 mix (by kernel_rfl) (by kernel_rfl) rfl rfl rfl ?_
  refine t_p (h_asl_l (l := 4) rfl rfl rfl Tryz.underlying24 Tryz.sizeOf5 (by omega)) ?_
  refine t_p (h_asl_l (l := 10) rfl rfl rfl Tryz.underlying38 Tryz.sizeOf5 (by omega)) ?_
  refine t_nil ?_
  refine s_m (m_copy (n := 12) (m2 := 32) (ys := asL [116, 97, 103] 3 (rr 32 8 4 [l.getD 3 0, l.getD 2 0, l.getD 1 0, l.getD 0 0] 4) 32) rfl rfl rfl rfl rfl (asL_len _ _ _ _) (by omega) rfl Tryz.underlying49 Tryz.sizeOf5 (.ints (by omega) rfl (by omega))) ?_
  refine s_nil ?_
  refine n_wp ?_
  refine w_seq ?_
  refine c_reg (by kernel_rfl) rfl ?_
  refine s_p (by first | exact h_load_agg rfl rfl (.whole rfl) Tryz.isAgg24 Tryz.sizeOf24 | exact h_load_agg rfl rfl (.seg rfl rfl) Tryz.isAgg24 Tryz.sizeOf24 | exact h_load_agg rfl rfl (.ints rfl (by omega)) Tryz.isAgg24 Tryz.sizeOf24) ?_
  refine s_st (by first | exact m_store_agg rfl rfl rfl (.whole (Nat.le_of_ble_eq_true rfl) rfl rfl) Tryz.sizeOf24 rfl | exact m_store_agg rfl rfl rfl (.seg (Nat.le_of_ble_eq_true rfl) rfl rfl rfl) Tryz.sizeOf24 rfl | exact m_store_agg rfl rfl rfl (.ints (Nat.le_of_ble_eq_true rfl) rfl (by omega)) Tryz.sizeOf24 rfl) ?_
  refine s_nil ?_
  refine n_wp ?_
  refine w_ret ?_
  exact ⟨.inl rfl, ret_cell_agg Tryz.results46 rfl rfl (.whole rfl) Tryz.isAgg24 Tryz.sizeOf24⟩

end Go.Proofs.X
