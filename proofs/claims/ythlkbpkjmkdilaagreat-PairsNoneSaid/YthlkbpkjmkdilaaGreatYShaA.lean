/- A part of the proofs of this claim: YShaA (YShaW1, YShaW2, YShaW3, YShaW4, YShaT2). No conditions. -/
import Derived.Test.YthlkbpkjmkdilaaGreatSpecA
import Derived.Test.YthlkbpkjmkdilaaGreatProg
import Derived.KernelRfl
import Derived.Test.YthlkbpkjmkdilaaGreatAbC
set_option linter.unusedVariables false
set_option linter.unusedSimpArgs false
section
open Go Go.Ab Go.Proofs
namespace Go.Proofs.X
theorem mix : Tryz.prog.follows .mixedOrders = true := by kernel_rfl
theorem callable_344 : Callable Tryz.prog 344 := ⟨_, Tryz.func344, by kernel_rfl, rfl⟩
theorem callable_314 : Callable Tryz.prog 314 := ⟨_, Tryz.func314, by kernel_rfl, rfl⟩
theorem callable_313 : Callable Tryz.prog 313 := ⟨_, Tryz.func313, by kernel_rfl, rfl⟩
theorem callable_196 : Callable Tryz.prog 196 := ⟨_, Tryz.func196, by kernel_rfl, rfl⟩
theorem callable_312 : Callable Tryz.prog 312 := ⟨_, Tryz.func312, by kernel_rfl, rfl⟩
theorem callable_343 : Callable Tryz.prog 343 := ⟨_, Tryz.func343, by kernel_rfl, rfl⟩
theorem callable_273 : Callable Tryz.prog 273 := ⟨_, Tryz.func273, by kernel_rfl, rfl⟩
set_option maxRecDepth 100000 in
set_option maxHeartbeats 2000000 in
theorem rot_c (x k : Int) (H : Heap) : ACall Tryz.prog 344 H [.s (.int .u32 x), .s (.int .i64 k)] (.s (.int .u32 (rotI x k))) [] := by
  refine acall_free Tryz.func344 rfl Tryz.ntmps344 (by simp) rfl rfl (fun W w hW => ?_) H
  refine w_seq ?_
  refine c_reg (by kernel_rfl) rfl ?_
  refine s_p (by first | exact h_assign (v := .s _) rfl | exact h_assign (v := .agg _) rfl | exact h_assign (v := .tup _) rfl) ?_
  refine s_nil ?_
  refine n_wp ?_
  refine w_seq ?_
  refine c_reg (by kernel_rfl) rfl ?_
  refine s_p (by first | exact h_move (v := .s _) rfl | exact h_move (v := .agg _) rfl | exact h_move (v := .tup _) rfl) ?_
  refine s_p (by first | exact h_conv rfl Tryz.underlying3 Tryz.underlying355 (Go.IntWalk.i64_in _ (by omega)) | exact h_conv rfl Tryz.underlying3 Tryz.underlying355 (wrap_u8 (by omega) (by omega)) | exact h_conv rfl Tryz.underlying3 Tryz.underlying355 rfl) ?_
  refine s_p (h_bin rfl rfl (b_and rfl)) ?_
  refine s_p (by first | exact h_assign (v := .s _) rfl | exact h_assign (v := .agg _) rfl | exact h_assign (v := .tup _) rfl) ?_
  refine s_nil ?_
  refine n_wp ?_
  refine w_seq ?_
  refine c_reg (by kernel_rfl) rfl ?_
  refine s_p (by first | exact h_move (v := .s _) rfl | exact h_move (v := .agg _) rfl | exact h_move (v := .tup _) rfl) ?_
  refine s_p (by first | exact h_move (v := .s _) rfl | exact h_move (v := .agg _) rfl | exact h_move (v := .tup _) rfl) ?_
  refine s_p (h_bin rfl rfl (b_shl (rs_nonneg k) rfl)) ?_
  refine s_p (by first | exact h_move (v := .s _) rfl | exact h_move (v := .agg _) rfl | exact h_move (v := .tup _) rfl) ?_
  refine s_p (by first | exact h_move (v := .s _) rfl | exact h_move (v := .agg _) rfl | exact h_move (v := .tup _) rfl) ?_
  refine s_p (h_bin rfl rfl (b_sub rfl)) ?_
  refine s_p (h_bin rfl rfl (b_shr (wrap_u64_nonneg _) rfl)) ?_
  refine s_p (h_bin rfl rfl (b_or rfl)) ?_
  refine s_p (by first | exact h_assign (v := .s _) rfl | exact h_assign (v := .agg _) rfl | exact h_assign (v := .tup _) rfl) ?_
  refine s_nil ?_
  refine n_wp ?_
  refine w_ret ?_
  exact ⟨.inl rfl, ret_tmp Tryz.results344 rfl⟩


def I82 (x : Int) (B : List Int) (len cap : Nat) (n : Nat) (T : Tm) (H : Heap) : Prop := ∃ i : Nat, i ≤ len ∧ n = len - i ∧
  T = [(0, .s (.int .u32 x)), (5, .s (.int .u32 (dnI x B i))), (8, .s (.slice 0 0 0 len cap)), (9, .s (.int .i64 len)), (10, .s (.int .i64 i))] ∧ H = [some ⟨false, [.ints .i64 len B]⟩]
set_option maxRecDepth 100000 in
set_option maxHeartbeats 2000000 in
theorem down_c (x : Int) (B : List Int) (len cap : Nat) (H : Heap) (id base idx n : Nat) (bk : Blk) (l0 : List Int) (hid : H[id]? = some (some bk)) (hs0 : segAt bk.segs base = some (.ints .i64 n l0)) (hn0 : idx + len ≤ n) (hB : B = (l0.drop idx).take len) (hm : len ≤ 140737488351232)  : ACall Tryz.prog 314 H [.s (.int .u32 x), .s (.slice id base idx len cap)] (.s (.int .u32 (dnI x B len))) [] := by
  refine acall_gen (args0 := [.s (.int .u32 x), .s (.slice 0 0 0 len cap)]) (H0 := [some ⟨false, [.ints .i64 len B]⟩]) (vf := (fun _ => .s (.int .u32 (dnI x B len)))) [(id, base + idx)] Tryz.func314 rfl Tryz.ntmps314 (by simp) rfl (foot1 rfl hid (fun i x h => by subst hB; exact win_ints hs0 hn0 i x h) rfl) rfl (fun i x0 x h0 h1 ρ u hr => by match i, h0, h1 with | 0, h0, h1 => (simp at h0 h1; subst h0; subst h1; exact arg_free rfl hr) | 1, h0, h1 => (simp at h0 h1; subst h0; subst h1; exact arg_slice (by rfl) hr) | i + 2, h0, _ => simp at h0) rfl (ren_free rfl) (fun W w ρ0 hW hdom => ?_)
  refine w_seq ?_
  refine c_reg (by kernel_rfl) rfl ?_
  refine s_p (by first | exact h_assign (v := .s _) rfl | exact h_assign (v := .agg _) rfl | exact h_assign (v := .tup _) rfl) ?_
  refine s_nil ?_
  refine n_wp ?_
  refine w_seq ?_
  refine c_reg (by kernel_rfl) rfl ?_
  refine s_p (by first | exact h_assign (v := .s _) rfl | exact h_assign (v := .agg _) rfl | exact h_assign (v := .tup _) rfl) ?_
  refine s_nil ?_
  refine n_wp ?_
  refine w_seq ?_
  refine w_seq ?_
  refine c_reg (by kernel_rfl) rfl ?_
  refine s_p (by first | exact h_move (v := .s _) rfl | exact h_move (v := .agg _) rfl | exact h_move (v := .tup _) rfl) ?_
  refine s_p (by first | exact h_len rfl Tryz.underlying518 | exact h_len_nil rfl Tryz.underlying518 | exact h_len_val rfl Tryz.underlying518) ?_
  refine s_p (by first | exact h_move (v := .s _) rfl | exact h_move (v := .agg _) rfl | exact h_move (v := .tup _) rfl) ?_
  refine s_nil ?_
  refine n_wp ?_
  refine w_block ?_
  refine c_loop (I82 x B len cap) len ⟨0, by omega, rfl, by rw [dnI_0], rfl⟩ (weak' (by repeat (first | exact trivial | refine ⟨rfl, ?_⟩)) rfl rfl (Nat.le_of_ble_eq_true rfl)) ?_
  rintro n T H ⟨i, hi, rfl, rfl, rfl⟩
  refine w_seq ?_
  refine c_reg (by kernel_rfl) rfl ?_
  refine s_p (h_bin rfl rfl (b_lss rfl)) ?_
  refine s_nil ?_
  refine n_wp ?_
  refine w_seq ?_
  refine w_cond rfl (fun hc_t11 => ?_) (fun hc_t11 => ?_)
  · skip
    have hlt : i < len := by have := of_decide_eq_true hc_t11; omega
    refine w_skip ?_
    refine n_wp ?_
    refine w_seq ?_
    refine w_block ?_
    refine w_seq ?_
    refine c_reg (by kernel_rfl) rfl ?_
    refine s_p (by first | exact h_ixs0 rfl rfl Tryz.underlying518 Tryz.sizeOf3 (by omega) | exact h_ixs rfl rfl Tryz.underlying518 Tryz.sizeOf3 (by omega) | exact h_ixsx rfl rfl Tryz.underlying518 Tryz.sizeOf3 (by omega)) ?_
    refine s_p (by first | exact h_load_ints rfl rfl rfl (by omega) rfl Tryz.isAgg3 | exact h_load_one rfl rfl rfl Tryz.isAgg3) ?_
    refine s_p (by first | exact h_assign (v := .s _) rfl | exact h_assign (v := .agg _) rfl | exact h_assign (v := .tup _) rfl) ?_
    refine s_nil ?_
    refine n_wp ?_
    refine c_reg (by kernel_rfl) rfl ?_
    refine s_p (by first | exact h_move (v := .s _) rfl | exact h_move (v := .agg _) rfl | exact h_move (v := .tup _) rfl) ?_
    refine s_p (by first | exact h_move (v := .s _) rfl | exact h_move (v := .agg _) rfl | exact h_move (v := .tup _) rfl) ?_
    refine s_p (by first | exact h_move (v := .s _) rfl | exact h_move (v := .agg _) rfl | exact h_move (v := .tup _) rfl) ?_
    refine s_p (h_neg rfl rfl) ?_
    refine s_p (h_call callable_344 rfl (rot_c _ _ _)) ?_
    refine s_p (h_bin rfl rfl (b_xor rfl)) ?_
    refine s_p (by first | exact h_assign (v := .s _) rfl | exact h_assign (v := .agg _) rfl | exact h_assign (v := .tup _) rfl) ?_
    refine s_nil ?_
    refine n_blo ?_
    refine n_wp ?_
    refine c_reg (by kernel_rfl) rfl ?_
    refine s_p (by first | exact h_bin rfl rfl (b_add (Go.IntWalk.i64_in _ (by omega))) | exact h_bin rfl rfl (b_add rfl)) ?_
    refine s_p (by first | exact h_move (v := .s _) rfl | exact h_move (v := .agg _) rfl | exact h_move (v := .tup _) rfl) ?_
    refine s_nil ?_
    exact n_round (len - (i + 1)) (by omega) ⟨i + 1, by omega, rfl, by rw [dnI_s], rfl⟩ (weak' (by repeat (first | exact trivial | refine ⟨rfl, ?_⟩)) rfl rfl (Nat.le_of_ble_eq_true rfl))
  · skip
    obtain rfl : i = len := by have := of_decide_eq_false hc_t11; omega
    refine w_exit ?_
    refine x_thn ?_
    refine x_thn ?_
    refine x_eq ?_
    refine n_wp ?_
    refine w_seq ?_
    refine c_reg (by kernel_rfl) rfl ?_
    refine s_p (by first | exact h_move (v := .s _) rfl | exact h_move (v := .agg _) rfl | exact h_move (v := .tup _) rfl) ?_
    refine s_p (by first | exact h_assign (v := .s _) rfl | exact h_assign (v := .agg _) rfl | exact h_assign (v := .tup _) rfl) ?_
    refine s_nil ?_
    refine n_wp ?_
    refine w_ret ?_
    refine done0 ?_
    exact ret_tmp Tryz.results314 rfl

set_option maxRecDepth 100000 in
set_option maxHeartbeats 2000000 in
theorem adds_c (H : Heap) : ACall Tryz.prog 313 H [] (.agg [.ints .u32 64 KS]) [] := by
  refine acall_free Tryz.func313 rfl Tryz.ntmps313 (by simp) rfl rfl (fun W w hW => ?_) H
  refine w_seq ?_
  refine c_reg (by kernel_rfl) rfl ?_
  refine s_a (h_alloc (segs := [.ints .u32 64 (z 64)]) Tryz.zeroValue477 (by kernel_rfl) rfl) rfl ?_
  refine s_nil ?_
  refine n_wp ?_
  refine w_seq ?_
  refine c_reg (by kernel_rfl) rfl ?_
  refine s_p (h_build_ints (n := 64) (l := [(0, 1116352408), (1, 1899447441), (2, 3049323471), (3, 3921009573), (4, 961987163), (5, 1508970993), (6, 2453635748), (7, 2870763221), (8, 3624381080), (9, 310598401), (10, 607225278), (11, 1426881987), (12, 1925078388), (13, 2162078206), (14, 2614888103), (15, 3248222580), (16, 3835390401), (17, 4022224774), (18, 264347078), (19, 604807628), (20, 770255983), (21, 1249150122), (22, 1555081692), (23, 1996064986), (24, 2554220882), (25, 2821834349), (26, 2952996808), (27, 3210313671), (28, 3336571891), (29, 3584528711), (30, 113926993), (31, 338241895), (32, 666307205), (33, 773529912), (34, 1294757372), (35, 1396182291), (36, 1695183700), (37, 1986661051), (38, 2177026350), (39, 2456956037), (40, 2730485921), (41, 2820302411), (42, 3259730800), (43, 3345764771), (44, 3516065817), (45, 3600352804), (46, 4094571909), (47, 275423344), (48, 430227734), (49, 506948616), (50, 659060556), (51, 883997877), (52, 958139571), (53, 1322822218), (54, 1537002063), (55, 1747873779), (56, 1955562222), (57, 2024104815), (58, 2227730452), (59, 2361852424), (60, 2428436474), (61, 2756734187), (62, 3204031479), (63, 3329325298)]) (xs := KS) rfl (fun w => by kernel_rfl) KS_len) ?_
  refine s_st (by first | exact m_store_agg rfl rfl rfl (.whole (Nat.le_of_ble_eq_true rfl) rfl rfl) Tryz.sizeOf477 rfl | exact m_store_agg rfl rfl rfl (.seg (Nat.le_of_ble_eq_true rfl) rfl rfl rfl) Tryz.sizeOf477 rfl | exact m_store_agg rfl rfl rfl (.ints (Nat.le_of_ble_eq_true rfl) rfl (by omega)) Tryz.sizeOf477 rfl) ?_
  refine s_nil ?_
  refine n_wp ?_
  refine w_ret ?_
  exact ⟨.inl rfl, ret_cell_agg Tryz.results313 rfl rfl (.whole rfl) Tryz.isAgg477 Tryz.sizeOf477⟩

def I63 (B v : List Int) (len : Nat) (n : Nat) (T : Tm) (H : Heap) : Prop := ∃ i : Nat, i ≤ 8 ∧ n = 8 - i ∧
  T = [(4, .s (.int .u64 (gI v i))), (6, .s (.ptr 1 0 0)), (23, .s (.int .i64 i))] ∧ H = [some ⟨false, [.ints .u8 len B]⟩, some ⟨true, [.ints .u8 8 v]⟩]
set_option maxRecDepth 100000 in
set_option maxHeartbeats 2000000 in
theorem get_c (B : List Int) (m : Nat) (hm0 : 0 < m) (hm8 : m ≤ 8) (len cap : Nat) (H : Heap) (id base idx n : Nat) (bk : Blk) (l0 : List Int) (hid : H[id]? = some (some bk)) (hs0 : segAt bk.segs base = some (.ints .u8 n l0)) (hn0 : idx + len ≤ n) (hB : B = (l0.drop idx).take len) (hml : m ≤ len) (hm : len ≤ 140737488351232) (hl0 : l0.length = n) : ACall Tryz.prog 196 H [.s (.slice id base idx len cap), .s (.int .i64 m)] (.tup [.s (.int .u64 (getI B m)), .s (.int .i64 0)]) [] := by
  have hBl : B.length = len := by rw [hB]; simp; omega
  refine acall_gen (args0 := [.s (.slice 0 0 0 len cap), .s (.int .i64 m)]) (H0 := [some ⟨false, [.ints .u8 len B]⟩]) (vf := (fun _ => .tup [.s (.int .u64 (getI B m)), .s (.int .i64 0)])) [(id, base + idx)] Tryz.func196 rfl Tryz.ntmps196 (by simp) rfl (foot1 rfl hid (fun i x h => by subst hB; exact win_ints hs0 hn0 i x h) rfl) rfl (fun i x0 x h0 h1 ρ u hr => by match i, h0, h1 with | 0, h0, h1 => (simp at h0 h1; subst h0; subst h1; exact arg_slice (by rfl) hr) | 1, h0, h1 => (simp at h0 h1; subst h0; subst h1; exact arg_free rfl hr) | i + 2, h0, _ => simp at h0) rfl (ren_free rfl) (fun W w ρ0 hW hdom => ?_)
  refine w_seq ?_
  refine c_reg (by kernel_rfl) rfl ?_
  refine s_p (by first | exact h_assign (v := .s _) rfl | exact h_assign (v := .agg _) rfl | exact h_assign (v := .tup _) rfl) ?_
  refine s_p (by first | exact h_assign (v := .s _) rfl | exact h_assign (v := .agg _) rfl | exact h_assign (v := .tup _) rfl) ?_
  refine s_nil ?_
  refine n_wp ?_
  refine w_seq ?_
  refine w_seq ?_
  refine c_reg (by kernel_rfl) rfl ?_
  refine s_p (by first | exact h_move (v := .s _) rfl | exact h_move (v := .agg _) rfl | exact h_move (v := .tup _) rfl) ?_
  refine s_p (h_bin rfl rfl (b_lss (r := false) (decide_eq_false (by omega)))) ?_
  refine s_p (by first | exact h_move (v := .s _) rfl | exact h_move (v := .agg _) rfl | exact h_move (v := .tup _) rfl) ?_
  first | refine s_on rfl rfl (by first | rfl | assumption) (by first | exact h_move (v := .s _) rfl | exact h_move (v := .agg _) rfl | exact h_move (v := .tup _) rfl) ?_ | refine s_off rfl rfl (by first | rfl | assumption) ?_
  first | refine s_on rfl rfl (by first | rfl | assumption) (h_bin rfl rfl (b_gtr (r := false) (decide_eq_false (by omega)))) ?_ | refine s_off rfl rfl (by first | rfl | assumption) ?_
  refine s_p (by first | exact h_pick_t rfl (by first | rfl | assumption) rfl | exact h_pick_f rfl (by first | rfl | assumption) rfl) ?_
  refine s_nil ?_
  refine n_wp ?_
  refine w_cond rfl (fun hc_t13 => ?_) (fun hc_t13 => ?_)
  · exact absurd hc_t13 (by simp at hc_t13)
  refine w_skip ?_
  refine n_wp ?_
  refine w_seq ?_
  refine w_seq ?_
  refine c_reg (by kernel_rfl) rfl ?_
  refine s_p (by first | exact h_move (v := .s _) rfl | exact h_move (v := .agg _) rfl | exact h_move (v := .tup _) rfl) ?_
  refine s_p (by first | exact h_len rfl Tryz.underlying49 | exact h_len_nil rfl Tryz.underlying49 | exact h_len_val rfl Tryz.underlying49) ?_
  refine s_p (by first | exact h_move (v := .s _) rfl | exact h_move (v := .agg _) rfl | exact h_move (v := .tup _) rfl) ?_
  refine s_p (h_bin rfl rfl (b_lss (r := false) (decide_eq_false (by omega)))) ?_
  refine s_nil ?_
  refine n_wp ?_
  refine w_cond rfl (fun hc_t17 => ?_) (fun hc_t17 => ?_)
  · exact absurd hc_t17 (by simp at hc_t17)
  refine w_skip ?_
  refine n_wp ?_
  refine w_seq ?_
  refine c_reg (by kernel_rfl) rfl ?_
  refine s_a (h_alloc (segs := [.ints .u8 8 (z 8)]) Tryz.zeroValue415 (by kernel_rfl) rfl) rfl ?_
  refine s_nil ?_
  refine n_wp ?_
  refine w_seq ?_
  refine c_reg (by kernel_rfl) rfl ?_
  refine s_p (by first | exact h_move (v := .s _) rfl | exact h_move (v := .agg _) rfl | exact h_move (v := .tup _) rfl) ?_
  refine s_p (h_bin rfl rfl (b_sub (r := ((8 - m : Nat) : Int)) (wr_n (by omega) (by omega)))) ?_
  refine s_p (h_asl_l (l := 8 - m) rfl rfl rfl Tryz.underlying415 Tryz.sizeOf5 (by omega)) ?_
  refine s_p (by first | exact h_move (v := .s _) rfl | exact h_move (v := .agg _) rfl | exact h_move (v := .tup _) rfl) ?_
  refine s_m (m_copy (n := m) rfl rfl rfl rfl rfl hBl (by omega) (by omega) Tryz.underlying49 Tryz.sizeOf5 (.ints (by omega) rfl (by omega))) ?_
  refine s_nil ?_
  refine n_wp ?_
  refine w_seq ?_
  refine w_seq ?_
  generalize hv : spl (z 8) ((B.drop 0).take m) (0 + (8 - m)) m 8 = v
  refine c_reg (by kernel_rfl) rfl ?_
  refine s_p (by first | exact h_move (v := .s _) rfl | exact h_move (v := .agg _) rfl | exact h_move (v := .tup _) rfl) ?_
  refine s_nil ?_
  refine n_wp ?_
  refine w_block ?_
  refine c_loop (I63 B v len) 8 ⟨0, by omega, rfl, by rw [gI_0], rfl⟩ (weak' (by repeat (first | exact trivial | refine ⟨rfl, ?_⟩)) rfl rfl (Nat.le_of_ble_eq_true rfl)) ?_
  rintro n T H ⟨i, hi, rfl, rfl, rfl⟩
  refine w_seq ?_
  refine c_reg (by kernel_rfl) rfl ?_
  refine s_p (h_bin rfl rfl (b_lss rfl)) ?_
  refine s_nil ?_
  refine n_wp ?_
  refine w_seq ?_
  refine w_cond rfl (fun hc_t24 => ?_) (fun hc_t24 => ?_)
  · skip
    have hlt : i < 8 := by have := of_decide_eq_true hc_t24; omega
    refine w_skip ?_
    refine n_wp ?_
    refine w_seq ?_
    refine w_block ?_
    refine w_seq ?_
    refine c_reg (by kernel_rfl) rfl ?_
    refine s_p (by first | exact h_move (v := .s _) rfl | exact h_move (v := .agg _) rfl | exact h_move (v := .tup _) rfl) ?_
    refine s_p (by first | exact h_assign (v := .s _) rfl | exact h_assign (v := .agg _) rfl | exact h_assign (v := .tup _) rfl) ?_
    refine s_nil ?_
    refine n_wp ?_
    refine c_reg (by kernel_rfl) rfl ?_
    refine s_p (by first | exact h_move (v := .s _) rfl | exact h_move (v := .agg _) rfl | exact h_move (v := .tup _) rfl) ?_
    refine s_p (h_bin rfl rfl (b_mul rfl)) ?_
    refine s_p (by first | exact h_move (v := .s _) rfl | exact h_move (v := .agg _) rfl | exact h_move (v := .tup _) rfl) ?_
    refine s_p (by first | exact h_ix rfl rfl Tryz.underlying415 Tryz.sizeOf5 (by omega) | exact h_ixa rfl rfl Tryz.underlying415 Tryz.sizeOf5 (by omega) | exact h_ixl (Int.toNat _) rfl rfl (Int.toNat_of_nonneg (by omega)).symm Tryz.underlying415 Tryz.sizeOf5 (by omega)) ?_
    refine s_p (by first | exact h_load_ints rfl rfl rfl (by omega) rfl Tryz.isAgg5 | exact h_load_one rfl rfl rfl Tryz.isAgg5) ?_
    refine s_p (by first | exact h_conv rfl Tryz.underlying5 Tryz.underlying32 (Go.IntWalk.i64_in _ (by omega)) | exact h_conv rfl Tryz.underlying5 Tryz.underlying32 (wrap_u8 (by omega) (by omega)) | exact h_conv rfl Tryz.underlying5 Tryz.underlying32 rfl) ?_
    refine s_p (h_bin rfl rfl (b_add rfl)) ?_
    refine s_p (by first | exact h_assign (v := .s _) rfl | exact h_assign (v := .agg _) rfl | exact h_assign (v := .tup _) rfl) ?_
    refine s_nil ?_
    refine n_blo ?_
    refine n_wp ?_
    refine c_reg (by kernel_rfl) rfl ?_
    refine s_p (by first | exact h_bin rfl rfl (b_add (Go.IntWalk.i64_in _ (by omega))) | exact h_bin rfl rfl (b_add rfl)) ?_
    refine s_p (by first | exact h_move (v := .s _) rfl | exact h_move (v := .agg _) rfl | exact h_move (v := .tup _) rfl) ?_
    refine s_nil ?_
    exact n_round (8 - (i + 1)) (by omega) ⟨i + 1, by omega, rfl, by rw [gI_s], rfl⟩ (weak' (by repeat (first | exact trivial | refine ⟨rfl, ?_⟩)) rfl rfl (Nat.le_of_ble_eq_true rfl))
  · skip
    obtain rfl : i = 8 := by have := of_decide_eq_false hc_t24; omega
    rw [← hv]
    refine w_exit ?_
    refine x_thn ?_
    refine x_thn ?_
    refine x_eq ?_
    refine n_wp ?_
    refine w_seq ?_
    refine c_reg (by kernel_rfl) rfl ?_
    refine s_p (by first | exact h_move (v := .s _) rfl | exact h_move (v := .agg _) rfl | exact h_move (v := .tup _) rfl) ?_
    refine s_p (by first | exact h_assign (v := .s _) rfl | exact h_assign (v := .agg _) rfl | exact h_assign (v := .tup _) rfl) ?_
    refine s_p (by first | exact h_assign (v := .s _) rfl | exact h_assign (v := .agg _) rfl | exact h_assign (v := .tup _) rfl) ?_
    refine s_nil ?_
    refine n_wp ?_
    refine w_ret ?_
    refine done0 ?_
    exact ret_tmps2 Tryz.results196 rfl rfl

end Go.Proofs.X
end

section
open Go Go.Ab Go.Proofs
namespace Go.Proofs.X
set_option maxRecDepth 100000 in
set_option maxHeartbeats 2000000 in
theorem numbers_c (H : Heap) (id sh : Nat) (hid : id < H.length) : ACall Tryz.prog 312 H [.s (.ptr id (0 + sh) 0)] (.s (.clo 343 [(H.length + 1, 0 + 0, 0), (H.length + 2, 0 + 0, 0), (H.length + 0, 0 + 0, 0)])) [⟨true, [.one (.ptr id (0 + sh) 0)]⟩, ⟨true, [.ints .u32 16 (z 16)]⟩, ⟨true, [.one (.int .i64 0)]⟩] := by
  refine acall_gen2 (args0 := [.s (.ptr 0 0 0)]) (H0 := [none]) (Hf := [none, some ⟨true, [.one (.ptr 0 0 0)]⟩, some ⟨true, [.ints .u32 16 (z 16)]⟩, some ⟨true, [.one (.int .i64 0)]⟩]) (v0 := .s (.clo 343 [(2, 0, 0), (3, 0, 0), (1, 0, 0)])) [(id, sh)] [1, 2, 3] Tryz.func312 rfl Tryz.ntmps312 (by simp) rfl
    (fun k id sh b0 h1 h2 => by match k, h1, h2 with | 0, _, h2 => simp at h2 | k + 1, h1, _ => simp at h1)
    (fun W ρ vals w hH ha k id' sh' hk => by match k, hk with | 0, hk => (simp at hk; obtain ⟨rfl, rfl⟩ := hk; exact ⟨hid, live_ptr (i := 0) ha rfl⟩) | k + 1, hk => simp at hk)
    rfl rfl rfl (by decide) rfl rfl rfl (fun W w ρ0 hW hdom => ?_)
  refine w_seq ?_
  refine c_reg (by kernel_rfl) rfl ?_
  refine s_a (by first | exact h_box_agg rfl rfl | exact h_box rfl (by simp) rfl) rfl ?_
  refine s_p (by first | exact h_assign (v := .s _) rfl | exact h_assign (v := .agg _) rfl | exact h_assign (v := .tup _) rfl) ?_
  refine s_nil ?_
  refine n_wp ?_
  refine w_seq ?_
  refine c_reg (by kernel_rfl) rfl ?_
  refine s_a (h_alloc (segs := [.ints .u32 16 (z 16)]) Tryz.zeroValue516 (by kernel_rfl) rfl) rfl ?_
  refine s_nil ?_
  refine n_wp ?_
  refine w_seq ?_
  refine c_reg (by kernel_rfl) rfl ?_
  refine s_a (h_alloc (segs := [.one (.int .i64 0)]) Tryz.zeroValue3 (by kernel_rfl) rfl) rfl ?_
  refine s_st (by first | exact m_store_int rfl rfl rfl rfl (by omega) (by assumption) Tryz.sizeOf3 rfl | exact m_store_one rfl rfl (by simp) rfl rfl Tryz.sizeOf3 rfl) ?_
  refine s_nil ?_
  refine n_wp ?_
  refine w_seq ?_
  refine c_reg (by kernel_rfl) rfl ?_
  refine s_p (h_mkfunc (caps := [(2, 0, 0), (3, 0, 0), (1, 0, 0)]) rfl) ?_
  refine s_p (by first | exact h_assign (v := .s _) rfl | exact h_assign (v := .agg _) rfl | exact h_assign (v := .tup _) rfl) ?_
  refine s_nil ?_
  refine n_wp ?_
  refine w_ret ?_
  exact doneM (by repeat (first | exact trivial | refine ⟨rfl, ?_⟩)) (ret_tmp Tryz.results312 rfl)
set_option maxRecDepth 100000 in
set_option maxHeartbeats 2000000 in
theorem nextn_c (H : Heap) (iw it ib ix sh : Nat) (b w : List Int) (t : Nat) (bb bx : Blk) (hw : H[iw]? = some (some ⟨true, [.ints .u32 16 w]⟩)) (ht : H[it]? = some (some ⟨true, [.one (.int .i64 t)]⟩)) (hbb : H[ib]? = some (some bb)) (hbs : bb.segs = [.one (.ptr ix (0 + sh) 0)]) (hbx : H[ix]? = some (some bx)) (hxs : ∀ (i : Nat) (y : SV), atS [.ints .u8 64 b] i = some y → atS bx.segs (sh + i) = some y)
    (hwl : w.length = 16) (hb : b.length = 64) (htm : t < 1000) (hn1 : iw ≠ it) (hn2 : iw ≠ ib) (hn3 : iw ≠ ix) (hn4 : it ≠ ib) (hn5 : it ≠ ix) : AMut Tryz.prog 343 H [.s (.ptr iw (0 + 0) 0), .s (.ptr it (0 + 0) 0), .s (.ptr ib (0 + 0) 0)] (.s (.int .u32 ((wn b w t).getD (t % 16) 0))) ((H.set iw (some ⟨true, [.ints .u32 16 (wn b w t)]⟩)).set it (some ⟨true, [.one (.int .i64 ((t + 1 : Nat) : Int))]⟩)) := by
  refine amut_gen (args0 := [.s (.ptr 0 0 0), .s (.ptr 1 0 0), .s (.ptr 2 0 0)]) (H0 := [some ⟨true, [.ints .u32 16 w]⟩, some ⟨true, [.one (.int .i64 t)]⟩, some ⟨false, [.one (.ptr 3 0 0)]⟩, some ⟨false, [.ints .u8 64 b]⟩]) (Hf := [some ⟨true, [.ints .u32 16 (wn b w t)]⟩, some ⟨true, [.one (.int .i64 ((t + 1 : Nat) : Int))]⟩]) (v0 := .s (.int .u32 ((wn b w t).getD (t % 16) 0))) [(iw, 0), (it, 0), (ib, 0), (ix, sh)] [] Tryz.func343 rfl Tryz.ntmps343 (by simp) rfl
    (fun k id sh' b0 h1 h2 => by
      match k, h1, h2 with
      | 0, h1, h2 => simp at h1 h2; obtain ⟨rfl, rfl⟩ := h1; subst h2; exact ⟨rfl, _, hw, fun _ => ⟨rfl, rfl⟩, foot_same rfl⟩
      | 1, h1, h2 => simp at h1 h2; obtain ⟨rfl, rfl⟩ := h1; subst h2; exact ⟨rfl, _, ht, fun _ => ⟨rfl, rfl⟩, foot_same rfl⟩
      | 2, h1, h2 => simp at h1 h2; obtain ⟨rfl, rfl⟩ := h1; subst h2; exact ⟨rfl, _, hbb, fun e => (by cases e), foot_same hbs⟩
      | 3, h1, h2 => simp at h1 h2; obtain ⟨rfl, rfl⟩ := h1; subst h2; exact ⟨rfl, _, hbx, fun e => (by cases e), fun i y hy => by (have h := hxs i y hy; obtain ⟨_, rfl⟩ := atS_ints1 hy; exact h)⟩
      | k + 4, h1, _ => simp at h1)
    (fun k k' id s1 s2 b0 h1 h1' hne h2 => by
      match k, k', h1, h1', h2, hne with
      | 0, 0, _, _, _, hne => exact absurd rfl hne
      | 0, 1, h1, h1', _, _ => simp at h1 h1'; exact absurd (h1.1.trans h1'.1.symm) hn1
      | 0, 2, h1, h1', _, _ => simp at h1 h1'; exact absurd (h1.1.trans h1'.1.symm) hn2
      | 0, 3, h1, h1', _, _ => simp at h1 h1'; exact absurd (h1.1.trans h1'.1.symm) hn3
      | 1, 0, h1, h1', _, _ => simp at h1 h1'; exact absurd (h1'.1.trans h1.1.symm) hn1
      | 1, 1, _, _, _, hne => exact absurd rfl hne
      | 1, 2, h1, h1', _, _ => simp at h1 h1'; exact absurd (h1.1.trans h1'.1.symm) hn4
      | 1, 3, h1, h1', _, _ => simp at h1 h1'; exact absurd (h1.1.trans h1'.1.symm) hn5
      | 2, _, _, _, h2, _ => simp at h2; subst h2; rfl
      | 3, _, _, _, h2, _ => simp at h2; subst h2; rfl
      | 0, k + 4, _, h1', _, _ => simp at h1'
      | 1, k + 4, _, h1', _, _ => simp at h1'
      | k + 4, _, h1, _, _, _ => simp at h1)
    (fun W ρ vals w hH ha k id' sh' hk => by
      match k, hk with
      | 0, hk => simp at hk; obtain ⟨rfl, rfl⟩ := hk; exact live_ptr (i := 0) ha rfl
      | 1, hk => simp at hk; obtain ⟨rfl, rfl⟩ := hk; exact live_ptr (i := 1) ha rfl
      | 2, hk => simp at hk; obtain ⟨rfl, rfl⟩ := hk; exact live_ptr (i := 2) ha rfl
      | 3, hk => simp at hk; obtain ⟨rfl, rfl⟩ := hk; exact live_in (p := 0) hH (live_ptr (i := 2) ha rfl) hbb (by rw [hbs]; rfl)
      | k + 4, hk => simp at hk)
    rfl rfl rfl (by decide) rfl rfl (by rw [show newH [(iw, 0), (it, 0), (ib, 0), (ix, sh)] [] H.length _ = [] from rfl, List.append_nil]; rfl) (fun W w' ρ0 hW hdom => ?_)
  refine w_seq ?_
  refine c_reg (by kernel_rfl) rfl ?_
  refine s_p (by first | exact h_assign (v := .s _) rfl | exact h_assign (v := .agg _) rfl | exact h_assign (v := .tup _) rfl) ?_
  refine s_nil ?_
  refine n_wp ?_
  refine w_seq ?_
  refine c_reg (by kernel_rfl) rfl ?_
  refine s_p (by first | exact h_load_ints rfl rfl rfl (by omega) rfl Tryz.isAgg3 | exact h_load_one rfl rfl rfl Tryz.isAgg3) ?_
  refine s_p (h_bin rfl rfl (b_rem (r := ((t % 16 : Nat) : Int)) (by omega) rfl)) ?_
  refine s_p (by first | exact h_ix rfl rfl Tryz.underlying516 Tryz.sizeOf41 (by omega) | exact h_ixa rfl rfl Tryz.underlying516 Tryz.sizeOf41 (by omega) | exact h_ixl (Int.toNat _) rfl rfl (Int.toNat_of_nonneg (by omega)).symm Tryz.underlying516 Tryz.sizeOf41 (by omega)) ?_
  refine s_p (by first | exact h_assign (v := .s _) rfl | exact h_assign (v := .agg _) rfl | exact h_assign (v := .tup _) rfl) ?_
  refine s_nil ?_
  refine n_wp ?_
  refine w_seq ?_
  refine w_seq ?_
  refine c_reg (by kernel_rfl) rfl ?_
  refine s_p (by first | exact h_load_ints rfl rfl rfl (by omega) rfl Tryz.isAgg3 | exact h_load_one rfl rfl rfl Tryz.isAgg3) ?_
  refine s_p (h_bin rfl rfl (b_lss rfl)) ?_
  refine s_nil ?_
  refine n_wp ?_
  refine w_cond rfl (fun hc_t13 => ?_) (fun hc_t13 => ?_)
  · skip
    have hlt : t < 16 := by have := of_decide_eq_true hc_t13; omega
    have hwn := wn_lt b w hlt
    refine w_seq ?_
    refine c_any 11 mix (by kernel_rfl) (by kernel_rfl) rfl rfl rfl ?_
    refine t_p (by first | exact h_load_ints rfl rfl rfl (by omega) rfl Tryz.isAgg430 | exact h_load_one rfl rfl rfl Tryz.isAgg430) ?_
    refine t_p (h_nilCheck rfl) ?_
    refine t_p (h_field rfl Tryz.underlying392 rfl Tryz.sizeOf290 (by decide)) ?_
    refine t_p (by first | exact h_load_ints rfl rfl rfl (by omega) rfl Tryz.isAgg3 | exact h_load_one rfl rfl rfl Tryz.isAgg3) ?_
    refine t_p (h_bin rfl rfl (b_mul (r := ((4 * t : Nat) : Int)) (wr_n (by omega) (by omega)))) ?_
    refine t_p (h_asl_l (l := 4 * t) rfl rfl rfl Tryz.underlying290 Tryz.sizeOf5 (by omega)) ?_
    refine t_p (h_call callable_196 rfl (get_c ((b.drop (0 + 4 * t)).take (64 - 4 * t)) 4 (by omega) (by omega) (64 - 4 * t) (64 - 4 * t) _ 3 0 (0 + 4 * t) 64 _ b rfl rfl (by omega) rfl (by omega) (by omega) hb)) ?_
    refine t_p (by first | exact h_move (v := .s _) rfl | exact h_move (v := .agg _) rfl | exact h_move (v := .tup _) rfl) ?_
    refine t_p (h_extract rfl rfl (by simp)) ?_
    refine t_p (h_extract rfl rfl (by simp)) ?_
    refine t_p (by first | exact h_assign (v := .s _) rfl | exact h_assign (v := .agg _) rfl | exact h_assign (v := .tup _) rfl) ?_
    refine t_nil ?_
    refine s_p (by first | exact h_assign (v := .s _) rfl | exact h_assign (v := .agg _) rfl | exact h_assign (v := .tup _) rfl) ?_
    refine s_nil ?_
    refine n_wp ?_
    refine c_reg (by kernel_rfl) rfl ?_
    refine s_p (by first | exact h_move (v := .s _) rfl | exact h_move (v := .agg _) rfl | exact h_move (v := .tup _) rfl) ?_
    refine s_p (by first | exact h_move (v := .s _) rfl | exact h_move (v := .agg _) rfl | exact h_move (v := .tup _) rfl) ?_
    refine s_p (by first | exact h_conv rfl Tryz.underlying32 Tryz.underlying41 (Go.IntWalk.i64_in _ (by omega)) | exact h_conv rfl Tryz.underlying32 Tryz.underlying41 (wrap_u8 (by omega) (by omega)) | exact h_conv rfl Tryz.underlying32 Tryz.underlying41 rfl) ?_
    refine s_p (h_nilCheck rfl) ?_
    refine s_st (by first | exact m_store_int rfl rfl rfl rfl (by omega) (by (first | assumption | (simp only [List.length_set]; assumption))) Tryz.sizeOf41 rfl | exact m_store_one rfl rfl (by simp) rfl rfl Tryz.sizeOf41 rfl) ?_
    refine s_nil ?_
    refine n_wp ?_
    refine w_seq ?_
    refine c_reg (by kernel_rfl) rfl ?_
    refine s_p (by first | exact h_load_ints rfl rfl rfl (by omega) rfl Tryz.isAgg3 | exact h_load_one rfl rfl rfl Tryz.isAgg3) ?_
    refine s_p (h_bin rfl rfl (b_add (r := ((t + 1 : Nat) : Int)) (wr_n (by omega) (by omega)))) ?_
    refine s_st (by first | exact m_store_int rfl rfl rfl rfl (by omega) (by (first | assumption | (simp only [List.length_set]; assumption))) Tryz.sizeOf3 rfl | exact m_store_one rfl rfl (by simp) rfl rfl Tryz.sizeOf3 rfl) ?_
    refine s_nil ?_
    refine n_wp ?_
    refine w_seq ?_
    refine c_reg (by kernel_rfl) rfl ?_
    refine s_p (by first | exact h_move (v := .s _) rfl | exact h_move (v := .agg _) rfl | exact h_move (v := .tup _) rfl) ?_
    refine s_p (h_nilCheck rfl) ?_
    refine s_p (by first | exact h_load_ints rfl rfl rfl (by omega) rfl Tryz.isAgg41 | exact h_load_one rfl rfl rfl Tryz.isAgg41) ?_
    refine s_p (by first | exact h_assign (v := .s _) rfl | exact h_assign (v := .agg _) rfl | exact h_assign (v := .tup _) rfl) ?_
    refine s_nil ?_
    refine n_wp ?_
    refine w_ret ?_
    rw [hwn]
    exact doneM (by repeat (first | exact trivial | refine ⟨rfl, ?_⟩)) (ret_tmp Tryz.results343 rfl)
  · skip
    have hge : ¬ t < 16 := by have := of_decide_eq_false hc_t13; omega
    have hwn := wn_ge b w hge
    unfold wn3 wn2 wn1 at hwn
    refine w_seq ?_
    refine c_any 11 mix (by kernel_rfl) (by kernel_rfl) rfl rfl rfl ?_
    refine t_p (by first | exact h_load_ints rfl rfl rfl (by omega) rfl Tryz.isAgg3 | exact h_load_one rfl rfl rfl Tryz.isAgg3) ?_
    refine t_p (h_bin rfl rfl (b_add (r := ((t + 1 : Nat) : Int)) (wr_n (by omega) (by omega)))) ?_
    refine t_p (h_bin rfl rfl (b_rem (r := (((t + 1) % 16 : Nat) : Int)) (by omega) rfl)) ?_
    refine t_p (by first | exact h_ix rfl rfl Tryz.underlying516 Tryz.sizeOf41 (by omega) | exact h_ixa rfl rfl Tryz.underlying516 Tryz.sizeOf41 (by omega) | exact h_ixl (Int.toNat _) rfl rfl (Int.toNat_of_nonneg (by omega)).symm Tryz.underlying516 Tryz.sizeOf41 (by omega)) ?_
    refine t_p (by first | exact h_load_ints rfl rfl rfl (by omega) rfl Tryz.isAgg41 | exact h_load_one rfl rfl rfl Tryz.isAgg41) ?_
    refine t_p (by first | exact h_load_ints rfl rfl rfl (by omega) rfl Tryz.isAgg3 | exact h_load_one rfl rfl rfl Tryz.isAgg3) ?_
    refine t_p (h_bin rfl rfl (b_add (r := ((t + 14 : Nat) : Int)) (wr_n (by omega) (by omega)))) ?_
    refine t_p (h_bin rfl rfl (b_rem (r := (((t + 14) % 16 : Nat) : Int)) (by omega) rfl)) ?_
    refine t_p (by first | exact h_ix rfl rfl Tryz.underlying516 Tryz.sizeOf41 (by omega) | exact h_ixa rfl rfl Tryz.underlying516 Tryz.sizeOf41 (by omega) | exact h_ixl (Int.toNat _) rfl rfl (Int.toNat_of_nonneg (by omega)).symm Tryz.underlying516 Tryz.sizeOf41 (by omega)) ?_
    refine t_p (by first | exact h_load_ints rfl rfl rfl (by omega) rfl Tryz.isAgg41 | exact h_load_one rfl rfl rfl Tryz.isAgg41) ?_
    refine t_p (by first | exact h_assign (v := .s _) rfl | exact h_assign (v := .agg _) rfl | exact h_assign (v := .tup _) rfl) ?_
    refine t_nil ?_
    refine s_p (by first | exact h_assign (v := .s _) rfl | exact h_assign (v := .agg _) rfl | exact h_assign (v := .tup _) rfl) ?_
    refine s_nil ?_
    refine n_wp ?_
    refine w_seq ?_
    refine c_any 9 mix (by kernel_rfl) (by kernel_rfl) rfl rfl rfl ?_
    refine t_p (by first | exact h_move (v := .s _) rfl | exact h_move (v := .agg _) rfl | exact h_move (v := .tup _) rfl) ?_
    refine t_p (h_nilCheck rfl) ?_
    refine t_p (by first | exact h_load_ints rfl rfl rfl (by omega) rfl Tryz.isAgg41 | exact h_load_one rfl rfl rfl Tryz.isAgg41) ?_
    refine t_p (by first | exact h_move (v := .s _) rfl | exact h_move (v := .agg _) rfl | exact h_move (v := .tup _) rfl) ?_
    refine t_a (h_bsli2 rfl rfl Tryz.underlying518 Tryz.sizeOf3 Tryz.zeroValue3 rfl rfl) rfl ?_
    refine t_p (h_call callable_314 rfl (down_c _ [7, 18] 2 2 _ 4 0 0 2 _ [7, 18] rfl rfl (by omega) rfl (by omega))) ?_
    refine t_p (by first | exact h_move (v := .s _) rfl | exact h_move (v := .agg _) rfl | exact h_move (v := .tup _) rfl) ?_
    refine t_p (h_bin rfl rfl (b_shr (by omega) rfl)) ?_
    refine t_p (h_bin rfl rfl (b_xor rfl)) ?_
    refine t_nil ?_
    refine s_p (h_bin rfl rfl (b_add rfl)) ?_
    refine s_p (h_nilCheck rfl) ?_
    refine s_st (by first | exact m_store_int rfl rfl rfl rfl (by omega) (by (first | assumption | (simp only [List.length_set]; assumption))) Tryz.sizeOf41 rfl | exact m_store_one rfl rfl (by simp) rfl rfl Tryz.sizeOf41 rfl) ?_
    refine s_nil ?_
    refine n_wp ?_
    refine w_seq ?_
    refine c_any 9 mix (by kernel_rfl) (by kernel_rfl) rfl rfl rfl ?_
    refine t_p (by first | exact h_move (v := .s _) rfl | exact h_move (v := .agg _) rfl | exact h_move (v := .tup _) rfl) ?_
    refine t_p (h_nilCheck rfl) ?_
    refine t_p (by first | exact h_load_ints rfl rfl rfl (by omega) rfl Tryz.isAgg41 | exact h_load_one rfl rfl rfl Tryz.isAgg41) ?_
    refine t_p (by first | exact h_move (v := .s _) rfl | exact h_move (v := .agg _) rfl | exact h_move (v := .tup _) rfl) ?_
    refine t_a (h_bsli2 rfl rfl Tryz.underlying518 Tryz.sizeOf3 Tryz.zeroValue3 rfl rfl) rfl ?_
    refine t_p (h_call callable_314 rfl (down_c _ [17, 19] 2 2 _ 5 0 0 2 _ [17, 19] rfl rfl (by omega) rfl (by omega))) ?_
    refine t_p (by first | exact h_move (v := .s _) rfl | exact h_move (v := .agg _) rfl | exact h_move (v := .tup _) rfl) ?_
    refine t_p (h_bin rfl rfl (b_shr (by omega) rfl)) ?_
    refine t_p (h_bin rfl rfl (b_xor rfl)) ?_
    refine t_nil ?_
    refine s_p (h_bin rfl rfl (b_add rfl)) ?_
    refine s_p (h_nilCheck rfl) ?_
    refine s_st (by first | exact m_store_int rfl rfl rfl rfl (by omega) (by (first | assumption | (simp only [List.length_set]; assumption))) Tryz.sizeOf41 rfl | exact m_store_one rfl rfl (by simp) rfl rfl Tryz.sizeOf41 rfl) ?_
    refine s_nil ?_
    refine n_wp ?_
    refine c_any 8 mix (by kernel_rfl) (by kernel_rfl) rfl rfl rfl ?_
    refine t_p (by first | exact h_move (v := .s _) rfl | exact h_move (v := .agg _) rfl | exact h_move (v := .tup _) rfl) ?_
    refine t_p (h_nilCheck rfl) ?_
    refine t_p (by first | exact h_load_ints rfl rfl rfl (by omega) rfl Tryz.isAgg41 | exact h_load_one rfl rfl rfl Tryz.isAgg41) ?_
    refine t_p (by first | exact h_load_ints rfl rfl rfl (by omega) rfl Tryz.isAgg3 | exact h_load_one rfl rfl rfl Tryz.isAgg3) ?_
    refine t_p (h_bin rfl rfl (b_add (r := ((t + 9 : Nat) : Int)) (wr_n (by omega) (by omega)))) ?_
    refine t_p (h_bin rfl rfl (b_rem (r := (((t + 9) % 16 : Nat) : Int)) (by omega) rfl)) ?_
    refine t_p (by first | exact h_ix rfl rfl Tryz.underlying516 Tryz.sizeOf41 (by omega) | exact h_ixa rfl rfl Tryz.underlying516 Tryz.sizeOf41 (by omega) | exact h_ixl (Int.toNat _) rfl rfl (Int.toNat_of_nonneg (by omega)).symm Tryz.underlying516 Tryz.sizeOf41 (by omega)) ?_
    refine t_p (by first | exact h_load_ints rfl rfl rfl (by omega) rfl Tryz.isAgg41 | exact h_load_one rfl rfl rfl Tryz.isAgg41) ?_
    refine t_nil ?_
    refine s_p (h_bin rfl rfl (b_add rfl)) ?_
    refine s_p (h_nilCheck rfl) ?_
    refine s_st (by first | exact m_store_int rfl rfl rfl rfl (by omega) (by (first | assumption | (simp only [List.length_set]; assumption))) Tryz.sizeOf41 rfl | exact m_store_one rfl rfl (by simp) rfl rfl Tryz.sizeOf41 rfl) ?_
    refine s_nil ?_
    refine n_wp ?_
    refine w_seq ?_
    refine c_reg (by kernel_rfl) rfl ?_
    refine s_p (by first | exact h_load_ints rfl rfl rfl (by omega) rfl Tryz.isAgg3 | exact h_load_one rfl rfl rfl Tryz.isAgg3) ?_
    refine s_p (h_bin rfl rfl (b_add (r := ((t + 1 : Nat) : Int)) (wr_n (by omega) (by omega)))) ?_
    refine s_st (by first | exact m_store_int rfl rfl rfl rfl (by omega) (by (first | assumption | (simp only [List.length_set]; assumption))) Tryz.sizeOf3 rfl | exact m_store_one rfl rfl (by simp) rfl rfl Tryz.sizeOf3 rfl) ?_
    refine s_nil ?_
    refine n_wp ?_
    refine w_seq ?_
    refine c_reg (by kernel_rfl) rfl ?_
    refine s_p (by first | exact h_move (v := .s _) rfl | exact h_move (v := .agg _) rfl | exact h_move (v := .tup _) rfl) ?_
    refine s_p (h_nilCheck rfl) ?_
    refine s_p (by first | exact h_load_ints rfl rfl rfl (by omega) rfl Tryz.isAgg41 | exact h_load_one rfl rfl rfl Tryz.isAgg41) ?_
    refine s_p (by first | exact h_assign (v := .s _) rfl | exact h_assign (v := .agg _) rfl | exact h_assign (v := .tup _) rfl) ?_
    refine s_nil ?_
    refine n_wp ?_
    refine w_ret ?_
    rw [hwn]
    exact doneM (by repeat (first | exact trivial | refine ⟨rfl, ?_⟩)) (ret_tmp Tryz.results343 rfl)
end Go.Proofs.X
end

section
open Go Go.Ab Go.Proofs
namespace Go.Proofs.X
def I78 (s b : List Int) (n : Nat) (T : Tm) (H : Heap) : Prop := ∃ i : Nat, i ≤ 64 ∧ n = 64 - i ∧
  T = [(2, .s (.ptr 1 0 0)), (4, .s (.ptr 2 0 0)), (5, .s (.ptr 6 0 0)), (6, .s (.clo 343 [(4, 0, 0), (5, 0, 0), (3, 0, 0)])), (16, .agg [.ints .u32 64 KS]), (17, .s (.int .i64 i))] ∧
  H = [some ⟨false, [.ints .u8 64 b]⟩, some ⟨true, [.ints .u32 8 s]⟩, some ⟨true, [.ints .u32 8 (z 8)]⟩, some ⟨true, [.one (.ptr 0 0 0)]⟩, some ⟨true, [.ints .u32 16 (ws b i)]⟩, some ⟨true, [.one (.int .i64 i)]⟩, some ⟨true, [.ints .u32 8 (ls s b i)]⟩]
def I78b (s b l : List Int) (n : Nat) (T : Tm) (H : Heap) : Prop := ∃ i : Nat, i ≤ 8 ∧ n = 8 - i ∧
  T = [(4, .s (.ptr 2 0 0)), (5, .s (.ptr 6 0 0)), (77, .agg [.ints .u32 8 s]), (78, .s (.int .i64 i))] ∧
  H = [some ⟨false, [.ints .u8 64 b]⟩, some ⟨true, [.ints .u32 8 s]⟩, some ⟨true, [.ints .u32 8 (z 8)]⟩, some ⟨true, [.one (.ptr 0 0 0)]⟩, some ⟨true, [.ints .u32 16 (ws b 64)]⟩, some ⟨true, [.one (.int .i64 ((64 : Nat) : Int))]⟩, some ⟨true, [.ints .u32 8 (fin s l i)]⟩]
set_option maxRecDepth 100000 in
set_option maxHeartbeats 2000000 in
theorem after_c (s b : List Int) (hs : s.length = 8) (hb : b.length = 64) (H : Heap) (id base : Nat) (bk : Blk) (hid : H[id]? = some (some bk)) (hs0 : segAt bk.segs base = some (.ints .u8 64 b)) : ACall Tryz.prog 273 H [.agg [.ints .u32 8 s], .s (.ptr id base 0)] (.agg [.ints .u32 8 (aft s b)]) [] := by
  refine acall_gen (args0 := [.agg [.ints .u32 8 s], .s (.ptr 0 0 0)]) (H0 := [some ⟨false, [.ints .u8 64 b]⟩]) (vf := (fun _ => .agg [.ints .u32 8 (aft s b)])) [(id, base + 0)] Tryz.func273 rfl Tryz.ntmps273 (by simp) rfl (foot1 rfl hid (fun i x h => win_ints (idx := 0) (n := 64) hs0 (by omega) i x (by rw [List.drop_zero, List.take_of_length_le (by omega)]; exact h)) rfl) rfl (fun i x0 x h0 h1 ρ u hr => by match i, h0, h1 with | 0, h0, h1 => (simp at h0 h1; subst h0; subst h1; exact arg_free rfl hr) | 1, h0, h1 => (simp at h0 h1; subst h0; subst h1; exact arg_ptr (by rfl) hr) | i + 2, h0, _ => simp at h0) rfl (ren_free rfl) (fun W w ρ0 hW hdom => ?_)
  refine w_seq ?_
  refine c_reg (by kernel_rfl) rfl ?_
  refine s_a (by first | exact h_box_agg rfl rfl | exact h_box rfl (by simp) rfl) rfl ?_
  refine s_a (h_alloc (segs := [.ints .u32 8 (z 8)]) Tryz.zeroValue390 (by kernel_rfl) rfl) rfl ?_
  refine s_nil ?_
  refine n_wp ?_
  refine w_seq ?_
  refine c_any 4 mix (by kernel_rfl) (by kernel_rfl) rfl rfl rfl ?_
  refine t_p (by first | exact h_load_agg rfl rfl (.whole rfl) Tryz.isAgg390 Tryz.sizeOf390 | exact h_load_agg rfl rfl (.seg rfl rfl) Tryz.isAgg390 Tryz.sizeOf390 | exact h_load_agg rfl rfl (.ints rfl (by omega)) Tryz.isAgg390 Tryz.sizeOf390) ?_
  refine t_p (by first | exact h_move (v := .s _) rfl | exact h_move (v := .agg _) rfl | exact h_move (v := .tup _) rfl) ?_
  refine t_nb (h_call callable_312 rfl (numbers_c _ 0 0 (Nat.zero_lt_succ _))) rfl ?_
  refine t_a (h_alloc (segs := [.ints .u32 8 (z 8)]) Tryz.zeroValue390 (by kernel_rfl) rfl) rfl ?_
  refine t_nil ?_
  refine s_st (by first | exact m_store_agg rfl rfl rfl (.whole (Nat.le_of_ble_eq_true rfl) rfl rfl) Tryz.sizeOf390 rfl | exact m_store_agg rfl rfl rfl (.seg (Nat.le_of_ble_eq_true rfl) rfl rfl rfl) Tryz.sizeOf390 rfl | exact m_store_agg rfl rfl rfl (.ints (Nat.le_of_ble_eq_true rfl) rfl (by omega)) Tryz.sizeOf390 rfl) ?_
  refine s_p (by first | exact h_assign (v := .s _) rfl | exact h_assign (v := .agg _) rfl | exact h_assign (v := .tup _) rfl) ?_
  refine s_nil ?_
  refine n_wp ?_
  refine w_seq ?_
  refine w_seq ?_
  refine c_reg (by kernel_rfl) rfl ?_
  refine s_p (h_call callable_313 rfl (adds_c _)) ?_
  refine s_p (by first | exact h_move (v := .s _) rfl | exact h_move (v := .agg _) rfl | exact h_move (v := .tup _) rfl) ?_
  refine s_nil ?_
  refine n_wp ?_
  refine w_block ?_
  refine c_loop (I78 s b) 64 ⟨0, by omega, rfl, rfl, by rw [ws_0, ls_0] <;> rfl⟩ (weak' (by repeat (first | exact trivial | refine ⟨rfl, ?_⟩)) rfl rfl (Nat.le_of_ble_eq_true rfl)) ?_
  rintro n T H ⟨i, hi, rfl, rfl, rfl⟩
  refine w_seq ?_
  refine c_reg (by kernel_rfl) rfl ?_
  refine s_p (h_bin rfl rfl (b_lss rfl)) ?_
  refine s_nil ?_
  refine n_wp ?_
  refine w_seq ?_
  refine w_cond rfl (fun hc_t18 => ?_) (fun hc_t18 => ?_)
  · skip
    have hlt : i < 64 := by have := of_decide_eq_true hc_t18; omega
    have hwl := ws_len b i
    have hll := ls_len s b hs i
    have hls := ls_s s b i
    have hws := ws_s b i
    generalize ws b i = w at *
    generalize ls s b i = l at *
    refine w_skip ?_
    refine n_wp ?_
    refine w_seq ?_
    refine w_block ?_
    refine w_seq ?_
    refine c_reg (by kernel_rfl) rfl ?_
    refine s_p (h_index_ints rfl rfl Tryz.underlying477 Tryz.sizeOf41 Tryz.isAgg41 (by omega)) ?_
    refine s_p (by first | exact h_assign (v := .s _) rfl | exact h_assign (v := .agg _) rfl | exact h_assign (v := .tup _) rfl) ?_
    refine s_nil ?_
    refine n_wp ?_
    refine w_seq ?_
    refine c_anyM 24 23 [(4, ⟨true, [.ints .u32 16 (wn b w i)]⟩), (5, ⟨true, [.one (.int .i64 ((i + 1 : Nat) : Int))]⟩)] mix (by kernel_rfl) (by kernel_rfl) rfl rfl rfl rfl rfl rfl rfl rfl rfl rfl rfl rfl ?_
    refine g_p (h_ixl 7 rfl rfl rfl Tryz.underlying390 Tryz.sizeOf41 (by omega)) ?_
    refine g_p (by first | exact h_load_ints rfl rfl rfl (by omega) rfl Tryz.isAgg41 | exact h_load_one rfl rfl rfl Tryz.isAgg41) ?_
    refine g_p (h_ixl 4 rfl rfl rfl Tryz.underlying390 Tryz.sizeOf41 (by omega)) ?_
    refine g_p (by first | exact h_load_ints rfl rfl rfl (by omega) rfl Tryz.isAgg41 | exact h_load_one rfl rfl rfl Tryz.isAgg41) ?_
    refine g_a (h_bsli3 rfl rfl rfl Tryz.underlying518 Tryz.sizeOf3 Tryz.zeroValue3 rfl rfl) rfl ?_
    refine g_p (h_call callable_314 rfl (down_c _ [6, 11, 25] 3 3 _ 7 0 0 3 _ [6, 11, 25] rfl rfl (by omega) rfl (by omega))) ?_
    refine g_p (h_bin rfl rfl (b_add rfl)) ?_
    refine g_p (h_ixl 4 rfl rfl rfl Tryz.underlying390 Tryz.sizeOf41 (by omega)) ?_
    refine g_p (by first | exact h_load_ints rfl rfl rfl (by omega) rfl Tryz.isAgg41 | exact h_load_one rfl rfl rfl Tryz.isAgg41) ?_
    refine g_p (h_ixl 5 rfl rfl rfl Tryz.underlying390 Tryz.sizeOf41 (by omega)) ?_
    refine g_p (by first | exact h_load_ints rfl rfl rfl (by omega) rfl Tryz.isAgg41 | exact h_load_one rfl rfl rfl Tryz.isAgg41) ?_
    refine g_p (h_bin rfl rfl (b_and rfl)) ?_
    refine g_p (h_ixl 4 rfl rfl rfl Tryz.underlying390 Tryz.sizeOf41 (by omega)) ?_
    refine g_p (by first | exact h_load_ints rfl rfl rfl (by omega) rfl Tryz.isAgg41 | exact h_load_one rfl rfl rfl Tryz.isAgg41) ?_
    refine g_p (h_com rfl rfl) ?_
    refine g_p (h_ixl 6 rfl rfl rfl Tryz.underlying390 Tryz.sizeOf41 (by omega)) ?_
    refine g_p (by first | exact h_load_ints rfl rfl rfl (by omega) rfl Tryz.isAgg41 | exact h_load_one rfl rfl rfl Tryz.isAgg41) ?_
    refine g_p (h_bin rfl rfl (b_and rfl)) ?_
    refine g_p (h_bin rfl rfl (b_or rfl)) ?_
    refine g_p (h_bin rfl rfl (b_add rfl)) ?_
    refine g_p (by first | exact h_move (v := .s _) rfl | exact h_move (v := .agg _) rfl | exact h_move (v := .tup _) rfl) ?_
    refine g_p (h_bin rfl rfl (b_add rfl)) ?_
    refine g_p (by first | exact h_move (v := .s _) rfl | exact h_move (v := .agg _) rfl | exact h_move (v := .tup _) rfl) ?_
    refine g_nil ?_
    refine ⟨.s (.int .u32 ((wn b w i).getD (i % 16) 0)), rfl, rfl, (m_callc callable_343 rfl rfl (nextn_c _ 4 5 3 0 0 b w i _ _ rfl rfl rfl rfl rfl (fun i y h => by rw [Nat.zero_add]; exact h) hwl hb (by omega) (by decide) (by decide) (by decide) (by decide) (by decide))), ?_⟩
    refine g_nil ?_
    refine s_p (h_bin rfl rfl (b_add rfl)) ?_
    refine s_p (by first | exact h_assign (v := .s _) rfl | exact h_assign (v := .agg _) rfl | exact h_assign (v := .tup _) rfl) ?_
    refine s_nil ?_
    refine n_wp ?_
    refine w_seq ?_
    refine c_any 18 mix (by kernel_rfl) (by kernel_rfl) rfl rfl rfl ?_
    refine t_p (h_ixl 0 rfl rfl rfl Tryz.underlying390 Tryz.sizeOf41 (by omega)) ?_
    refine t_p (by first | exact h_load_ints rfl rfl rfl (by omega) rfl Tryz.isAgg41 | exact h_load_one rfl rfl rfl Tryz.isAgg41) ?_
    refine t_a (h_bsli3 rfl rfl rfl Tryz.underlying518 Tryz.sizeOf3 Tryz.zeroValue3 rfl rfl) rfl ?_
    refine t_p (h_call callable_314 rfl (down_c _ [2, 13, 22] 3 3 _ 8 0 0 3 _ [2, 13, 22] rfl rfl (by omega) rfl (by omega))) ?_
    refine t_p (h_ixl 0 rfl rfl rfl Tryz.underlying390 Tryz.sizeOf41 (by omega)) ?_
    refine t_p (by first | exact h_load_ints rfl rfl rfl (by omega) rfl Tryz.isAgg41 | exact h_load_one rfl rfl rfl Tryz.isAgg41) ?_
    refine t_p (h_ixl 1 rfl rfl rfl Tryz.underlying390 Tryz.sizeOf41 (by omega)) ?_
    refine t_p (by first | exact h_load_ints rfl rfl rfl (by omega) rfl Tryz.isAgg41 | exact h_load_one rfl rfl rfl Tryz.isAgg41) ?_
    refine t_p (h_ixl 2 rfl rfl rfl Tryz.underlying390 Tryz.sizeOf41 (by omega)) ?_
    refine t_p (by first | exact h_load_ints rfl rfl rfl (by omega) rfl Tryz.isAgg41 | exact h_load_one rfl rfl rfl Tryz.isAgg41) ?_
    refine t_p (h_bin rfl rfl (b_xor rfl)) ?_
    refine t_p (h_bin rfl rfl (b_and rfl)) ?_
    refine t_p (h_ixl 1 rfl rfl rfl Tryz.underlying390 Tryz.sizeOf41 (by omega)) ?_
    refine t_p (by first | exact h_load_ints rfl rfl rfl (by omega) rfl Tryz.isAgg41 | exact h_load_one rfl rfl rfl Tryz.isAgg41) ?_
    refine t_p (h_ixl 2 rfl rfl rfl Tryz.underlying390 Tryz.sizeOf41 (by omega)) ?_
    refine t_p (by first | exact h_load_ints rfl rfl rfl (by omega) rfl Tryz.isAgg41 | exact h_load_one rfl rfl rfl Tryz.isAgg41) ?_
    refine t_p (h_bin rfl rfl (b_and rfl)) ?_
    refine t_p (h_bin rfl rfl (b_xor rfl)) ?_
    refine t_nil ?_
    refine s_p (h_bin rfl rfl (b_add rfl)) ?_
    refine s_p (by first | exact h_assign (v := .s _) rfl | exact h_assign (v := .agg _) rfl | exact h_assign (v := .tup _) rfl) ?_
    refine s_nil ?_
    refine n_wp ?_
    refine w_seq ?_
    refine c_any 2 mix (by kernel_rfl) (by kernel_rfl) rfl rfl rfl ?_
    refine t_p (h_asl_l (l := 1) rfl rfl rfl Tryz.underlying390 Tryz.sizeOf41 (by omega)) ?_
    refine t_p (h_asl_h (h := 7) rfl rfl rfl Tryz.underlying390 Tryz.sizeOf41 (by omega) (by omega)) ?_
    refine t_nil ?_
    refine s_m (m_copy (n := 7) rfl rfl rfl rfl rfl hll (by omega) (by omega) Tryz.underlying130 Tryz.sizeOf41 (.ints (by omega) rfl (by omega))) ?_
    refine s_nil ?_
    refine n_wp ?_
    refine w_seq ?_
    refine c_reg (by kernel_rfl) rfl ?_
    refine s_p (h_ixl 4 rfl rfl rfl Tryz.underlying390 Tryz.sizeOf41 (by omega)) ?_
    refine s_p (by first | exact h_load_ints rfl rfl rfl (by omega) rfl Tryz.isAgg41 | exact h_load_one rfl rfl rfl Tryz.isAgg41) ?_
    refine s_p (by first | exact h_move (v := .s _) rfl | exact h_move (v := .agg _) rfl | exact h_move (v := .tup _) rfl) ?_
    refine s_p (h_bin rfl rfl (b_add rfl)) ?_
    refine s_p (h_ixl 4 rfl rfl rfl Tryz.underlying390 Tryz.sizeOf41 (by omega)) ?_
    refine s_st (by first | exact m_store_int rfl rfl rfl rfl (by omega) (by (first | assumption | exact spl_len _ _ _ _ _ | (simp only [List.length_set]; first | assumption | exact spl_len _ _ _ _ _) | (rw [fin_len]; assumption))) Tryz.sizeOf41 rfl | exact m_store_one rfl rfl (by simp) rfl rfl Tryz.sizeOf41 rfl) ?_
    refine s_nil ?_
    refine n_wp ?_
    refine c_reg (by kernel_rfl) rfl ?_
    refine s_p (by first | exact h_move (v := .s _) rfl | exact h_move (v := .agg _) rfl | exact h_move (v := .tup _) rfl) ?_
    refine s_p (by first | exact h_move (v := .s _) rfl | exact h_move (v := .agg _) rfl | exact h_move (v := .tup _) rfl) ?_
    refine s_p (h_bin rfl rfl (b_add rfl)) ?_
    refine s_p (h_ixl 0 rfl rfl rfl Tryz.underlying390 Tryz.sizeOf41 (by omega)) ?_
    refine s_st (by first | exact m_store_int rfl rfl rfl rfl (by omega) (by (first | assumption | exact spl_len _ _ _ _ _ | (simp only [List.length_set]; first | assumption | exact spl_len _ _ _ _ _) | (rw [fin_len]; assumption))) Tryz.sizeOf41 rfl | exact m_store_one rfl rfl (by simp) rfl rfl Tryz.sizeOf41 rfl) ?_
    refine s_nil ?_
    refine n_blo ?_
    refine n_wp ?_
    refine c_reg (by kernel_rfl) rfl ?_
    refine s_p (by first | exact h_bin rfl rfl (b_add (Go.IntWalk.i64_in _ (by omega))) | exact h_bin rfl rfl (b_add rfl)) ?_
    refine s_p (by first | exact h_move (v := .s _) rfl | exact h_move (v := .agg _) rfl | exact h_move (v := .tup _) rfl) ?_
    refine s_nil ?_
    exact n_round (64 - (i + 1)) (by omega) ⟨i + 1, by omega, rfl, rfl, by rw [hws, hls] <;> rfl⟩ (weak' (by repeat (first | exact trivial | refine ⟨rfl, ?_⟩)) rfl rfl (Nat.le_of_ble_eq_true rfl))
  · skip
    obtain rfl : i = 64 := by have := of_decide_eq_false hc_t18; omega
    have haf : aft s b = fin s (ls s b 64) 8 := rfl
    have hll := ls_len s b hs 64
    generalize ls s b 64 = l at *
    refine w_exit ?_
    refine x_thn ?_
    refine x_thn ?_
    refine x_eq ?_
    refine n_wp ?_
    refine w_seq ?_
    refine w_seq ?_
    refine c_reg (by kernel_rfl) rfl ?_
    refine s_p (by first | exact h_load_agg rfl rfl (.whole rfl) Tryz.isAgg390 Tryz.sizeOf390 | exact h_load_agg rfl rfl (.seg rfl rfl) Tryz.isAgg390 Tryz.sizeOf390 | exact h_load_agg rfl rfl (.ints rfl (by omega)) Tryz.isAgg390 Tryz.sizeOf390) ?_
    refine s_p (by first | exact h_move (v := .s _) rfl | exact h_move (v := .agg _) rfl | exact h_move (v := .tup _) rfl) ?_
    refine s_nil ?_
    refine n_wp ?_
    refine w_block ?_
    refine c_loop (I78b s b l) 8 ⟨0, by omega, rfl, rfl, rfl⟩ (weak' (by repeat (first | exact trivial | refine ⟨rfl, ?_⟩)) rfl rfl (Nat.le_of_ble_eq_true rfl)) ?_
    rintro n T H ⟨i, hi, rfl, rfl, rfl⟩
    refine w_seq ?_
    refine c_reg (by kernel_rfl) rfl ?_
    refine s_p (h_bin rfl rfl (b_lss rfl)) ?_
    refine s_nil ?_
    refine n_wp ?_
    refine w_seq ?_
    refine w_cond rfl (fun hc_t79 => ?_) (fun hc_t79 => ?_)
    · skip
      have hlt2 : i < 8 := by have := of_decide_eq_true hc_t79; omega
      refine w_skip ?_
      refine n_wp ?_
      refine w_seq ?_
      refine w_block ?_
      refine w_seq ?_
      refine c_reg (by kernel_rfl) rfl ?_
      refine s_p (by first | exact h_move (v := .s _) rfl | exact h_move (v := .agg _) rfl | exact h_move (v := .tup _) rfl) ?_
      refine s_p (h_index_ints rfl rfl Tryz.underlying390 Tryz.sizeOf41 Tryz.isAgg41 (by omega)) ?_
      refine s_p (by first | exact h_assign (v := .s _) rfl | exact h_assign (v := .agg _) rfl | exact h_assign (v := .tup _) rfl) ?_
      refine s_p (by first | exact h_assign (v := .s _) rfl | exact h_assign (v := .agg _) rfl | exact h_assign (v := .tup _) rfl) ?_
      refine s_nil ?_
      refine n_wp ?_
      refine c_reg (by kernel_rfl) rfl ?_
      refine s_p (by first | exact h_move (v := .s _) rfl | exact h_move (v := .agg _) rfl | exact h_move (v := .tup _) rfl) ?_
      refine s_p (by first | exact h_ix rfl rfl Tryz.underlying390 Tryz.sizeOf41 (by omega) | exact h_ixa rfl rfl Tryz.underlying390 Tryz.sizeOf41 (by omega) | exact h_ixl (Int.toNat _) rfl rfl (Int.toNat_of_nonneg (by omega)).symm Tryz.underlying390 Tryz.sizeOf41 (by omega)) ?_
      refine s_p (by first | exact h_load_ints rfl rfl rfl (by omega) rfl Tryz.isAgg41 | exact h_load_one rfl rfl rfl Tryz.isAgg41) ?_
      refine s_p (by first | exact h_move (v := .s _) rfl | exact h_move (v := .agg _) rfl | exact h_move (v := .tup _) rfl) ?_
      refine s_p (h_bin rfl rfl (b_add rfl)) ?_
      refine s_p (by first | exact h_ix rfl rfl Tryz.underlying390 Tryz.sizeOf41 (by omega) | exact h_ixa rfl rfl Tryz.underlying390 Tryz.sizeOf41 (by omega) | exact h_ixl (Int.toNat _) rfl rfl (Int.toNat_of_nonneg (by omega)).symm Tryz.underlying390 Tryz.sizeOf41 (by omega)) ?_
      refine s_st (by first | exact m_store_int rfl rfl rfl rfl (by omega) (by (first | assumption | exact spl_len _ _ _ _ _ | (simp only [List.length_set]; first | assumption | exact spl_len _ _ _ _ _) | (rw [fin_len]; assumption))) Tryz.sizeOf41 rfl | exact m_store_one rfl rfl (by simp) rfl rfl Tryz.sizeOf41 rfl) ?_
      refine s_nil ?_
      refine n_blo ?_
      refine n_wp ?_
      refine c_reg (by kernel_rfl) rfl ?_
      refine s_p (by first | exact h_bin rfl rfl (b_add (Go.IntWalk.i64_in _ (by omega))) | exact h_bin rfl rfl (b_add rfl)) ?_
      refine s_p (by first | exact h_move (v := .s _) rfl | exact h_move (v := .agg _) rfl | exact h_move (v := .tup _) rfl) ?_
      refine s_nil ?_
      exact n_round (8 - (i + 1)) (by omega) ⟨i + 1, by omega, rfl, rfl, rfl⟩ (weak' (by repeat (first | exact trivial | refine ⟨rfl, ?_⟩)) rfl rfl (Nat.le_of_ble_eq_true rfl))
    · skip
      obtain rfl : i = 8 := by have := of_decide_eq_false hc_t79; omega
      rw [← haf]
      refine w_exit ?_
      refine x_thn ?_
      refine x_thn ?_
      refine x_eq ?_
      refine n_wp ?_
      refine w_seq ?_
      refine c_reg (by kernel_rfl) rfl ?_
      refine s_p (by first | exact h_load_agg rfl rfl (.whole rfl) Tryz.isAgg390 Tryz.sizeOf390 | exact h_load_agg rfl rfl (.seg rfl rfl) Tryz.isAgg390 Tryz.sizeOf390 | exact h_load_agg rfl rfl (.ints rfl (by omega)) Tryz.isAgg390 Tryz.sizeOf390) ?_
      refine s_st (by first | exact m_store_agg rfl rfl rfl (.whole (Nat.le_of_ble_eq_true rfl) rfl rfl) Tryz.sizeOf390 rfl | exact m_store_agg rfl rfl rfl (.seg (Nat.le_of_ble_eq_true rfl) rfl rfl rfl) Tryz.sizeOf390 rfl | exact m_store_agg rfl rfl rfl (.ints (Nat.le_of_ble_eq_true rfl) rfl (by omega)) Tryz.sizeOf390 rfl) ?_
      refine s_nil ?_
      refine n_wp ?_
      refine w_ret ?_
      refine done0 ?_
      exact ret_cell_agg Tryz.results273 rfl rfl (.whole rfl) Tryz.isAgg390 Tryz.sizeOf390

end Go.Proofs.X
end

section
open Go Go.Ab Go.Proofs
namespace Go.Proofs.X
theorem callable_156 : Callable Tryz.prog 156 := ⟨_, Tryz.func156, by kernel_rfl, rfl⟩
theorem callable_221 : Callable Tryz.prog 221 := ⟨_, Tryz.func221, by kernel_rfl, rfl⟩
def zc142 : Array Value := (List.replicate 64 (Value.int .u8 0)).toArray ++ #[.int .i64 0, .int .u64 0]
theorem build_142 (p : Option Addr) (w : World) : (Instr.build 394 #[(0, .pointer p)]).run Tryz.prog w = .ok (.agg (#[.pointer p] ++ zc142)) w := by kernel_rfl
set_option maxRecDepth 100000 in
set_option maxHeartbeats 2000000 in
theorem New_c (H : Heap) : ACall Tryz.prog 156 H [] (.s (.ptr (H.length + 1) (0 + 0) 0)) [⟨true, [.ints .u32 8 S0]⟩, ⟨true, [.one (.ptr (H.length + 0) (0 + 0) 0), .ints .u8 64 (z 64), .one (.int .i64 0), .one (.int .u64 0)]⟩] := by
  refine acall_gen2 (args0 := []) (H0 := []) (Hf := [some ⟨true, [.ints .u32 8 S0]⟩, some ⟨true, [.one (.ptr 0 0 0), .ints .u8 64 (z 64), .one (.int .i64 0), .one (.int .u64 0)]⟩]) (v0 := .s (.ptr 1 0 0)) [] [0, 1] Tryz.func156 rfl Tryz.ntmps156 (by simp) rfl
    (fun k id sh b0 h1 h2 => by simp at h1) (fun W ρ vals w hH ha k id' sh' hk => by simp at hk) rfl rfl rfl (by decide) rfl rfl rfl (fun W w ρ0 hW hdom => ?_)
  refine w_seq ?_
  refine c_reg (by kernel_rfl) rfl ?_
  refine s_p (by first | exact h_assign (v := .s _) rfl | exact h_assign (v := .agg _) rfl | exact h_assign (v := .tup _) rfl) ?_
  refine s_nil ?_
  refine n_wp ?_
  refine w_seq ?_
  refine c_reg (by kernel_rfl) rfl ?_
  refine s_p (h_build_ints (n := 8) (l := [(0, 1779033703), (1, 3144134277), (2, 1013904242), (3, 2773480762), (4, 1359893119), (5, 2600822924), (6, 528734635), (7, 1541459225)]) (xs := S0) rfl (fun w => by kernel_rfl) rfl) ?_
  refine s_a (by first | exact h_box_agg rfl rfl | exact h_box rfl (by simp) rfl) rfl ?_
  refine s_p (h_build_ptr (segs := [.ints .u8 64 (z 64), .one (.int .i64 0), .one (.int .u64 0)]) rfl build_142 (by kernel_rfl)) ?_
  refine s_a (by first | exact h_box_agg rfl rfl | exact h_box rfl (by simp) rfl) rfl ?_
  refine s_p (by first | exact h_assign (v := .s _) rfl | exact h_assign (v := .agg _) rfl | exact h_assign (v := .tup _) rfl) ?_
  refine s_nil ?_
  refine n_wp ?_
  refine w_ret ?_
  exact doneM (by repeat (first | exact trivial | refine ⟨rfl, ?_⟩)) (ret_tmp Tryz.results156 rfl)
def I74 (q0 : Run) (B : List Int) (len cap tot : Nat) (n : Nat) (T : Tm) (H : Heap) : Prop := ∃ (i : Nat) (q : Run) (t : Nat), i ≤ 1 ∧ n = 1 - i ∧ (i = 0 → q = q0 ∧ t = tot) ∧ (i = 1 → q = tk q0 B ∧ t = tot + len) ∧
  T = [(0, .s (.ptr 0 0 0)), (8, .s (.slice 1 0 0 1 1)), (9, .s (.int .i64 1)), (10, .s (.int .i64 i))] ∧ H = [some ⟨true, [.one (.ptr 3 0 0), .ints .u8 64 (q).b, .one (.int .i64 ((q).m : Nat)), .one (.int .u64 ((t : Nat) : Int))]⟩, some ⟨false, [.one (.slice 2 0 0 len cap)]⟩, some ⟨false, [.ints .u8 len B]⟩, some ⟨true, [.ints .u32 8 (q).s]⟩]
def I74b (q0 : Run) (B : List Int) (len cap tot : Nat) (n : Nat) (T : Tm) (H : Heap) : Prop := ∃ (j X : Nat) (q : Run), j ≤ len ∧ n = len - j ∧ (j < len → X = j) ∧ tk q (B.drop j) = tk q0 B ∧ RunOk q ∧
  T = [(0, .s (.ptr 0 0 0)), (5, .s (.slice 2 0 X (len - j) (cap - j))), (8, .s (.slice 1 0 0 1 1)), (9, .s (.int .i64 1)), (10, .s (.int .i64 ((0 : Nat) : Int)))] ∧ H = [some ⟨true, [.one (.ptr 3 0 0), .ints .u8 64 (q).b, .one (.int .i64 ((q).m : Nat)), .one (.int .u64 ((tot + len : Nat) : Int))]⟩, some ⟨false, [.one (.slice 2 0 0 len cap)]⟩, some ⟨false, [.ints .u8 len B]⟩, some ⟨true, [.ints .u32 8 (q).s]⟩]
set_option maxRecDepth 100000 in
set_option maxHeartbeats 2000000 in
theorem takes_c (H : Heap) (ir ip id is sh : Nat) (q0 : Run) (tot : Nat) (B : List Int) (len cap : Nat) (bp bd : Blk) (hq0 : RunOk q0) (hBl : B.length = len) (hcap : len ≤ cap) (hlen : len ≤ 140737488351232) (htot : tot ≤ 140737488351232)
    (hr : H[ir]? = some (some ⟨true, [.one (.ptr is (0 + 0) 0), .ints .u8 64 q0.b, .one (.int .i64 (q0.m : Nat)), .one (.int .u64 ((tot : Nat) : Int))]⟩)) (hp : H[ip]? = some (some bp)) (hps : bp.segs = [.one (.slice id (0 + sh) 0 len cap)]) (hd : H[id]? = some (some bd)) (hds : ∀ (i : Nat) (y : SV), atS [.ints .u8 len B] i = some y → atS bd.segs (sh + i) = some y) (hs : H[is]? = some (some ⟨true, [.ints .u32 8 q0.s]⟩))
    (n1 : ir ≠ ip) (n2 : ir ≠ id) (n3 : ir ≠ is) (n4 : is ≠ ip) (n5 : is ≠ id) : AMut Tryz.prog 221 H [.s (.ptr ir (0 + 0) 0), .s (.slice ip (0 + 0) 0 1 1)] (.tup []) (((forget [is] H).set ir (some ⟨true, [.one (.ptr (H.length + 0) (0 + 0) 0), .ints .u8 64 (tk q0 B).b, .one (.int .i64 ((tk q0 B).m : Nat)), .one (.int .u64 ((tot + len : Nat) : Int))]⟩)) ++ [some ⟨true, [.ints .u32 8 (tk q0 B).s]⟩]) := by
  refine amut_gen3 (args0 := [.s (.ptr 0 0 0), .s (.slice 1 0 0 1 1)]) (H0 := [some ⟨true, [.one (.ptr 3 0 0), .ints .u8 64 (q0).b, .one (.int .i64 ((q0).m : Nat)), .one (.int .u64 ((tot : Nat) : Int))]⟩, some ⟨false, [.one (.slice 2 0 0 len cap)]⟩, some ⟨false, [.ints .u8 len B]⟩, some ⟨true, [.ints .u32 8 (q0).s]⟩]) (Hf := [some ⟨true, [.one (.ptr 3 0 0), .ints .u8 64 (tk q0 B).b, .one (.int .i64 ((tk q0 B).m : Nat)), .one (.int .u64 ((tot + len : Nat) : Int))]⟩, none, none, some ⟨true, [.ints .u32 8 (tk q0 B).s]⟩]) (v0 := .tup []) [(ir, 0), (ip, 0), (id, sh), (is, 0)] [3] 3 (Nat.le_of_ble_eq_true rfl) Tryz.func221 rfl Tryz.ntmps221 (by simp) rfl
    (fun k id' sh' b0 h1 h2 => by
      match k, h1, h2 with
      | 0, h1, h2 => simp at h1 h2; obtain ⟨rfl, rfl⟩ := h1; subst h2; exact ⟨rfl, _, hr, fun _ => ⟨rfl, rfl⟩, foot_same rfl⟩
      | 1, h1, h2 => simp at h1 h2; obtain ⟨rfl, rfl⟩ := h1; subst h2; exact ⟨rfl, _, hp, fun e => (by cases e), foot_same hps⟩
      | 2, h1, h2 => simp at h1 h2; obtain ⟨rfl, rfl⟩ := h1; subst h2; exact ⟨rfl, _, hd, fun e => (by cases e), fun i y hy => by (have h := hds i y hy; obtain ⟨_, rfl⟩ := atS_ints1 hy; exact h)⟩
      | 3, h1, h2 => simp at h1 h2; obtain ⟨rfl, rfl⟩ := h1; subst h2; exact ⟨rfl, _, hs, fun _ => ⟨rfl, rfl⟩, foot_same rfl⟩
      | k + 4, h1, _ => simp at h1)
    (fun k k' id' s1 s2 b0 h1 h1' hne h2 => by
      match k, k', h1, h1', h2, hne with
      | 0, 0, _, _, _, hne => exact absurd rfl hne
      | 0, 1, h1, h1', _, _ => simp at h1 h1'; exact absurd (h1.1.trans h1'.1.symm) n1
      | 0, 2, h1, h1', _, _ => simp at h1 h1'; exact absurd (h1.1.trans h1'.1.symm) n2
      | 0, 3, h1, h1', _, _ => simp at h1 h1'; exact absurd (h1.1.trans h1'.1.symm) n3
      | 3, 0, h1, h1', _, _ => simp at h1 h1'; exact absurd (h1'.1.trans h1.1.symm) n3
      | 3, 1, h1, h1', _, _ => simp at h1 h1'; exact absurd (h1.1.trans h1'.1.symm) n4
      | 3, 2, h1, h1', _, _ => simp at h1 h1'; exact absurd (h1.1.trans h1'.1.symm) n5
      | 3, 3, _, _, _, hne => exact absurd rfl hne
      | 1, _, _, _, h2, _ => simp at h2; subst h2; rfl
      | 2, _, _, _, h2, _ => simp at h2; subst h2; rfl
      | 0, k + 4, _, h1', _, _ => simp at h1'
      | 3, k + 4, _, h1', _, _ => simp at h1'
      | k + 4, _, h1, _, _, _ => simp at h1)
    (fun W ρ vals w hH ha k id' sh' hk => by
      match k, hk with
      | 0, hk => simp at hk; obtain ⟨rfl, rfl⟩ := hk; exact live_ptr (i := 0) ha rfl
      | 1, hk => simp at hk; obtain ⟨rfl, rfl⟩ := hk; exact live_slice (i := 1) ha rfl
      | 2, hk => simp at hk; obtain ⟨rfl, rfl⟩ := hk; exact live_in_slice (p := 0) hH (live_slice (i := 1) ha rfl) hp (by rw [hps]; rfl)
      | 3, hk => simp at hk; obtain ⟨rfl, rfl⟩ := hk; exact live_in (p := 0) hH (live_ptr (i := 0) ha rfl) hr rfl
      | k + 4, hk => simp at hk)
    rfl rfl rfl (by decide) rfl rfl rfl (fun W w' ρ0 hW hdom => ?_)
  refine w_seq ?_
  refine c_reg (by kernel_rfl) rfl ?_
  refine s_p (by first | exact h_move (v := .s _) rfl | exact h_move (v := .agg _) rfl | exact h_move (v := .tup _) rfl) ?_
  refine s_p (by first | exact h_len rfl Tryz.underlying289 | exact h_len_nil rfl Tryz.underlying289 | exact h_len_val rfl Tryz.underlying289) ?_
  refine s_p (by first | exact h_move (v := .s _) rfl | exact h_move (v := .agg _) rfl | exact h_move (v := .tup _) rfl) ?_
  refine s_nil ?_
  refine n_wp ?_
  refine w_block ?_
  refine c_loop (I74 q0 B len cap tot) 1 ⟨0, q0, tot, by omega, rfl, fun _ => ⟨rfl, rfl⟩, fun e => absurd e (by omega), rfl, rfl⟩ (weak' (by repeat (first | exact trivial | refine ⟨rfl, ?_⟩)) rfl rfl (Nat.le_of_ble_eq_true rfl)) ?_
  rintro n T H ⟨i, qa, ta, hi, rfl, h0, h1, rfl, rfl⟩
  refine w_seq ?_
  refine c_reg (by kernel_rfl) rfl ?_
  refine s_p (h_bin rfl rfl (b_lss rfl)) ?_
  refine s_nil ?_
  refine n_wp ?_
  refine w_seq ?_
  refine w_cond rfl (fun hc_t11 => ?_) (fun hc_t11 => ?_)
  · skip
    have hi0 : i = 0 := by have := of_decide_eq_true hc_t11; omega
    subst hi0
    obtain ⟨rfl, rfl⟩ := h0 rfl
    refine w_skip ?_
    refine n_wp ?_
    refine w_seq ?_
    refine w_block ?_
    refine w_seq ?_
    refine c_reg (by kernel_rfl) rfl ?_
    refine s_p (by first | exact h_ixs0 rfl rfl Tryz.underlying289 Tryz.sizeOf49 (by omega) | exact h_ixs rfl rfl Tryz.underlying289 Tryz.sizeOf49 (by omega) | exact h_ixsx rfl rfl Tryz.underlying289 Tryz.sizeOf49 (by omega)) ?_
    refine s_p (by first | exact h_load_ints rfl rfl rfl (by omega) rfl Tryz.isAgg49 | exact h_load_one rfl rfl rfl Tryz.isAgg49) ?_
    refine s_p (by first | exact h_assign (v := .s _) rfl | exact h_assign (v := .agg _) rfl | exact h_assign (v := .tup _) rfl) ?_
    refine s_nil ?_
    refine n_wp ?_
    refine w_seq ?_
    refine c_reg (by kernel_rfl) rfl ?_
    refine s_p (by first | exact h_move (v := .s _) rfl | exact h_move (v := .agg _) rfl | exact h_move (v := .tup _) rfl) ?_
    refine s_p (h_nilCheck rfl) ?_
    refine s_p (h_field rfl Tryz.underlying394 rfl Tryz.sizeOf32 (by decide)) ?_
    refine s_p (by first | exact h_load_ints rfl rfl rfl (by omega) rfl Tryz.isAgg32 | exact h_load_one rfl rfl rfl Tryz.isAgg32) ?_
    refine s_p (by first | exact h_move (v := .s _) rfl | exact h_move (v := .agg _) rfl | exact h_move (v := .tup _) rfl) ?_
    refine s_p (by first | exact h_len rfl Tryz.underlying49 | exact h_len_nil rfl Tryz.underlying49 | exact h_len_val rfl Tryz.underlying49) ?_
    refine s_p (h_conv rfl Tryz.underlying3 Tryz.underlying32 (wu_n (c := len) rfl (by omega))) ?_
    refine s_p (h_bin rfl rfl (b_add (r := ((ta + len : Nat) : Int)) (wu_n (by omega) (by omega)))) ?_
    refine s_p (h_nilCheck rfl) ?_
    refine s_p (h_field rfl Tryz.underlying394 rfl Tryz.sizeOf32 (by decide)) ?_
    refine s_st (by first | exact m_store_int rfl rfl rfl rfl (by omega) (by (first | assumption | exact hq.b | exact spl_len _ _ _ _ _)) Tryz.sizeOf32 rfl | exact m_store_one rfl rfl (by simp) rfl rfl Tryz.sizeOf32 rfl) ?_
    refine s_nil ?_
    refine n_wp ?_
    refine w_block ?_
    refine c_loop (I74b qa B len cap ta) len ⟨0, 0, qa, by omega, rfl, fun _ => rfl, by rw [List.drop_zero], hq0, rfl, rfl⟩ (weak' (by repeat (first | exact trivial | refine ⟨rfl, ?_⟩)) rfl rfl (Nat.le_of_ble_eq_true rfl)) ?_
    rintro n T H ⟨j, X, q, hj, rfl, hXj, htk, hq, rfl, rfl⟩
    refine w_seq ?_
    refine w_seq ?_
    refine c_reg (by kernel_rfl) rfl ?_
    refine s_p (by first | exact h_move (v := .s _) rfl | exact h_move (v := .agg _) rfl | exact h_move (v := .tup _) rfl) ?_
    refine s_p (by first | exact h_len rfl Tryz.underlying49 | exact h_len_nil rfl Tryz.underlying49 | exact h_len_val rfl Tryz.underlying49) ?_
    refine s_p (h_bin rfl rfl (b_gtr rfl)) ?_
    refine s_nil ?_
    refine n_wp ?_
    refine w_cond rfl (fun hc_t26 => ?_) (fun hc_t26 => ?_)
    · skip
      have hlt : j < len := by have := of_decide_eq_true hc_t26; omega
      have hX := hXj hlt
      subst hX
      obtain ⟨nn, hnn⟩ : ∃ nn, nn = min (len - X) (64 - q.m) := ⟨_, rfl⟩
      have hqm := hq.m
      have hn0 : 0 < nn := by omega
      have hon := tk_on q hq B X nn len hBl (by omega) (by omega) hn0
      have hck := chunk_ok hq ((B.drop X).take nn) nn (by omega)
      refine w_skip ?_
      refine n_wp ?_
      refine w_block ?_
      refine w_seq ?_
      refine c_any 11 mix (by kernel_rfl) (by kernel_rfl) rfl rfl rfl ?_
      refine t_p (by first | exact h_move (v := .s _) rfl | exact h_move (v := .agg _) rfl | exact h_move (v := .tup _) rfl) ?_
      refine t_p (h_nilCheck rfl) ?_
      refine t_p (h_field rfl Tryz.underlying394 rfl Tryz.sizeOf392 (by decide)) ?_
      refine t_p (h_field rfl Tryz.underlying392 rfl Tryz.sizeOf290 (by decide)) ?_
      refine t_p (by first | exact h_move (v := .s _) rfl | exact h_move (v := .agg _) rfl | exact h_move (v := .tup _) rfl) ?_
      refine t_p (h_nilCheck rfl) ?_
      refine t_p (h_field rfl Tryz.underlying394 rfl Tryz.sizeOf392 (by decide)) ?_
      refine t_p (h_field rfl Tryz.underlying392 rfl Tryz.sizeOf3 (by decide)) ?_
      refine t_p (by first | exact h_load_ints rfl rfl rfl (by omega) rfl Tryz.isAgg3 | exact h_load_one rfl rfl rfl Tryz.isAgg3) ?_
      refine t_p (h_asl_l (l := q.m) rfl rfl rfl Tryz.underlying290 Tryz.sizeOf5 hq.m) ?_
      refine t_p (by first | exact h_move (v := .s _) rfl | exact h_move (v := .agg _) rfl | exact h_move (v := .tup _) rfl) ?_
      refine t_nil ?_
      refine s_m (m_copy (n := nn) rfl rfl rfl rfl rfl hBl (by omega) (by omega) Tryz.underlying49 Tryz.sizeOf5 (.ints hn0 rfl (by omega))) ?_
      refine s_p (by first | exact h_assign (v := .s _) rfl | exact h_assign (v := .agg _) rfl | exact h_assign (v := .tup _) rfl) ?_
      refine s_nil ?_
      refine n_wp ?_
      refine w_seq ?_
      refine c_reg (by kernel_rfl) rfl ?_
      refine s_p (by first | exact h_move (v := .s _) rfl | exact h_move (v := .agg _) rfl | exact h_move (v := .tup _) rfl) ?_
      refine s_p (by first | exact h_move (v := .s _) rfl | exact h_move (v := .agg _) rfl | exact h_move (v := .tup _) rfl) ?_
      refine s_p (h_slice_l (l := nn) rfl rfl rfl Tryz.underlying49 Tryz.sizeOf5 (by omega)) ?_
      refine s_p (by first | exact h_assign (v := .s _) rfl | exact h_assign (v := .agg _) rfl | exact h_assign (v := .tup _) rfl) ?_
      refine s_nil ?_
      refine n_wp ?_
      refine w_seq ?_
      refine c_reg (by kernel_rfl) rfl ?_
      refine s_p (by first | exact h_move (v := .s _) rfl | exact h_move (v := .agg _) rfl | exact h_move (v := .tup _) rfl) ?_
      refine s_p (h_nilCheck rfl) ?_
      refine s_p (h_field rfl Tryz.underlying394 rfl Tryz.sizeOf392 (by decide)) ?_
      refine s_p (h_field rfl Tryz.underlying392 rfl Tryz.sizeOf3 (by decide)) ?_
      refine s_p (by first | exact h_load_ints rfl rfl rfl (by omega) rfl Tryz.isAgg3 | exact h_load_one rfl rfl rfl Tryz.isAgg3) ?_
      refine s_p (by first | exact h_move (v := .s _) rfl | exact h_move (v := .agg _) rfl | exact h_move (v := .tup _) rfl) ?_
      refine s_p (h_bin rfl rfl (b_add (r := ((q.m + nn : Nat) : Int)) (wr_n (by omega) (by omega)))) ?_
      refine s_p (h_nilCheck rfl) ?_
      refine s_p (h_field rfl Tryz.underlying394 rfl Tryz.sizeOf392 (by decide)) ?_
      refine s_p (h_field rfl Tryz.underlying392 rfl Tryz.sizeOf3 (by decide)) ?_
      refine s_st (by first | exact m_store_int rfl rfl rfl rfl (by omega) (by (first | assumption | exact hq.b | exact spl_len _ _ _ _ _)) Tryz.sizeOf3 rfl | exact m_store_one rfl rfl (by simp) rfl rfl Tryz.sizeOf3 rfl) ?_
      refine s_nil ?_
      refine n_wp ?_
      refine w_seq ?_
      refine c_reg (by kernel_rfl) rfl ?_
      refine s_p (by first | exact h_move (v := .s _) rfl | exact h_move (v := .agg _) rfl | exact h_move (v := .tup _) rfl) ?_
      refine s_p (h_nilCheck rfl) ?_
      refine s_p (h_field rfl Tryz.underlying394 rfl Tryz.sizeOf392 (by decide)) ?_
      refine s_p (h_field rfl Tryz.underlying392 rfl Tryz.sizeOf3 (by decide)) ?_
      refine s_p (by first | exact h_load_ints rfl rfl rfl (by omega) rfl Tryz.isAgg3 | exact h_load_one rfl rfl rfl Tryz.isAgg3) ?_
      refine s_p (h_bin rfl rfl (b_eql rfl)) ?_
      refine s_nil ?_
      refine n_wp ?_
      refine w_cond rfl (fun hc_t57 => ?_) (fun hc_t57 => ?_)
      · skip
        have h64 : q.m + nn = 64 := by have := of_decide_eq_true hc_t57; omega
        have hcq : chunk q ((B.drop X).take nn) nn = ⟨aft q.s (spl q.b ((B.drop X).take nn) (0 + q.m) nn 64), spl q.b ((B.drop X).take nn) (0 + q.m) nn 64, 0⟩ := if_pos h64
        rw [hcq] at hon hck
        refine w_seq ?_
        refine c_any 11 mix (by kernel_rfl) (by kernel_rfl) rfl rfl rfl ?_
        refine t_p (by first | exact h_move (v := .s _) rfl | exact h_move (v := .agg _) rfl | exact h_move (v := .tup _) rfl) ?_
        refine t_p (h_nilCheck rfl) ?_
        refine t_p (h_field rfl Tryz.underlying394 rfl Tryz.sizeOf388 (by decide)) ?_
        refine t_p (by first | exact h_load_ints rfl rfl rfl (by omega) rfl Tryz.isAgg388 | exact h_load_one rfl rfl rfl Tryz.isAgg388) ?_
        refine t_p (h_nilCheck rfl) ?_
        refine t_p (by first | exact h_load_agg rfl rfl (.whole rfl) Tryz.isAgg390 Tryz.sizeOf390 | exact h_load_agg rfl rfl (.seg rfl rfl) Tryz.isAgg390 Tryz.sizeOf390 | exact h_load_agg rfl rfl (.ints rfl (by omega)) Tryz.isAgg390 Tryz.sizeOf390) ?_
        refine t_p (by first | exact h_move (v := .s _) rfl | exact h_move (v := .agg _) rfl | exact h_move (v := .tup _) rfl) ?_
        refine t_p (h_nilCheck rfl) ?_
        refine t_p (h_field rfl Tryz.underlying394 rfl Tryz.sizeOf392 (by decide)) ?_
        refine t_p (h_call callable_273 rfl (after_c q.s (spl q.b ((B.drop X).take nn) (0 + q.m) nn 64) hq.s (spl_len _ _ _ _ _) _ 0 1 _ rfl rfl)) ?_
        refine t_a (h_alloc (segs := [.ints .u32 8 (z 8)]) Tryz.zeroValue390 (by kernel_rfl) rfl) rfl ?_
        refine t_nil ?_
        refine s_st (by first | exact m_store_agg rfl rfl rfl (.whole (Nat.le_of_ble_eq_true rfl) rfl rfl) Tryz.sizeOf390 rfl | exact m_store_agg rfl rfl rfl (.seg (Nat.le_of_ble_eq_true rfl) rfl rfl rfl) Tryz.sizeOf390 rfl | exact m_store_agg rfl rfl rfl (.ints (Nat.le_of_ble_eq_true rfl) rfl (by omega)) Tryz.sizeOf390 rfl) ?_
        refine s_nil ?_
        refine n_wp ?_
        refine c_reg (by kernel_rfl) rfl ?_
        refine s_p (by first | exact h_move (v := .s _) rfl | exact h_move (v := .agg _) rfl | exact h_move (v := .tup _) rfl) ?_
        refine s_p (by first | exact h_move (v := .s _) rfl | exact h_move (v := .agg _) rfl | exact h_move (v := .tup _) rfl) ?_
        refine s_p (h_nilCheck rfl) ?_
        refine s_p (h_field rfl Tryz.underlying394 rfl Tryz.sizeOf388 (by decide)) ?_
        refine s_st (by first | exact m_store_int rfl rfl rfl rfl (by omega) (by (first | assumption | exact hq.b | exact spl_len _ _ _ _ _)) Tryz.sizeOf388 rfl | exact m_store_one rfl rfl (by simp) rfl rfl Tryz.sizeOf388 rfl) ?_
        refine s_p (h_nilCheck rfl) ?_
        refine s_p (h_field rfl Tryz.underlying394 rfl Tryz.sizeOf392 (by decide)) ?_
        refine s_p (h_field rfl Tryz.underlying392 rfl Tryz.sizeOf3 (by decide)) ?_
        refine s_st (by first | exact m_store_int rfl rfl rfl rfl (by omega) (by (first | assumption | exact hq.b | exact spl_len _ _ _ _ _)) Tryz.sizeOf3 rfl | exact m_store_one rfl rfl (by simp) rfl rfl Tryz.sizeOf3 rfl) ?_
        refine s_nil ?_
        refine n_blo ?_
        exact n_round (len - (X + nn)) (by omega) ⟨X + nn, if cap - X = nn then X else X + nn, _, by omega, by omega, fun hx => by rw [if_neg (by omega)], by rw [← hon]; exact htk, hck, by rw [show len - (X + nn) = len - X - nn by omega, show cap - (X + nn) = cap - X - nn by omega], rfl⟩ (weakR' [0, 1, 2, 4] rfl (by decide) rfl (by repeat (first | exact trivial | refine ⟨⟨_, _, rfl, rfl, rfl, rfl, rfl⟩, ?_⟩)) (by repeat (first | exact trivial | refine ⟨⟨rfl, rfl⟩, ?_⟩)))
      · skip
        have h64 : ¬ q.m + nn = 64 := by have := of_decide_eq_false hc_t57; omega
        have hcq : chunk q ((B.drop X).take nn) nn = ⟨q.s, spl q.b ((B.drop X).take nn) (0 + q.m) nn 64, q.m + nn⟩ := if_neg h64
        rw [hcq] at hon hck
        refine w_skip ?_
        refine n_blo ?_
        exact n_round (len - (X + nn)) (by omega) ⟨X + nn, if cap - X = nn then X else X + nn, _, by omega, by omega, fun hx => by rw [if_neg (by omega)], by rw [← hon]; exact htk, hck, by rw [show len - (X + nn) = len - X - nn by omega, show cap - (X + nn) = cap - X - nn by omega], rfl⟩ (weak' (by repeat (first | exact trivial | refine ⟨rfl, ?_⟩)) rfl rfl (Nat.le_of_ble_eq_true rfl))
    · skip
      have hje : j = len := by have := of_decide_eq_false hc_t26; omega
      have hfin : q = tk qa B := by rw [← htk, hje, List.drop_eq_nil_of_le (by omega), tk_nil]
      subst hfin
      refine w_exit ?_
      refine x_thn ?_
      refine x_thn ?_
      refine x_eq ?_
      refine n_blo ?_
      refine n_wp ?_
      refine c_reg (by kernel_rfl) rfl ?_
      refine s_p (by first | exact h_bin rfl rfl (b_add (Go.IntWalk.i64_in _ (by omega))) | exact h_bin rfl rfl (b_add rfl)) ?_
      refine s_p (by first | exact h_move (v := .s _) rfl | exact h_move (v := .agg _) rfl | exact h_move (v := .tup _) rfl) ?_
      refine s_nil ?_
      exact n_round 0 (by omega) ⟨1, _, _, by omega, rfl, fun e => absurd e (by omega), fun _ => ⟨rfl, rfl⟩, rfl, rfl⟩ (weak' (by repeat (first | exact trivial | refine ⟨rfl, ?_⟩)) rfl rfl (Nat.le_of_ble_eq_true rfl))
  · skip
    have hi1 : i = 1 := by have := of_decide_eq_false hc_t11; omega
    subst hi1
    obtain ⟨rfl, rfl⟩ := h1 rfl
    refine w_exit ?_
    refine x_thn ?_
    refine x_thn ?_
    refine x_eq ?_
    exact doneN (by repeat (first | exact trivial | refine ⟨rfl, ?_⟩)) (ret_none Tryz.results221)
end Go.Proofs.X
end

section
open Go Go.Ab Go.Proofs
namespace Go.Proofs.X
def J2 (q0 : Run) (B0 : List Int) (len0 cap0 : Nat) (B1 : List Int) (len1 cap1 : Nat) (tot : Nat) (n : Nat) (T : Tm) (H : Heap) : Prop := ∃ (i : Nat) (q : Run) (t : Nat), i ≤ 2 ∧ n = 2 - i ∧ (i = 0 → q = q0 ∧ t = tot) ∧ (i = 1 → q = tk q0 B0 ∧ t = tot + len0) ∧ (i = 2 → q = tk (tk q0 B0) B1 ∧ t = tot + len0 + len1) ∧ RunOk q ∧
  T = [(0, .s (.ptr 0 0 0)), (8, .s (.slice 1 0 0 2 2)), (9, .s (.int .i64 2)), (10, .s (.int .i64 i))] ∧ H = [some ⟨true, [.one (.ptr 4 0 0), .ints .u8 64 (q).b, .one (.int .i64 ((q).m : Nat)), .one (.int .u64 ((t : Nat) : Int))]⟩, some ⟨false, [.one (.slice 2 0 0 len0 cap0), .one (.slice 3 0 0 len1 cap1)]⟩, some ⟨false, [.ints .u8 len0 B0]⟩, some ⟨false, [.ints .u8 len1 B1]⟩, some ⟨true, [.ints .u32 8 (q).s]⟩]
def J2b (i pd : Nat) (B : List Int) (len cap : Nat) (B0 : List Int) (len0 cap0 : Nat) (B1 : List Int) (len1 cap1 : Nat) (q0 : Run) (tot : Nat) (n : Nat) (T : Tm) (H : Heap) : Prop := ∃ (j X : Nat) (q : Run), j ≤ len ∧ n = len - j ∧ (j < len → X = j) ∧ tk q (B.drop j) = tk q0 B ∧ RunOk q ∧
  T = [(0, .s (.ptr 0 0 0)), (5, .s (.slice pd 0 X (len - j) (cap - j))), (8, .s (.slice 1 0 0 2 2)), (9, .s (.int .i64 2)), (10, .s (.int .i64 ((i : Nat) : Int)))] ∧ H = [some ⟨true, [.one (.ptr 4 0 0), .ints .u8 64 (q).b, .one (.int .i64 ((q).m : Nat)), .one (.int .u64 ((tot + len : Nat) : Int))]⟩, some ⟨false, [.one (.slice 2 0 0 len0 cap0), .one (.slice 3 0 0 len1 cap1)]⟩, some ⟨false, [.ints .u8 len0 B0]⟩, some ⟨false, [.ints .u8 len1 B1]⟩, some ⟨true, [.ints .u32 8 (q).s]⟩]
set_option maxRecDepth 100000 in
set_option maxHeartbeats 2000000 in
theorem takes2 (H : Heap) (ir ip is : Nat) (q0 : Run) (tot : Nat) (B0 : List Int) (len0 cap0 : Nat) (B1 : List Int) (len1 cap1 : Nat) (bp : Blk) (hq0 : RunOk q0) (htot : tot ≤ 140737488351232)
    (hr : H[ir]? = some (some ⟨true, [.one (.ptr is (0 + 0) 0), .ints .u8 64 q0.b, .one (.int .i64 (q0.m : Nat)), .one (.int .u64 ((tot : Nat) : Int))]⟩)) (hp : H[ip]? = some (some bp)) (hs : H[is]? = some (some ⟨true, [.ints .u32 8 q0.s]⟩)) (id0 sh0 : Nat) (bd0 : Blk) (hBl0 : B0.length = len0) (hcap0 : len0 ≤ cap0) (hlen0 : len0 ≤ 140737488351232) (hd0 : H[id0]? = some (some bd0)) (hds0 : ∀ (i : Nat) (y : SV), atS [.ints .u8 len0 B0] i = some y → atS bd0.segs (sh0 + i) = some y) (id1 sh1 : Nat) (bd1 : Blk) (hBl1 : B1.length = len1) (hcap1 : len1 ≤ cap1) (hlen1 : len1 ≤ 140737488351232) (hd1 : H[id1]? = some (some bd1)) (hds1 : ∀ (i : Nat) (y : SV), atS [.ints .u8 len1 B1] i = some y → atS bd1.segs (sh1 + i) = some y) (hps : bp.segs = [.one (.slice id0 (0 + sh0) 0 len0 cap0), .one (.slice id1 (0 + sh1) 0 len1 cap1)])
    (n1 : ir ≠ ip) (n3 : ir ≠ is) (n4 : is ≠ ip) (n0r : ir ≠ id0) (n0s : is ≠ id0) (n1r : ir ≠ id1) (n1s : is ≠ id1) : AMut Tryz.prog 221 H [.s (.ptr ir (0 + 0) 0), .s (.slice ip (0 + 0) 0 2 2)] (.tup []) (((forget [is] H).set ir (some ⟨true, [.one (.ptr (H.length + 0) (0 + 0) 0), .ints .u8 64 (tk (tk q0 B0) B1).b, .one (.int .i64 ((tk (tk q0 B0) B1).m : Nat)), .one (.int .u64 ((tot + len0 + len1 : Nat) : Int))]⟩)) ++ [some ⟨true, [.ints .u32 8 (tk (tk q0 B0) B1).s]⟩]) := by
  refine amut_gen3 (args0 := [.s (.ptr 0 0 0), .s (.slice 1 0 0 2 2)]) (H0 := [some ⟨true, [.one (.ptr 4 0 0), .ints .u8 64 (q0).b, .one (.int .i64 ((q0).m : Nat)), .one (.int .u64 ((tot : Nat) : Int))]⟩, some ⟨false, [.one (.slice 2 0 0 len0 cap0), .one (.slice 3 0 0 len1 cap1)]⟩, some ⟨false, [.ints .u8 len0 B0]⟩, some ⟨false, [.ints .u8 len1 B1]⟩, some ⟨true, [.ints .u32 8 (q0).s]⟩]) (Hf := [some ⟨true, [.one (.ptr 4 0 0), .ints .u8 64 (tk (tk q0 B0) B1).b, .one (.int .i64 ((tk (tk q0 B0) B1).m : Nat)), .one (.int .u64 ((tot + len0 + len1 : Nat) : Int))]⟩, none, none, none, some ⟨true, [.ints .u32 8 (tk (tk q0 B0) B1).s]⟩]) (v0 := .tup []) [(ir, 0), (ip, 0), (id0, sh0), (id1, sh1), (is, 0)] [4] 4 (Nat.le_of_ble_eq_true rfl) Tryz.func221 rfl Tryz.ntmps221 (by simp) rfl
    (fun k id' sh' b0 h1 h2 => by
      match k, h1, h2 with
      | 0, h1, h2 => simp at h1 h2; obtain ⟨rfl, rfl⟩ := h1; subst h2; exact ⟨rfl, _, hr, fun _ => ⟨rfl, rfl⟩, foot_same rfl⟩
      | 1, h1, h2 => simp at h1 h2; obtain ⟨rfl, rfl⟩ := h1; subst h2; exact ⟨rfl, _, hp, fun e => (by cases e), foot_same hps⟩
      | 2, h1, h2 => simp at h1 h2; obtain ⟨rfl, rfl⟩ := h1; subst h2; exact ⟨rfl, _, hd0, fun e => (by cases e), fun i y hy => by (have h := hds0 i y hy; obtain ⟨_, rfl⟩ := atS_ints1 hy; exact h)⟩
      | 3, h1, h2 => simp at h1 h2; obtain ⟨rfl, rfl⟩ := h1; subst h2; exact ⟨rfl, _, hd1, fun e => (by cases e), fun i y hy => by (have h := hds1 i y hy; obtain ⟨_, rfl⟩ := atS_ints1 hy; exact h)⟩
      | 4, h1, h2 => simp at h1 h2; obtain ⟨rfl, rfl⟩ := h1; subst h2; exact ⟨rfl, _, hs, fun _ => ⟨rfl, rfl⟩, foot_same rfl⟩
      | k + 5, h1, _ => simp at h1)
    (fun k k' id' s1 s2 b0 h1 h1' hne h2 => by
      match k, k', h1, h1', h2, hne with
      | 0, 0, _, _, _, hne => exact absurd rfl hne
      | 0, 1, h1, h1', _, _ => simp at h1 h1'; exact absurd (h1.1.trans h1'.1.symm) n1
      | 0, 2, h1, h1', _, _ => simp at h1 h1'; exact absurd (h1.1.trans h1'.1.symm) n0r
      | 0, 3, h1, h1', _, _ => simp at h1 h1'; exact absurd (h1.1.trans h1'.1.symm) n1r
      | 0, 4, h1, h1', _, _ => simp at h1 h1'; exact absurd (h1.1.trans h1'.1.symm) n3
      | 4, 0, h1, h1', _, _ => simp at h1 h1'; exact absurd (h1'.1.trans h1.1.symm) n3
      | 4, 1, h1, h1', _, _ => simp at h1 h1'; exact absurd (h1.1.trans h1'.1.symm) n4
      | 4, 2, h1, h1', _, _ => simp at h1 h1'; exact absurd (h1.1.trans h1'.1.symm) n0s
      | 4, 3, h1, h1', _, _ => simp at h1 h1'; exact absurd (h1.1.trans h1'.1.symm) n1s
      | 4, 4, _, _, _, hne => exact absurd rfl hne
      | 1, _, _, _, h2, _ => simp at h2; subst h2; rfl
      | 2, _, _, _, h2, _ => simp at h2; subst h2; rfl
      | 3, _, _, _, h2, _ => simp at h2; subst h2; rfl
      | 0, k + 5, _, h1', _, _ => simp at h1'
      | 4, k + 5, _, h1', _, _ => simp at h1'
      | k + 5, _, h1, _, _, _ => simp at h1)
    (fun W ρ vals w hH ha k id' sh' hk => by
      match k, hk with
      | 0, hk => simp at hk; obtain ⟨rfl, rfl⟩ := hk; exact live_ptr (i := 0) ha rfl
      | 1, hk => simp at hk; obtain ⟨rfl, rfl⟩ := hk; exact live_slice (i := 1) ha rfl
      | 2, hk => simp at hk; obtain ⟨rfl, rfl⟩ := hk; exact live_in_slice (p := 0) hH (live_slice (i := 1) ha rfl) hp (by rw [hps]; rfl)
      | 3, hk => simp at hk; obtain ⟨rfl, rfl⟩ := hk; exact live_in_slice (p := 1) hH (live_slice (i := 1) ha rfl) hp (by rw [hps]; rfl)
      | 4, hk => simp at hk; obtain ⟨rfl, rfl⟩ := hk; exact live_in (p := 0) hH (live_ptr (i := 0) ha rfl) hr rfl
      | k + 5, hk => simp at hk)
    rfl rfl rfl (by decide) rfl rfl rfl (fun W w' ρ0 hW hdom => ?_)
  refine w_seq ?_
  refine c_reg (by kernel_rfl) rfl ?_
  refine s_p (by first | exact h_move (v := .s _) rfl | exact h_move (v := .agg _) rfl | exact h_move (v := .tup _) rfl) ?_
  refine s_p (by first | exact h_len rfl Tryz.underlying289 | exact h_len_nil rfl Tryz.underlying289 | exact h_len_val rfl Tryz.underlying289) ?_
  refine s_p (by first | exact h_move (v := .s _) rfl | exact h_move (v := .agg _) rfl | exact h_move (v := .tup _) rfl) ?_
  refine s_nil ?_
  refine n_wp ?_
  refine w_block ?_
  refine c_loop (J2 q0 B0 len0 cap0 B1 len1 cap1 tot) 2 ⟨0, q0, tot, by omega, rfl, fun _ => ⟨rfl, rfl⟩, fun e => absurd e (by omega), fun e => absurd e (by omega), hq0, rfl, rfl⟩ (weak' (by repeat (first | exact trivial | refine ⟨rfl, ?_⟩)) rfl rfl (Nat.le_of_ble_eq_true rfl)) ?_
  rintro n T H ⟨i, qa, ta, hi, rfl, h0, h1, h2, hqa, rfl, rfl⟩
  refine w_seq ?_
  refine c_reg (by kernel_rfl) rfl ?_
  refine s_p (h_bin rfl rfl (b_lss rfl)) ?_
  refine s_nil ?_
  refine n_wp ?_
  refine w_seq ?_
  refine w_cond rfl (fun hc_t11 => ?_) (fun hc_t11 => ?_)
  · skip
    have hi0 : i = 0 ∨ i = 1 := by have := of_decide_eq_true hc_t11; omega
    rcases hi0 with rfl | rfl
    · skip
      obtain ⟨heq, het⟩ := h0 rfl
      refine w_skip ?_
      refine n_wp ?_
      refine w_seq ?_
      refine w_block ?_
      refine w_seq ?_
      refine c_reg (by kernel_rfl) rfl ?_
      refine s_p (h_ixs0l 0 rfl rfl (by rfl) Tryz.underlying289 Tryz.sizeOf49 (by omega)) ?_
      refine s_p (h_load rfl rfl rfl Tryz.isAgg49) ?_
      refine s_p (by first | exact h_assign (v := .s _) rfl | exact h_assign (v := .agg _) rfl | exact h_assign (v := .tup _) rfl) ?_
      refine s_nil ?_
      refine n_wp ?_
      refine w_seq ?_
      refine c_reg (by kernel_rfl) rfl ?_
      refine s_p (by first | exact h_move (v := .s _) rfl | exact h_move (v := .agg _) rfl | exact h_move (v := .tup _) rfl) ?_
      refine s_p (h_nilCheck rfl) ?_
      refine s_p (h_field rfl Tryz.underlying394 rfl Tryz.sizeOf32 (by decide)) ?_
      refine s_p (by first | exact h_load_ints rfl rfl rfl (by omega) rfl Tryz.isAgg32 | exact h_load_one rfl rfl rfl Tryz.isAgg32) ?_
      refine s_p (by first | exact h_move (v := .s _) rfl | exact h_move (v := .agg _) rfl | exact h_move (v := .tup _) rfl) ?_
      refine s_p (by first | exact h_len rfl Tryz.underlying49 | exact h_len_nil rfl Tryz.underlying49 | exact h_len_val rfl Tryz.underlying49) ?_
      refine s_p (h_conv rfl Tryz.underlying3 Tryz.underlying32 (wu_n (c := len0) rfl (by omega))) ?_
      refine s_p (h_bin rfl rfl (b_add (r := ((ta + len0 : Nat) : Int)) (wu_n (by omega) (by omega)))) ?_
      refine s_p (h_nilCheck rfl) ?_
      refine s_p (h_field rfl Tryz.underlying394 rfl Tryz.sizeOf32 (by decide)) ?_
      refine s_st (by first | exact m_store_int rfl rfl rfl rfl (by omega) (by (first | assumption | exact hq.b | exact spl_len _ _ _ _ _)) Tryz.sizeOf32 rfl | exact m_store_one rfl rfl (by simp) rfl rfl Tryz.sizeOf32 rfl) ?_
      refine s_nil ?_
      refine n_wp ?_
      refine w_block ?_
      refine c_loop (J2b 0 2 B0 len0 cap0 B0 len0 cap0 B1 len1 cap1 qa ta) len0 ⟨0, 0, qa, by omega, rfl, fun _ => rfl, by rw [List.drop_zero], hqa, rfl, rfl⟩ (weak' (by repeat (first | exact trivial | refine ⟨rfl, ?_⟩)) rfl rfl (Nat.le_of_ble_eq_true rfl)) ?_
      rintro n T H ⟨j, X, q, hj, rfl, hXj, htk, hq, rfl, rfl⟩
      refine w_seq ?_
      refine w_seq ?_
      refine c_reg (by kernel_rfl) rfl ?_
      refine s_p (by first | exact h_move (v := .s _) rfl | exact h_move (v := .agg _) rfl | exact h_move (v := .tup _) rfl) ?_
      refine s_p (by first | exact h_len rfl Tryz.underlying49 | exact h_len_nil rfl Tryz.underlying49 | exact h_len_val rfl Tryz.underlying49) ?_
      refine s_p (h_bin rfl rfl (b_gtr rfl)) ?_
      refine s_nil ?_
      refine n_wp ?_
      refine w_cond rfl (fun hc_t26 => ?_) (fun hc_t26 => ?_)
      · skip
        have hlt : j < len0 := by have := of_decide_eq_true hc_t26; omega
        have hX := hXj hlt
        subst hX
        obtain ⟨nn, hnn⟩ : ∃ nn, nn = min (len0 - X) (64 - q.m) := ⟨_, rfl⟩
        have hqm := hq.m
        have hn0 : 0 < nn := by omega
        have hon := tk_on q hq B0 X nn len0 hBl0 (by omega) (by omega) hn0
        have hck := chunk_ok hq ((B0.drop X).take nn) nn (by omega)
        refine w_skip ?_
        refine n_wp ?_
        refine w_block ?_
        refine w_seq ?_
        refine c_any 11 mix (by kernel_rfl) (by kernel_rfl) rfl rfl rfl ?_
        refine t_p (by first | exact h_move (v := .s _) rfl | exact h_move (v := .agg _) rfl | exact h_move (v := .tup _) rfl) ?_
        refine t_p (h_nilCheck rfl) ?_
        refine t_p (h_field rfl Tryz.underlying394 rfl Tryz.sizeOf392 (by decide)) ?_
        refine t_p (h_field rfl Tryz.underlying392 rfl Tryz.sizeOf290 (by decide)) ?_
        refine t_p (by first | exact h_move (v := .s _) rfl | exact h_move (v := .agg _) rfl | exact h_move (v := .tup _) rfl) ?_
        refine t_p (h_nilCheck rfl) ?_
        refine t_p (h_field rfl Tryz.underlying394 rfl Tryz.sizeOf392 (by decide)) ?_
        refine t_p (h_field rfl Tryz.underlying392 rfl Tryz.sizeOf3 (by decide)) ?_
        refine t_p (by first | exact h_load_ints rfl rfl rfl (by omega) rfl Tryz.isAgg3 | exact h_load_one rfl rfl rfl Tryz.isAgg3) ?_
        refine t_p (h_asl_l (l := q.m) rfl rfl rfl Tryz.underlying290 Tryz.sizeOf5 hq.m) ?_
        refine t_p (by first | exact h_move (v := .s _) rfl | exact h_move (v := .agg _) rfl | exact h_move (v := .tup _) rfl) ?_
        refine t_nil ?_
        refine s_m (m_copy (n := nn) rfl rfl rfl rfl rfl hBl0 (by omega) (by omega) Tryz.underlying49 Tryz.sizeOf5 (.ints hn0 rfl (by omega))) ?_
        refine s_p (by first | exact h_assign (v := .s _) rfl | exact h_assign (v := .agg _) rfl | exact h_assign (v := .tup _) rfl) ?_
        refine s_nil ?_
        refine n_wp ?_
        refine w_seq ?_
        refine c_reg (by kernel_rfl) rfl ?_
        refine s_p (by first | exact h_move (v := .s _) rfl | exact h_move (v := .agg _) rfl | exact h_move (v := .tup _) rfl) ?_
        refine s_p (by first | exact h_move (v := .s _) rfl | exact h_move (v := .agg _) rfl | exact h_move (v := .tup _) rfl) ?_
        refine s_p (h_slice_l (l := nn) rfl rfl rfl Tryz.underlying49 Tryz.sizeOf5 (by omega)) ?_
        refine s_p (by first | exact h_assign (v := .s _) rfl | exact h_assign (v := .agg _) rfl | exact h_assign (v := .tup _) rfl) ?_
        refine s_nil ?_
        refine n_wp ?_
        refine w_seq ?_
        refine c_reg (by kernel_rfl) rfl ?_
        refine s_p (by first | exact h_move (v := .s _) rfl | exact h_move (v := .agg _) rfl | exact h_move (v := .tup _) rfl) ?_
        refine s_p (h_nilCheck rfl) ?_
        refine s_p (h_field rfl Tryz.underlying394 rfl Tryz.sizeOf392 (by decide)) ?_
        refine s_p (h_field rfl Tryz.underlying392 rfl Tryz.sizeOf3 (by decide)) ?_
        refine s_p (by first | exact h_load_ints rfl rfl rfl (by omega) rfl Tryz.isAgg3 | exact h_load_one rfl rfl rfl Tryz.isAgg3) ?_
        refine s_p (by first | exact h_move (v := .s _) rfl | exact h_move (v := .agg _) rfl | exact h_move (v := .tup _) rfl) ?_
        refine s_p (h_bin rfl rfl (b_add (r := ((q.m + nn : Nat) : Int)) (wr_n (by omega) (by omega)))) ?_
        refine s_p (h_nilCheck rfl) ?_
        refine s_p (h_field rfl Tryz.underlying394 rfl Tryz.sizeOf392 (by decide)) ?_
        refine s_p (h_field rfl Tryz.underlying392 rfl Tryz.sizeOf3 (by decide)) ?_
        refine s_st (by first | exact m_store_int rfl rfl rfl rfl (by omega) (by (first | assumption | exact hq.b | exact spl_len _ _ _ _ _)) Tryz.sizeOf3 rfl | exact m_store_one rfl rfl (by simp) rfl rfl Tryz.sizeOf3 rfl) ?_
        refine s_nil ?_
        refine n_wp ?_
        refine w_seq ?_
        refine c_reg (by kernel_rfl) rfl ?_
        refine s_p (by first | exact h_move (v := .s _) rfl | exact h_move (v := .agg _) rfl | exact h_move (v := .tup _) rfl) ?_
        refine s_p (h_nilCheck rfl) ?_
        refine s_p (h_field rfl Tryz.underlying394 rfl Tryz.sizeOf392 (by decide)) ?_
        refine s_p (h_field rfl Tryz.underlying392 rfl Tryz.sizeOf3 (by decide)) ?_
        refine s_p (by first | exact h_load_ints rfl rfl rfl (by omega) rfl Tryz.isAgg3 | exact h_load_one rfl rfl rfl Tryz.isAgg3) ?_
        refine s_p (h_bin rfl rfl (b_eql rfl)) ?_
        refine s_nil ?_
        refine n_wp ?_
        refine w_cond rfl (fun hc_t57 => ?_) (fun hc_t57 => ?_)
        · skip
          have h64 : q.m + nn = 64 := by have := of_decide_eq_true hc_t57; omega
          have hcq : chunk q ((B0.drop X).take nn) nn = ⟨aft q.s (spl q.b ((B0.drop X).take nn) (0 + q.m) nn 64), spl q.b ((B0.drop X).take nn) (0 + q.m) nn 64, 0⟩ := if_pos h64
          rw [hcq] at hon hck
          refine w_seq ?_
          refine c_any 11 mix (by kernel_rfl) (by kernel_rfl) rfl rfl rfl ?_
          refine t_p (by first | exact h_move (v := .s _) rfl | exact h_move (v := .agg _) rfl | exact h_move (v := .tup _) rfl) ?_
          refine t_p (h_nilCheck rfl) ?_
          refine t_p (h_field rfl Tryz.underlying394 rfl Tryz.sizeOf388 (by decide)) ?_
          refine t_p (by first | exact h_load_ints rfl rfl rfl (by omega) rfl Tryz.isAgg388 | exact h_load_one rfl rfl rfl Tryz.isAgg388) ?_
          refine t_p (h_nilCheck rfl) ?_
          refine t_p (by first | exact h_load_agg rfl rfl (.whole rfl) Tryz.isAgg390 Tryz.sizeOf390 | exact h_load_agg rfl rfl (.seg rfl rfl) Tryz.isAgg390 Tryz.sizeOf390 | exact h_load_agg rfl rfl (.ints rfl (by omega)) Tryz.isAgg390 Tryz.sizeOf390) ?_
          refine t_p (by first | exact h_move (v := .s _) rfl | exact h_move (v := .agg _) rfl | exact h_move (v := .tup _) rfl) ?_
          refine t_p (h_nilCheck rfl) ?_
          refine t_p (h_field rfl Tryz.underlying394 rfl Tryz.sizeOf392 (by decide)) ?_
          refine t_p (h_call callable_273 rfl (after_c q.s (spl q.b ((B0.drop X).take nn) (0 + q.m) nn 64) hq.s (spl_len _ _ _ _ _) _ 0 1 _ rfl rfl)) ?_
          refine t_a (h_alloc (segs := [.ints .u32 8 (z 8)]) Tryz.zeroValue390 (by kernel_rfl) rfl) rfl ?_
          refine t_nil ?_
          refine s_st (by first | exact m_store_agg rfl rfl rfl (.whole (Nat.le_of_ble_eq_true rfl) rfl rfl) Tryz.sizeOf390 rfl | exact m_store_agg rfl rfl rfl (.seg (Nat.le_of_ble_eq_true rfl) rfl rfl rfl) Tryz.sizeOf390 rfl | exact m_store_agg rfl rfl rfl (.ints (Nat.le_of_ble_eq_true rfl) rfl (by omega)) Tryz.sizeOf390 rfl) ?_
          refine s_nil ?_
          refine n_wp ?_
          refine c_reg (by kernel_rfl) rfl ?_
          refine s_p (by first | exact h_move (v := .s _) rfl | exact h_move (v := .agg _) rfl | exact h_move (v := .tup _) rfl) ?_
          refine s_p (by first | exact h_move (v := .s _) rfl | exact h_move (v := .agg _) rfl | exact h_move (v := .tup _) rfl) ?_
          refine s_p (h_nilCheck rfl) ?_
          refine s_p (h_field rfl Tryz.underlying394 rfl Tryz.sizeOf388 (by decide)) ?_
          refine s_st (by first | exact m_store_int rfl rfl rfl rfl (by omega) (by (first | assumption | exact hq.b | exact spl_len _ _ _ _ _)) Tryz.sizeOf388 rfl | exact m_store_one rfl rfl (by simp) rfl rfl Tryz.sizeOf388 rfl) ?_
          refine s_p (h_nilCheck rfl) ?_
          refine s_p (h_field rfl Tryz.underlying394 rfl Tryz.sizeOf392 (by decide)) ?_
          refine s_p (h_field rfl Tryz.underlying392 rfl Tryz.sizeOf3 (by decide)) ?_
          refine s_st (by first | exact m_store_int rfl rfl rfl rfl (by omega) (by (first | assumption | exact hq.b | exact spl_len _ _ _ _ _)) Tryz.sizeOf3 rfl | exact m_store_one rfl rfl (by simp) rfl rfl Tryz.sizeOf3 rfl) ?_
          refine s_nil ?_
          refine n_blo ?_
          exact n_round (len0 - (X + nn)) (by omega) ⟨X + nn, if cap0 - X = nn then X else X + nn, _, by omega, by omega, fun hx => by rw [if_neg (by omega)], by rw [← hon]; exact htk, hck, by rw [show len0 - (X + nn) = len0 - X - nn by omega, show cap0 - (X + nn) = cap0 - X - nn by omega], rfl⟩ (weakR' [0, 1, 2, 3, 5] rfl (by decide) rfl (by repeat (first | exact trivial | refine ⟨⟨_, _, rfl, rfl, rfl, rfl, rfl⟩, ?_⟩)) (by repeat (first | exact trivial | refine ⟨⟨rfl, rfl⟩, ?_⟩)))
        · skip
          have h64 : ¬ q.m + nn = 64 := by have := of_decide_eq_false hc_t57; omega
          have hcq : chunk q ((B0.drop X).take nn) nn = ⟨q.s, spl q.b ((B0.drop X).take nn) (0 + q.m) nn 64, q.m + nn⟩ := if_neg h64
          rw [hcq] at hon hck
          refine w_skip ?_
          refine n_blo ?_
          exact n_round (len0 - (X + nn)) (by omega) ⟨X + nn, if cap0 - X = nn then X else X + nn, _, by omega, by omega, fun hx => by rw [if_neg (by omega)], by rw [← hon]; exact htk, hck, by rw [show len0 - (X + nn) = len0 - X - nn by omega, show cap0 - (X + nn) = cap0 - X - nn by omega], rfl⟩ (weak' (by repeat (first | exact trivial | refine ⟨rfl, ?_⟩)) rfl rfl (Nat.le_of_ble_eq_true rfl))
      · skip
        have hje : j = len0 := by have := of_decide_eq_false hc_t26; omega
        have hfin : q = tk qa B0 := by rw [← htk, hje, List.drop_eq_nil_of_le (by omega), tk_nil]
        subst hfin
        refine w_exit ?_
        refine x_thn ?_
        refine x_thn ?_
        refine x_eq ?_
        refine n_blo ?_
        refine n_wp ?_
        refine c_reg (by kernel_rfl) rfl ?_
        refine s_p (by first | exact h_bin rfl rfl (b_add (Go.IntWalk.i64_in _ (by omega))) | exact h_bin rfl rfl (b_add rfl)) ?_
        refine s_p (by first | exact h_move (v := .s _) rfl | exact h_move (v := .agg _) rfl | exact h_move (v := .tup _) rfl) ?_
        refine s_nil ?_
        exact n_round (2 - 1) (by omega) ⟨1, _, _, by omega, rfl, fun e => absurd e (by omega), fun _ => ⟨by rw [heq], by rw [het]⟩, fun e => absurd e (by omega), tk_ok hqa _, rfl, rfl⟩ (weak' (by repeat (first | exact trivial | refine ⟨rfl, ?_⟩)) rfl rfl (Nat.le_of_ble_eq_true rfl))
    · skip
      obtain ⟨heq, het⟩ := h1 rfl
      refine w_skip ?_
      refine n_wp ?_
      refine w_seq ?_
      refine w_block ?_
      refine w_seq ?_
      refine c_reg (by kernel_rfl) rfl ?_
      refine s_p (h_ixs0l 1 rfl rfl (by rfl) Tryz.underlying289 Tryz.sizeOf49 (by omega)) ?_
      refine s_p (h_load rfl rfl rfl Tryz.isAgg49) ?_
      refine s_p (by first | exact h_assign (v := .s _) rfl | exact h_assign (v := .agg _) rfl | exact h_assign (v := .tup _) rfl) ?_
      refine s_nil ?_
      refine n_wp ?_
      refine w_seq ?_
      refine c_reg (by kernel_rfl) rfl ?_
      refine s_p (by first | exact h_move (v := .s _) rfl | exact h_move (v := .agg _) rfl | exact h_move (v := .tup _) rfl) ?_
      refine s_p (h_nilCheck rfl) ?_
      refine s_p (h_field rfl Tryz.underlying394 rfl Tryz.sizeOf32 (by decide)) ?_
      refine s_p (by first | exact h_load_ints rfl rfl rfl (by omega) rfl Tryz.isAgg32 | exact h_load_one rfl rfl rfl Tryz.isAgg32) ?_
      refine s_p (by first | exact h_move (v := .s _) rfl | exact h_move (v := .agg _) rfl | exact h_move (v := .tup _) rfl) ?_
      refine s_p (by first | exact h_len rfl Tryz.underlying49 | exact h_len_nil rfl Tryz.underlying49 | exact h_len_val rfl Tryz.underlying49) ?_
      refine s_p (h_conv rfl Tryz.underlying3 Tryz.underlying32 (wu_n (c := len1) rfl (by omega))) ?_
      refine s_p (h_bin rfl rfl (b_add (r := ((ta + len1 : Nat) : Int)) (wu_n (by omega) (by omega)))) ?_
      refine s_p (h_nilCheck rfl) ?_
      refine s_p (h_field rfl Tryz.underlying394 rfl Tryz.sizeOf32 (by decide)) ?_
      refine s_st (by first | exact m_store_int rfl rfl rfl rfl (by omega) (by (first | assumption | exact hq.b | exact spl_len _ _ _ _ _)) Tryz.sizeOf32 rfl | exact m_store_one rfl rfl (by simp) rfl rfl Tryz.sizeOf32 rfl) ?_
      refine s_nil ?_
      refine n_wp ?_
      refine w_block ?_
      refine c_loop (J2b 1 3 B1 len1 cap1 B0 len0 cap0 B1 len1 cap1 qa ta) len1 ⟨0, 0, qa, by omega, rfl, fun _ => rfl, by rw [List.drop_zero], hqa, rfl, rfl⟩ (weak' (by repeat (first | exact trivial | refine ⟨rfl, ?_⟩)) rfl rfl (Nat.le_of_ble_eq_true rfl)) ?_
      rintro n T H ⟨j, X, q, hj, rfl, hXj, htk, hq, rfl, rfl⟩
      refine w_seq ?_
      refine w_seq ?_
      refine c_reg (by kernel_rfl) rfl ?_
      refine s_p (by first | exact h_move (v := .s _) rfl | exact h_move (v := .agg _) rfl | exact h_move (v := .tup _) rfl) ?_
      refine s_p (by first | exact h_len rfl Tryz.underlying49 | exact h_len_nil rfl Tryz.underlying49 | exact h_len_val rfl Tryz.underlying49) ?_
      refine s_p (h_bin rfl rfl (b_gtr rfl)) ?_
      refine s_nil ?_
      refine n_wp ?_
      refine w_cond rfl (fun hc_t26 => ?_) (fun hc_t26 => ?_)
      · skip
        have hlt : j < len1 := by have := of_decide_eq_true hc_t26; omega
        have hX := hXj hlt
        subst hX
        obtain ⟨nn, hnn⟩ : ∃ nn, nn = min (len1 - X) (64 - q.m) := ⟨_, rfl⟩
        have hqm := hq.m
        have hn0 : 0 < nn := by omega
        have hon := tk_on q hq B1 X nn len1 hBl1 (by omega) (by omega) hn0
        have hck := chunk_ok hq ((B1.drop X).take nn) nn (by omega)
        refine w_skip ?_
        refine n_wp ?_
        refine w_block ?_
        refine w_seq ?_
        refine c_any 11 mix (by kernel_rfl) (by kernel_rfl) rfl rfl rfl ?_
        refine t_p (by first | exact h_move (v := .s _) rfl | exact h_move (v := .agg _) rfl | exact h_move (v := .tup _) rfl) ?_
        refine t_p (h_nilCheck rfl) ?_
        refine t_p (h_field rfl Tryz.underlying394 rfl Tryz.sizeOf392 (by decide)) ?_
        refine t_p (h_field rfl Tryz.underlying392 rfl Tryz.sizeOf290 (by decide)) ?_
        refine t_p (by first | exact h_move (v := .s _) rfl | exact h_move (v := .agg _) rfl | exact h_move (v := .tup _) rfl) ?_
        refine t_p (h_nilCheck rfl) ?_
        refine t_p (h_field rfl Tryz.underlying394 rfl Tryz.sizeOf392 (by decide)) ?_
        refine t_p (h_field rfl Tryz.underlying392 rfl Tryz.sizeOf3 (by decide)) ?_
        refine t_p (by first | exact h_load_ints rfl rfl rfl (by omega) rfl Tryz.isAgg3 | exact h_load_one rfl rfl rfl Tryz.isAgg3) ?_
        refine t_p (h_asl_l (l := q.m) rfl rfl rfl Tryz.underlying290 Tryz.sizeOf5 hq.m) ?_
        refine t_p (by first | exact h_move (v := .s _) rfl | exact h_move (v := .agg _) rfl | exact h_move (v := .tup _) rfl) ?_
        refine t_nil ?_
        refine s_m (m_copy (n := nn) rfl rfl rfl rfl rfl hBl1 (by omega) (by omega) Tryz.underlying49 Tryz.sizeOf5 (.ints hn0 rfl (by omega))) ?_
        refine s_p (by first | exact h_assign (v := .s _) rfl | exact h_assign (v := .agg _) rfl | exact h_assign (v := .tup _) rfl) ?_
        refine s_nil ?_
        refine n_wp ?_
        refine w_seq ?_
        refine c_reg (by kernel_rfl) rfl ?_
        refine s_p (by first | exact h_move (v := .s _) rfl | exact h_move (v := .agg _) rfl | exact h_move (v := .tup _) rfl) ?_
        refine s_p (by first | exact h_move (v := .s _) rfl | exact h_move (v := .agg _) rfl | exact h_move (v := .tup _) rfl) ?_
        refine s_p (h_slice_l (l := nn) rfl rfl rfl Tryz.underlying49 Tryz.sizeOf5 (by omega)) ?_
        refine s_p (by first | exact h_assign (v := .s _) rfl | exact h_assign (v := .agg _) rfl | exact h_assign (v := .tup _) rfl) ?_
        refine s_nil ?_
        refine n_wp ?_
        refine w_seq ?_
        refine c_reg (by kernel_rfl) rfl ?_
        refine s_p (by first | exact h_move (v := .s _) rfl | exact h_move (v := .agg _) rfl | exact h_move (v := .tup _) rfl) ?_
        refine s_p (h_nilCheck rfl) ?_
        refine s_p (h_field rfl Tryz.underlying394 rfl Tryz.sizeOf392 (by decide)) ?_
        refine s_p (h_field rfl Tryz.underlying392 rfl Tryz.sizeOf3 (by decide)) ?_
        refine s_p (by first | exact h_load_ints rfl rfl rfl (by omega) rfl Tryz.isAgg3 | exact h_load_one rfl rfl rfl Tryz.isAgg3) ?_
        refine s_p (by first | exact h_move (v := .s _) rfl | exact h_move (v := .agg _) rfl | exact h_move (v := .tup _) rfl) ?_
        refine s_p (h_bin rfl rfl (b_add (r := ((q.m + nn : Nat) : Int)) (wr_n (by omega) (by omega)))) ?_
        refine s_p (h_nilCheck rfl) ?_
        refine s_p (h_field rfl Tryz.underlying394 rfl Tryz.sizeOf392 (by decide)) ?_
        refine s_p (h_field rfl Tryz.underlying392 rfl Tryz.sizeOf3 (by decide)) ?_
        refine s_st (by first | exact m_store_int rfl rfl rfl rfl (by omega) (by (first | assumption | exact hq.b | exact spl_len _ _ _ _ _)) Tryz.sizeOf3 rfl | exact m_store_one rfl rfl (by simp) rfl rfl Tryz.sizeOf3 rfl) ?_
        refine s_nil ?_
        refine n_wp ?_
        refine w_seq ?_
        refine c_reg (by kernel_rfl) rfl ?_
        refine s_p (by first | exact h_move (v := .s _) rfl | exact h_move (v := .agg _) rfl | exact h_move (v := .tup _) rfl) ?_
        refine s_p (h_nilCheck rfl) ?_
        refine s_p (h_field rfl Tryz.underlying394 rfl Tryz.sizeOf392 (by decide)) ?_
        refine s_p (h_field rfl Tryz.underlying392 rfl Tryz.sizeOf3 (by decide)) ?_
        refine s_p (by first | exact h_load_ints rfl rfl rfl (by omega) rfl Tryz.isAgg3 | exact h_load_one rfl rfl rfl Tryz.isAgg3) ?_
        refine s_p (h_bin rfl rfl (b_eql rfl)) ?_
        refine s_nil ?_
        refine n_wp ?_
        refine w_cond rfl (fun hc_t57 => ?_) (fun hc_t57 => ?_)
        · skip
          have h64 : q.m + nn = 64 := by have := of_decide_eq_true hc_t57; omega
          have hcq : chunk q ((B1.drop X).take nn) nn = ⟨aft q.s (spl q.b ((B1.drop X).take nn) (0 + q.m) nn 64), spl q.b ((B1.drop X).take nn) (0 + q.m) nn 64, 0⟩ := if_pos h64
          rw [hcq] at hon hck
          refine w_seq ?_
          refine c_any 11 mix (by kernel_rfl) (by kernel_rfl) rfl rfl rfl ?_
          refine t_p (by first | exact h_move (v := .s _) rfl | exact h_move (v := .agg _) rfl | exact h_move (v := .tup _) rfl) ?_
          refine t_p (h_nilCheck rfl) ?_
          refine t_p (h_field rfl Tryz.underlying394 rfl Tryz.sizeOf388 (by decide)) ?_
          refine t_p (by first | exact h_load_ints rfl rfl rfl (by omega) rfl Tryz.isAgg388 | exact h_load_one rfl rfl rfl Tryz.isAgg388) ?_
          refine t_p (h_nilCheck rfl) ?_
          refine t_p (by first | exact h_load_agg rfl rfl (.whole rfl) Tryz.isAgg390 Tryz.sizeOf390 | exact h_load_agg rfl rfl (.seg rfl rfl) Tryz.isAgg390 Tryz.sizeOf390 | exact h_load_agg rfl rfl (.ints rfl (by omega)) Tryz.isAgg390 Tryz.sizeOf390) ?_
          refine t_p (by first | exact h_move (v := .s _) rfl | exact h_move (v := .agg _) rfl | exact h_move (v := .tup _) rfl) ?_
          refine t_p (h_nilCheck rfl) ?_
          refine t_p (h_field rfl Tryz.underlying394 rfl Tryz.sizeOf392 (by decide)) ?_
          refine t_p (h_call callable_273 rfl (after_c q.s (spl q.b ((B1.drop X).take nn) (0 + q.m) nn 64) hq.s (spl_len _ _ _ _ _) _ 0 1 _ rfl rfl)) ?_
          refine t_a (h_alloc (segs := [.ints .u32 8 (z 8)]) Tryz.zeroValue390 (by kernel_rfl) rfl) rfl ?_
          refine t_nil ?_
          refine s_st (by first | exact m_store_agg rfl rfl rfl (.whole (Nat.le_of_ble_eq_true rfl) rfl rfl) Tryz.sizeOf390 rfl | exact m_store_agg rfl rfl rfl (.seg (Nat.le_of_ble_eq_true rfl) rfl rfl rfl) Tryz.sizeOf390 rfl | exact m_store_agg rfl rfl rfl (.ints (Nat.le_of_ble_eq_true rfl) rfl (by omega)) Tryz.sizeOf390 rfl) ?_
          refine s_nil ?_
          refine n_wp ?_
          refine c_reg (by kernel_rfl) rfl ?_
          refine s_p (by first | exact h_move (v := .s _) rfl | exact h_move (v := .agg _) rfl | exact h_move (v := .tup _) rfl) ?_
          refine s_p (by first | exact h_move (v := .s _) rfl | exact h_move (v := .agg _) rfl | exact h_move (v := .tup _) rfl) ?_
          refine s_p (h_nilCheck rfl) ?_
          refine s_p (h_field rfl Tryz.underlying394 rfl Tryz.sizeOf388 (by decide)) ?_
          refine s_st (by first | exact m_store_int rfl rfl rfl rfl (by omega) (by (first | assumption | exact hq.b | exact spl_len _ _ _ _ _)) Tryz.sizeOf388 rfl | exact m_store_one rfl rfl (by simp) rfl rfl Tryz.sizeOf388 rfl) ?_
          refine s_p (h_nilCheck rfl) ?_
          refine s_p (h_field rfl Tryz.underlying394 rfl Tryz.sizeOf392 (by decide)) ?_
          refine s_p (h_field rfl Tryz.underlying392 rfl Tryz.sizeOf3 (by decide)) ?_
          refine s_st (by first | exact m_store_int rfl rfl rfl rfl (by omega) (by (first | assumption | exact hq.b | exact spl_len _ _ _ _ _)) Tryz.sizeOf3 rfl | exact m_store_one rfl rfl (by simp) rfl rfl Tryz.sizeOf3 rfl) ?_
          refine s_nil ?_
          refine n_blo ?_
          exact n_round (len1 - (X + nn)) (by omega) ⟨X + nn, if cap1 - X = nn then X else X + nn, _, by omega, by omega, fun hx => by rw [if_neg (by omega)], by rw [← hon]; exact htk, hck, by rw [show len1 - (X + nn) = len1 - X - nn by omega, show cap1 - (X + nn) = cap1 - X - nn by omega], rfl⟩ (weakR' [0, 1, 2, 3, 5] rfl (by decide) rfl (by repeat (first | exact trivial | refine ⟨⟨_, _, rfl, rfl, rfl, rfl, rfl⟩, ?_⟩)) (by repeat (first | exact trivial | refine ⟨⟨rfl, rfl⟩, ?_⟩)))
        · skip
          have h64 : ¬ q.m + nn = 64 := by have := of_decide_eq_false hc_t57; omega
          have hcq : chunk q ((B1.drop X).take nn) nn = ⟨q.s, spl q.b ((B1.drop X).take nn) (0 + q.m) nn 64, q.m + nn⟩ := if_neg h64
          rw [hcq] at hon hck
          refine w_skip ?_
          refine n_blo ?_
          exact n_round (len1 - (X + nn)) (by omega) ⟨X + nn, if cap1 - X = nn then X else X + nn, _, by omega, by omega, fun hx => by rw [if_neg (by omega)], by rw [← hon]; exact htk, hck, by rw [show len1 - (X + nn) = len1 - X - nn by omega, show cap1 - (X + nn) = cap1 - X - nn by omega], rfl⟩ (weak' (by repeat (first | exact trivial | refine ⟨rfl, ?_⟩)) rfl rfl (Nat.le_of_ble_eq_true rfl))
      · skip
        have hje : j = len1 := by have := of_decide_eq_false hc_t26; omega
        have hfin : q = tk qa B1 := by rw [← htk, hje, List.drop_eq_nil_of_le (by omega), tk_nil]
        subst hfin
        refine w_exit ?_
        refine x_thn ?_
        refine x_thn ?_
        refine x_eq ?_
        refine n_blo ?_
        refine n_wp ?_
        refine c_reg (by kernel_rfl) rfl ?_
        refine s_p (by first | exact h_bin rfl rfl (b_add (Go.IntWalk.i64_in _ (by omega))) | exact h_bin rfl rfl (b_add rfl)) ?_
        refine s_p (by first | exact h_move (v := .s _) rfl | exact h_move (v := .agg _) rfl | exact h_move (v := .tup _) rfl) ?_
        refine s_nil ?_
        exact n_round (2 - 2) (by omega) ⟨2, _, _, by omega, rfl, fun e => absurd e (by omega), fun e => absurd e (by omega), fun _ => ⟨by rw [heq], by rw [het]⟩, tk_ok hqa _, rfl, rfl⟩ (weak' (by repeat (first | exact trivial | refine ⟨rfl, ?_⟩)) rfl rfl (Nat.le_of_ble_eq_true rfl))
  · skip
    have hi1 : i = 2 := by have := of_decide_eq_false hc_t11; omega
    subst hi1
    obtain ⟨rfl, rfl⟩ := h2 rfl
    refine w_exit ?_
    refine x_thn ?_
    refine x_thn ?_
    refine x_eq ?_
    exact doneN (by repeat (first | exact trivial | refine ⟨rfl, ?_⟩)) (ret_none Tryz.results221)
end Go.Proofs.X
end
