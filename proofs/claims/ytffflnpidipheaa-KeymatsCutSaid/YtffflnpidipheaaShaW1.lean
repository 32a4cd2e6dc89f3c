/- A part of the proofs of this claim: ShaW1. No conditions. -/
import Derived.Test.YtffflnpidipheaaShaSpec
import Derived.Test.YtffflnpidipheaaProg
import Derived.KernelRfl
open Go Go.Ab Go.Proofs
namespace Go.Proofs.X
theorem mix : Try.prog.follows .mixedOrders = true := by kernel_rfl
theorem callable_84 : Callable Try.prog 84 := ⟨_, Try.func84, by kernel_rfl, rfl⟩
theorem callable_82 : Callable Try.prog 82 := ⟨_, Try.func82, by kernel_rfl, rfl⟩
theorem callable_81 : Callable Try.prog 81 := ⟨_, Try.func81, by kernel_rfl, rfl⟩
theorem callable_63 : Callable Try.prog 63 := ⟨_, Try.func63, by kernel_rfl, rfl⟩
theorem callable_80 : Callable Try.prog 80 := ⟨_, Try.func80, by kernel_rfl, rfl⟩
theorem callable_83 : Callable Try.prog 83 := ⟨_, Try.func83, by kernel_rfl, rfl⟩
theorem callable_78 : Callable Try.prog 78 := ⟨_, Try.func78, by kernel_rfl, rfl⟩
set_option maxRecDepth 100000 in
set_option maxHeartbeats 2000000 in
theorem rot_c (x k : Int) (H : Heap) : ACall Try.prog 84 H [.s (.int .u32 x), .s (.int .i64 k)] (.s (.int .u32 (rotI x k))) [] := by
  refine acall_free Try.func84 rfl Try.ntmps84 (by simp) rfl rfl (fun W w hW => ?_) H
  refine w_seq ?_
  refine c_reg (by kernel_rfl) rfl ?_
  refine s_p (by first | exact h_assign (v := .s _) rfl | exact h_assign (v := .agg _) rfl | exact h_assign (v := .tup _) rfl) ?_
  refine s_nil ?_
  refine n_wp ?_
  refine w_seq ?_
  refine c_reg (by kernel_rfl) rfl ?_
  refine s_p (by first | exact h_move (v := .s _) rfl | exact h_move (v := .agg _) rfl | exact h_move (v := .tup _) rfl) ?_
  refine s_p (by first | exact h_conv rfl Try.underlying3 Try.underlying71 (Go.IntWalk.i64_in _ (by omega)) | exact h_conv rfl Try.underlying3 Try.underlying71 (wrap_u8 (by omega) (by omega)) | exact h_conv rfl Try.underlying3 Try.underlying71 rfl) ?_
  refine s_p (h_bin rfl rfl (b_and rfl)) ?_
  refine s_p (by first | exact h_assign (v := .s _) rfl | exact h_assign (v := .agg _) rfl | exact h_assign (v := .tup _) rfl) ?_
  refine s_nil ?_
  refine n_wp ?_
  refine w_seq ?_
  refine c_reg (by kernel_rfl) rfl ?_
  refine s_p (by first | exact h_move (v := .s _) rfl | exact h_move (v := .agg _) rfl | exact h_move (v := .tup _) rfl) ?_
  refine s_p (by first | exact h_move (v := .s _) rfl | exact h_move (v := .agg _) rfl | exact h_move (v := .tup _) rfl) ?_
  refine s_p (h_bin rfl rfl (b_shl (rs_nonneg k) rfl)) ?_
  refine s_p (by first | exact h_move (v := .s _) rfl | exact h_move (v := .agg _) rfl | exact h_move (v := .tup _) rfl) ?_
  refine s_p (by first | exact h_move (v := .s _) rfl | exact h_move (v := .agg _) rfl | exact h_move (v := .tup _) rfl) ?_
  refine s_p (h_bin rfl rfl (b_sub rfl)) ?_
  refine s_p (h_bin rfl rfl (b_shr (wrap_u64_nonneg _) rfl)) ?_
  refine s_p (h_bin rfl rfl (b_or rfl)) ?_
  refine s_p (by first | exact h_assign (v := .s _) rfl | exact h_assign (v := .agg _) rfl | exact h_assign (v := .tup _) rfl) ?_
  refine s_nil ?_
  refine n_wp ?_
  refine w_ret ?_
  exact ⟨.inl rfl, ret_tmp Try.results84 rfl⟩


def I82 (x : Int) (B : List Int) (len cap : Nat) (n : Nat) (T : Tm) (H : Heap) : Prop := ∃ i : Nat, i ≤ len ∧ n = len - i ∧
  T = [(0, .s (.int .u32 x)), (5, .s (.int .u32 (dnI x B i))), (8, .s (.slice 0 0 0 len cap)), (9, .s (.int .i64 len)), (10, .s (.int .i64 i))] ∧ H = [some ⟨false, [.ints .i64 len B]⟩]
set_option maxRecDepth 100000 in
set_option maxHeartbeats 2000000 in
theorem down_c (x : Int) (B : List Int) (len cap : Nat) (H : Heap) (id base idx n : Nat) (bk : Blk) (l0 : List Int) (hid : H[id]? = some (some bk)) (hs0 : segAt bk.segs base = some (.ints .i64 n l0)) (hn0 : idx + len ≤ n) (hB : B = (l0.drop idx).take len) (hm : len ≤ 140737488351232)  : ACall Try.prog 82 H [.s (.int .u32 x), .s (.slice id base idx len cap)] (.s (.int .u32 (dnI x B len))) [] := by
  refine acall_gen (args0 := [.s (.int .u32 x), .s (.slice 0 0 0 len cap)]) (H0 := [some ⟨false, [.ints .i64 len B]⟩]) (vf := (fun _ => .s (.int .u32 (dnI x B len)))) [(id, base + idx)] Try.func82 rfl Try.ntmps82 (by simp) rfl (foot1 rfl hid (fun i x h => by subst hB; exact win_ints hs0 hn0 i x h) rfl) rfl (fun i x0 x h0 h1 ρ u hr => by match i, h0, h1 with | 0, h0, h1 => (simp at h0 h1; subst h0; subst h1; exact arg_free rfl hr) | 1, h0, h1 => (simp at h0 h1; subst h0; subst h1; exact arg_slice (by rfl) hr) | i + 2, h0, _ => simp at h0) rfl (ren_free rfl) (fun W w ρ0 hW hdom => ?_)
  refine w_seq ?_
  refine c_reg (by kernel_rfl) rfl ?_
  refine s_p (by first | exact h_assign (v := .s _) rfl | exact h_assign (v := .agg _) rfl | exact h_assign (v := .tup _) rfl) ?_
  refine s_nil ?_
  refine n_wp ?_
  refine w_seq ?_
  refine c_reg (by kernel_rfl) rfl ?_
  refine s_p (by first | exact h_assign (v := .s _) rfl | exact h_assign (v := .agg _) rfl | exact h_assign (v := .tup _) rfl) ?_
  refine s_nil ?_
  refine n_wp ?_
  refine w_seq ?_
  refine w_seq ?_
  refine c_reg (by kernel_rfl) rfl ?_
  refine s_p (by first | exact h_move (v := .s _) rfl | exact h_move (v := .agg _) rfl | exact h_move (v := .tup _) rfl) ?_
  refine s_p (by first | exact h_len rfl Try.underlying162 | exact h_len_nil rfl Try.underlying162 | exact h_len_val rfl Try.underlying162) ?_
  refine s_p (by first | exact h_move (v := .s _) rfl | exact h_move (v := .agg _) rfl | exact h_move (v := .tup _) rfl) ?_
  refine s_nil ?_
  refine n_wp ?_
  refine w_block ?_
  refine c_loop (I82 x B len cap) len ⟨0, by omega, rfl, by rw [dnI_0], rfl⟩ (weak' (by repeat (first | exact trivial | refine ⟨rfl, ?_⟩)) rfl rfl (Nat.le_of_ble_eq_true rfl)) ?_
  rintro n T H ⟨i, hi, rfl, rfl, rfl⟩
  refine w_seq ?_
  refine c_reg (by kernel_rfl) rfl ?_
  refine s_p (h_bin rfl rfl (b_lss rfl)) ?_
  refine s_nil ?_
  refine n_wp ?_
  refine w_seq ?_
  refine w_cond rfl (fun hc_t11 => ?_) (fun hc_t11 => ?_)
  · skip
    have hlt : i < len := by have := of_decide_eq_true hc_t11; omega
    refine w_skip ?_
    refine n_wp ?_
    refine w_seq ?_
    refine w_block ?_
    refine w_seq ?_
    refine c_reg (by kernel_rfl) rfl ?_
    refine s_p (by first | exact h_ixs0 rfl rfl Try.underlying162 Try.sizeOf3 (by omega) | exact h_ixs rfl rfl Try.underlying162 Try.sizeOf3 (by omega) | exact h_ixsx rfl rfl Try.underlying162 Try.sizeOf3 (by omega)) ?_
    refine s_p (by first | exact h_load_ints rfl rfl rfl (by omega) rfl Try.isAgg3 | exact h_load_one rfl rfl rfl Try.isAgg3) ?_
    refine s_p (by first | exact h_assign (v := .s _) rfl | exact h_assign (v := .agg _) rfl | exact h_assign (v := .tup _) rfl) ?_
    refine s_nil ?_
    refine n_wp ?_
    refine c_reg (by kernel_rfl) rfl ?_
    refine s_p (by first | exact h_move (v := .s _) rfl | exact h_move (v := .agg _) rfl | exact h_move (v := .tup _) rfl) ?_
    refine s_p (by first | exact h_move (v := .s _) rfl | exact h_move (v := .agg _) rfl | exact h_move (v := .tup _) rfl) ?_
    refine s_p (by first | exact h_move (v := .s _) rfl | exact h_move (v := .agg _) rfl | exact h_move (v := .tup _) rfl) ?_
    refine s_p (h_neg rfl rfl) ?_
    refine s_p (h_call callable_84 rfl (rot_c _ _ _)) ?_
    refine s_p (h_bin rfl rfl (b_xor rfl)) ?_
    refine s_p (by first | exact h_assign (v := .s _) rfl | exact h_assign (v := .agg _) rfl | exact h_assign (v := .tup _) rfl) ?_
    refine s_nil ?_
    refine n_blo ?_
    refine n_wp ?_
    refine c_reg (by kernel_rfl) rfl ?_
    refine s_p (by first | exact h_bin rfl rfl (b_add (Go.IntWalk.i64_in _ (by omega))) | exact h_bin rfl rfl (b_add rfl)) ?_
    refine s_p (by first | exact h_move (v := .s _) rfl | exact h_move (v := .agg _) rfl | exact h_move (v := .tup _) rfl) ?_
    refine s_nil ?_
    exact n_round (len - (i + 1)) (by omega) ⟨i + 1, by omega, rfl, by rw [dnI_s], rfl⟩ (weak' (by repeat (first | exact trivial | refine ⟨rfl, ?_⟩)) rfl rfl (Nat.le_of_ble_eq_true rfl))
  · skip
    obtain rfl : i = len := by have := of_decide_eq_false hc_t11; omega
    refine w_exit ?_
    refine x_thn ?_
    refine x_thn ?_
    refine x_eq ?_
    refine n_wp ?_
    refine w_seq ?_
    refine c_reg (by kernel_rfl) rfl ?_
    refine s_p (by first | exact h_move (v := .s _) rfl | exact h_move (v := .agg _) rfl | exact h_move (v := .tup _) rfl) ?_
    refine s_p (by first | exact h_assign (v := .s _) rfl | exact h_assign (v := .agg _) rfl | exact h_assign (v := .tup _) rfl) ?_
    refine s_nil ?_
    refine n_wp ?_
    refine w_ret ?_
    refine done0 ?_
    exact ret_tmp Try.results82 rfl

set_option maxRecDepth 100000 in
set_option maxHeartbeats 2000000 in
theorem adds_c (H : Heap) : ACall Try.prog 81 H [] (.agg [.ints .u32 64 KS]) [] := by
  refine acall_free Try.func81 rfl Try.ntmps81 (by simp) rfl rfl (fun W w hW => ?_) H
  refine w_seq ?_
  refine c_reg (by kernel_rfl) rfl ?_
  refine s_a (h_alloc (segs := [.ints .u32 64 (z 64)]) Try.zeroValue156 (by kernel_rfl) rfl) rfl ?_
  refine s_nil ?_
  refine n_wp ?_
  refine w_seq ?_
  refine c_reg (by kernel_rfl) rfl ?_
  refine s_p (h_build_ints (n := 64) (l := [(0, 1116352408), (1, 1899447441), (2, 3049323471), (3, 3921009573), (4, 961987163), (5, 1508970993), (6, 2453635748), (7, 2870763221), (8, 3624381080), (9, 310598401), (10, 607225278), (11, 1426881987), (12, 1925078388), (13, 2162078206), (14, 2614888103), (15, 3248222580), (16, 3835390401), (17, 4022224774), (18, 264347078), (19, 604807628), (20, 770255983), (21, 1249150122), (22, 1555081692), (23, 1996064986), (24, 2554220882), (25, 2821834349), (26, 2952996808), (27, 3210313671), (28, 3336571891), (29, 3584528711), (30, 113926993), (31, 338241895), (32, 666307205), (33, 773529912), (34, 1294757372), (35, 1396182291), (36, 1695183700), (37, 1986661051), (38, 2177026350), (39, 2456956037), (40, 2730485921), (41, 2820302411), (42, 3259730800), (43, 3345764771), (44, 3516065817), (45, 3600352804), (46, 4094571909), (47, 275423344), (48, 430227734), (49, 506948616), (50, 659060556), (51, 883997877), (52, 958139571), (53, 1322822218), (54, 1537002063), (55, 1747873779), (56, 1955562222), (57, 2024104815), (58, 2227730452), (59, 2361852424), (60, 2428436474), (61, 2756734187), (62, 3204031479), (63, 3329325298)]) (xs := KS) rfl (fun w => by kernel_rfl) KS_len) ?_
  refine s_st (by first | exact m_store_agg rfl rfl rfl (.whole (Nat.le_of_ble_eq_true rfl) rfl rfl) Try.sizeOf156 rfl | exact m_store_agg rfl rfl rfl (.seg (Nat.le_of_ble_eq_true rfl) rfl rfl rfl) Try.sizeOf156 rfl | exact m_store_agg rfl rfl rfl (.ints (Nat.le_of_ble_eq_true rfl) rfl (by omega)) Try.sizeOf156 rfl) ?_
  refine s_nil ?_
  refine n_wp ?_
  refine w_ret ?_
  exact ⟨.inl rfl, ret_cell_agg Try.results81 rfl rfl (.whole rfl) Try.isAgg156 Try.sizeOf156⟩

def I63 (B v : List Int) (len : Nat) (n : Nat) (T : Tm) (H : Heap) : Prop := ∃ i : Nat, i ≤ 8 ∧ n = 8 - i ∧
  T = [(4, .s (.int .u64 (gI v i))), (6, .s (.ptr 1 0 0)), (23, .s (.int .i64 i))] ∧ H = [some ⟨false, [.ints .u8 len B]⟩, some ⟨true, [.ints .u8 8 v]⟩]
set_option maxRecDepth 100000 in
set_option maxHeartbeats 2000000 in
theorem get_c (B : List Int) (m : Nat) (hm0 : 0 < m) (hm8 : m ≤ 8) (len cap : Nat) (H : Heap) (id base idx n : Nat) (bk : Blk) (l0 : List Int) (hid : H[id]? = some (some bk)) (hs0 : segAt bk.segs base = some (.ints .u8 n l0)) (hn0 : idx + len ≤ n) (hB : B = (l0.drop idx).take len) (hml : m ≤ len) (hm : len ≤ 140737488351232) (hl0 : l0.length = n) : ACall Try.prog 63 H [.s (.slice id base idx len cap), .s (.int .i64 m)] (.tup [.s (.int .u64 (getI B m)), .s (.int .i64 0)]) [] := by
  have hBl : B.length = len := by rw [hB]; simp; omega
  refine acall_gen (args0 := [.s (.slice 0 0 0 len cap), .s (.int .i64 m)]) (H0 := [some ⟨false, [.ints .u8 len B]⟩]) (vf := (fun _ => .tup [.s (.int .u64 (getI B m)), .s (.int .i64 0)])) [(id, base + idx)] Try.func63 rfl Try.ntmps63 (by simp) rfl (foot1 rfl hid (fun i x h => by subst hB; exact win_ints hs0 hn0 i x h) rfl) rfl (fun i x0 x h0 h1 ρ u hr => by match i, h0, h1 with | 0, h0, h1 => (simp at h0 h1; subst h0; subst h1; exact arg_slice (by rfl) hr) | 1, h0, h1 => (simp at h0 h1; subst h0; subst h1; exact arg_free rfl hr) | i + 2, h0, _ => simp at h0) rfl (ren_free rfl) (fun W w ρ0 hW hdom => ?_)
  refine w_seq ?_
  refine c_reg (by kernel_rfl) rfl ?_
  refine s_p (by first | exact h_assign (v := .s _) rfl | exact h_assign (v := .agg _) rfl | exact h_assign (v := .tup _) rfl) ?_
  refine s_p (by first | exact h_assign (v := .s _) rfl | exact h_assign (v := .agg _) rfl | exact h_assign (v := .tup _) rfl) ?_
  refine s_nil ?_
  refine n_wp ?_
  refine w_seq ?_
  refine w_seq ?_
  refine c_reg (by kernel_rfl) rfl ?_
  refine s_p (by first | exact h_move (v := .s _) rfl | exact h_move (v := .agg _) rfl | exact h_move (v := .tup _) rfl) ?_
  refine s_p (h_bin rfl rfl (b_lss (r := false) (decide_eq_false (by omega)))) ?_
  refine s_p (by first | exact h_move (v := .s _) rfl | exact h_move (v := .agg _) rfl | exact h_move (v := .tup _) rfl) ?_
  first | refine s_on rfl rfl (by first | rfl | assumption) (by first | exact h_move (v := .s _) rfl | exact h_move (v := .agg _) rfl | exact h_move (v := .tup _) rfl) ?_ | refine s_off rfl rfl (by first | rfl | assumption) ?_
  first | refine s_on rfl rfl (by first | rfl | assumption) (h_bin rfl rfl (b_gtr (r := false) (decide_eq_false (by omega)))) ?_ | refine s_off rfl rfl (by first | rfl | assumption) ?_
  refine s_p (by first | exact h_pick_t rfl (by first | rfl | assumption) rfl | exact h_pick_f rfl (by first | rfl | assumption) rfl) ?_
  refine s_nil ?_
  refine n_wp ?_
  refine w_cond rfl (fun hc_t13 => ?_) (fun hc_t13 => ?_)
  · exact absurd hc_t13 (by simp at hc_t13)
  refine w_skip ?_
  refine n_wp ?_
  refine w_seq ?_
  refine w_seq ?_
  refine c_reg (by kernel_rfl) rfl ?_
  refine s_p (by first | exact h_move (v := .s _) rfl | exact h_move (v := .agg _) rfl | exact h_move (v := .tup _) rfl) ?_
  refine s_p (by first | exact h_len rfl Try.underlying29 | exact h_len_nil rfl Try.underlying29 | exact h_len_val rfl Try.underlying29) ?_
  refine s_p (by first | exact h_move (v := .s _) rfl | exact h_move (v := .agg _) rfl | exact h_move (v := .tup _) rfl) ?_
  refine s_p (h_bin rfl rfl (b_lss (r := false) (decide_eq_false (by omega)))) ?_
  refine s_nil ?_
  refine n_wp ?_
  refine w_cond rfl (fun hc_t17 => ?_) (fun hc_t17 => ?_)
  · exact absurd hc_t17 (by simp at hc_t17)
  refine w_skip ?_
  refine n_wp ?_
  refine w_seq ?_
  refine c_reg (by kernel_rfl) rfl ?_
  refine s_a (h_alloc (segs := [.ints .u8 8 (z 8)]) Try.zeroValue147 (by kernel_rfl) rfl) rfl ?_
  refine s_nil ?_
  refine n_wp ?_
  refine w_seq ?_
  refine c_reg (by kernel_rfl) rfl ?_
  refine s_p (by first | exact h_move (v := .s _) rfl | exact h_move (v := .agg _) rfl | exact h_move (v := .tup _) rfl) ?_
  refine s_p (h_bin rfl rfl (b_sub (r := ((8 - m : Nat) : Int)) (wr_n (by omega) (by omega)))) ?_
  refine s_p (h_asl_l (l := 8 - m) rfl rfl rfl Try.underlying147 Try.sizeOf5 (by omega)) ?_
  refine s_p (by first | exact h_move (v := .s _) rfl | exact h_move (v := .agg _) rfl | exact h_move (v := .tup _) rfl) ?_
  refine s_m (m_copy (n := m) rfl rfl rfl rfl rfl hBl (by omega) (by omega) Try.underlying29 Try.sizeOf5 (.ints (by omega) rfl (by omega))) ?_
  refine s_nil ?_
  refine n_wp ?_
  refine w_seq ?_
  refine w_seq ?_
  generalize hv : spl (z 8) ((B.drop 0).take m) (0 + (8 - m)) m 8 = v
  refine c_reg (by kernel_rfl) rfl ?_
  refine s_p (by first | exact h_move (v := .s _) rfl | exact h_move (v := .agg _) rfl | exact h_move (v := .tup _) rfl) ?_
  refine s_nil ?_
  refine n_wp ?_
  refine w_block ?_
  refine c_loop (I63 B v len) 8 ⟨0, by omega, rfl, by rw [gI_0], rfl⟩ (weak' (by repeat (first | exact trivial | refine ⟨rfl, ?_⟩)) rfl rfl (Nat.le_of_ble_eq_true rfl)) ?_
  rintro n T H ⟨i, hi, rfl, rfl, rfl⟩
  refine w_seq ?_
  refine c_reg (by kernel_rfl) rfl ?_
  refine s_p (h_bin rfl rfl (b_lss rfl)) ?_
  refine s_nil ?_
  refine n_wp ?_
  refine w_seq ?_
  refine w_cond rfl (fun hc_t24 => ?_) (fun hc_t24 => ?_)
  · skip
    have hlt : i < 8 := by have := of_decide_eq_true hc_t24; omega
    refine w_skip ?_
    refine n_wp ?_
    refine w_seq ?_
    refine w_block ?_
    refine w_seq ?_
    refine c_reg (by kernel_rfl) rfl ?_
    refine s_p (by first | exact h_move (v := .s _) rfl | exact h_move (v := .agg _) rfl | exact h_move (v := .tup _) rfl) ?_
    refine s_p (by first | exact h_assign (v := .s _) rfl | exact h_assign (v := .agg _) rfl | exact h_assign (v := .tup _) rfl) ?_
    refine s_nil ?_
    refine n_wp ?_
    refine c_reg (by kernel_rfl) rfl ?_
    refine s_p (by first | exact h_move (v := .s _) rfl | exact h_move (v := .agg _) rfl | exact h_move (v := .tup _) rfl) ?_
    refine s_p (h_bin rfl rfl (b_mul rfl)) ?_
    refine s_p (by first | exact h_move (v := .s _) rfl | exact h_move (v := .agg _) rfl | exact h_move (v := .tup _) rfl) ?_
    refine s_p (by first | exact h_ix rfl rfl Try.underlying147 Try.sizeOf5 (by omega) | exact h_ixa rfl rfl Try.underlying147 Try.sizeOf5 (by omega) | exact h_ixl (Int.toNat _) rfl rfl (Int.toNat_of_nonneg (by omega)).symm Try.underlying147 Try.sizeOf5 (by omega)) ?_
    refine s_p (by first | exact h_load_ints rfl rfl rfl (by omega) rfl Try.isAgg5 | exact h_load_one rfl rfl rfl Try.isAgg5) ?_
    refine s_p (by first | exact h_conv rfl Try.underlying5 Try.underlying40 (Go.IntWalk.i64_in _ (by omega)) | exact h_conv rfl Try.underlying5 Try.underlying40 (wrap_u8 (by omega) (by omega)) | exact h_conv rfl Try.underlying5 Try.underlying40 rfl) ?_
    refine s_p (h_bin rfl rfl (b_add rfl)) ?_
    refine s_p (by first | exact h_assign (v := .s _) rfl | exact h_assign (v := .agg _) rfl | exact h_assign (v := .tup _) rfl) ?_
    refine s_nil ?_
    refine n_blo ?_
    refine n_wp ?_
    refine c_reg (by kernel_rfl) rfl ?_
    refine s_p (by first | exact h_bin rfl rfl (b_add (Go.IntWalk.i64_in _ (by omega))) | exact h_bin rfl rfl (b_add rfl)) ?_
    refine s_p (by first | exact h_move (v := .s _) rfl | exact h_move (v := .agg _) rfl | exact h_move (v := .tup _) rfl) ?_
    refine s_nil ?_
    exact n_round (8 - (i + 1)) (by omega) ⟨i + 1, by omega, rfl, by rw [gI_s], rfl⟩ (weak' (by repeat (first | exact trivial | refine ⟨rfl, ?_⟩)) rfl rfl (Nat.le_of_ble_eq_true rfl))
  · skip
    obtain rfl : i = 8 := by have := of_decide_eq_false hc_t24; omega
    rw [← hv]
    refine w_exit ?_
    refine x_thn ?_
    refine x_thn ?_
    refine x_eq ?_
    refine n_wp ?_
    refine w_seq ?_
    refine c_reg (by kernel_rfl) rfl ?_
    refine s_p (by first | exact h_move (v := .s _) rfl | exact h_move (v := .agg _) rfl | exact h_move (v := .tup _) rfl) ?_
    refine s_p (by first | exact h_assign (v := .s _) rfl | exact h_assign (v := .agg _) rfl | exact h_assign (v := .tup _) rfl) ?_
    refine s_p (by first | exact h_assign (v := .s _) rfl | exact h_assign (v := .agg _) rfl | exact h_assign (v := .tup _) rfl) ?_
    refine s_nil ?_
    refine n_wp ?_
    refine w_ret ?_
    refine done0 ?_
    exact ret_tmps2 Try.results63 rfl rfl

end Go.Proofs.X
