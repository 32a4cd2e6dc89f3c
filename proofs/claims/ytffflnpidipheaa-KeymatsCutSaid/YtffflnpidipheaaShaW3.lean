/- A part of the proofs of this claim: ShaW3. No conditions. -/
import Derived.Test.YtffflnpidipheaaShaW2
open Go Go.Ab Go.Proofs
namespace Go.Proofs.X
def I78 (s b : List Int) (n : Nat) (T : Tm) (H : Heap) : Prop := ∃ i : Nat, i ≤ 64 ∧ n = 64 - i ∧
  T = [(2, .s (.ptr 1 0 0)), (4, .s (.ptr 2 0 0)), (5, .s (.ptr 6 0 0)), (6, .s (.clo 83 [(4, 0, 0), (5, 0, 0), (3, 0, 0)])), (16, .agg [.ints .u32 64 KS]), (17, .s (.int .i64 i))] ∧
  H = [some ⟨false, [.ints .u8 64 b]⟩, some ⟨true, [.ints .u32 8 s]⟩, some ⟨true, [.ints .u32 8 (z 8)]⟩, some ⟨true, [.one (.ptr 0 0 0)]⟩, some ⟨true, [.ints .u32 16 (ws b i)]⟩, some ⟨true, [.one (.int .i64 i)]⟩, some ⟨true, [.ints .u32 8 (ls s b i)]⟩]
def I78b (s b l : List Int) (n : Nat) (T : Tm) (H : Heap) : Prop := ∃ i : Nat, i ≤ 8 ∧ n = 8 - i ∧
  T = [(4, .s (.ptr 2 0 0)), (5, .s (.ptr 6 0 0)), (77, .agg [.ints .u32 8 s]), (78, .s (.int .i64 i))] ∧
  H = [some ⟨false, [.ints .u8 64 b]⟩, some ⟨true, [.ints .u32 8 s]⟩, some ⟨true, [.ints .u32 8 (z 8)]⟩, some ⟨true, [.one (.ptr 0 0 0)]⟩, some ⟨true, [.ints .u32 16 (ws b 64)]⟩, some ⟨true, [.one (.int .i64 ((64 : Nat) : Int))]⟩, some ⟨true, [.ints .u32 8 (fin s l i)]⟩]
set_option maxRecDepth 100000 in
set_option maxHeartbeats 2000000 in
theorem after_c (s b : List Int) (hs : s.length = 8) (hb : b.length = 64) (H : Heap) (id base : Nat) (bk : Blk) (hid : H[id]? = some (some bk)) (hs0 : segAt bk.segs base = some (.ints .u8 64 b)) : ACall Try.prog 78 H [.agg [.ints .u32 8 s], .s (.ptr id base 0)] (.agg [.ints .u32 8 (aft s b)]) [] := by
  refine acall_gen (args0 := [.agg [.ints .u32 8 s], .s (.ptr 0 0 0)]) (H0 := [some ⟨false, [.ints .u8 64 b]⟩]) (vf := (fun _ => .agg [.ints .u32 8 (aft s b)])) [(id, base + 0)] Try.func78 rfl Try.ntmps78 (by simp) rfl (foot1 rfl hid (fun i x h => win_ints (idx := 0) (n := 64) hs0 (by omega) i x (by rw [List.drop_zero, List.take_of_length_le (by omega)]; exact h)) rfl) rfl (fun i x0 x h0 h1 ρ u hr => by match i, h0, h1 with | 0, h0, h1 => (simp at h0 h1; subst h0; subst h1; exact arg_free rfl hr) | 1, h0, h1 => (simp at h0 h1; subst h0; subst h1; exact arg_ptr (by rfl) hr) | i + 2, h0, _ => simp at h0) rfl (ren_free rfl) (fun W w ρ0 hW hdom => ?_)
  refine w_seq ?_
  refine c_reg (by kernel_rfl) rfl ?_
  refine s_a (by first | exact h_box_agg rfl rfl | exact h_box rfl (by simp) rfl) rfl ?_
  refine s_a (h_alloc (segs := [.ints .u32 8 (z 8)]) Try.zeroValue138 (by kernel_rfl) rfl) rfl ?_
  refine s_nil ?_
  refine n_wp ?_
  refine w_seq ?_
  refine c_any 4 mix (by kernel_rfl) (by kernel_rfl) rfl rfl rfl ?_
  refine t_p (by first | exact h_load_agg rfl rfl (.whole rfl) Try.isAgg138 Try.sizeOf138 | exact h_load_agg rfl rfl (.seg rfl rfl) Try.isAgg138 Try.sizeOf138 | exact h_load_agg rfl rfl (.ints rfl (by omega)) Try.isAgg138 Try.sizeOf138) ?_
  refine t_p (by first | exact h_move (v := .s _) rfl | exact h_move (v := .agg _) rfl | exact h_move (v := .tup _) rfl) ?_
  refine t_nb (h_call callable_80 rfl (numbers_c _ 0 0 (Nat.zero_lt_succ _))) rfl ?_
  refine t_a (h_alloc (segs := [.ints .u32 8 (z 8)]) Try.zeroValue138 (by kernel_rfl) rfl) rfl ?_
  refine t_nil ?_
  refine s_st (by first | exact m_store_agg rfl rfl rfl (.whole (Nat.le_of_ble_eq_true rfl) rfl rfl) Try.sizeOf138 rfl | exact m_store_agg rfl rfl rfl (.seg (Nat.le_of_ble_eq_true rfl) rfl rfl rfl) Try.sizeOf138 rfl | exact m_store_agg rfl rfl rfl (.ints (Nat.le_of_ble_eq_true rfl) rfl (by omega)) Try.sizeOf138 rfl) ?_
  refine s_p (by first | exact h_assign (v := .s _) rfl | exact h_assign (v := .agg _) rfl | exact h_assign (v := .tup _) rfl) ?_
  refine s_nil ?_
  refine n_wp ?_
  refine w_seq ?_
  refine w_seq ?_
  refine c_reg (by kernel_rfl) rfl ?_
  refine s_p (h_call callable_81 rfl (adds_c _)) ?_
  refine s_p (by first | exact h_move (v := .s _) rfl | exact h_move (v := .agg _) rfl | exact h_move (v := .tup _) rfl) ?_
  refine s_nil ?_
  refine n_wp ?_
  refine w_block ?_
  refine c_loop (I78 s b) 64 ⟨0, by omega, rfl, rfl, by rw [ws_0, ls_0] <;> rfl⟩ (weak' (by repeat (first | exact trivial | refine ⟨rfl, ?_⟩)) rfl rfl (Nat.le_of_ble_eq_true rfl)) ?_
  rintro n T H ⟨i, hi, rfl, rfl, rfl⟩
  refine w_seq ?_
  refine c_reg (by kernel_rfl) rfl ?_
  refine s_p (h_bin rfl rfl (b_lss rfl)) ?_
  refine s_nil ?_
  refine n_wp ?_
  refine w_seq ?_
  refine w_cond rfl (fun hc_t18 => ?_) (fun hc_t18 => ?_)
  · skip
    have hlt : i < 64 := by have := of_decide_eq_true hc_t18; omega
    have hwl := ws_len b i
    have hll := ls_len s b hs i
    have hls := ls_s s b i
    have hws := ws_s b i
    generalize ws b i = w at *
    generalize ls s b i = l at *
    refine w_skip ?_
    refine n_wp ?_
    refine w_seq ?_
    refine w_block ?_
    refine w_seq ?_
    refine c_reg (by kernel_rfl) rfl ?_
    refine s_p (h_index_ints rfl rfl Try.underlying156 Try.sizeOf61 Try.isAgg61 (by omega)) ?_
    refine s_p (by first | exact h_assign (v := .s _) rfl | exact h_assign (v := .agg _) rfl | exact h_assign (v := .tup _) rfl) ?_
    refine s_nil ?_
    refine n_wp ?_
    refine w_seq ?_
    refine c_anyM 24 23 [(4, ⟨true, [.ints .u32 16 (wn b w i)]⟩), (5, ⟨true, [.one (.int .i64 ((i + 1 : Nat) : Int))]⟩)] mix (by kernel_rfl) (by kernel_rfl) rfl rfl rfl rfl rfl rfl rfl rfl rfl rfl rfl rfl ?_
    refine g_p (h_ixl 7 rfl rfl rfl Try.underlying138 Try.sizeOf61 (by omega)) ?_
    refine g_p (by first | exact h_load_ints rfl rfl rfl (by omega) rfl Try.isAgg61 | exact h_load_one rfl rfl rfl Try.isAgg61) ?_
    refine g_p (h_ixl 4 rfl rfl rfl Try.underlying138 Try.sizeOf61 (by omega)) ?_
    refine g_p (by first | exact h_load_ints rfl rfl rfl (by omega) rfl Try.isAgg61 | exact h_load_one rfl rfl rfl Try.isAgg61) ?_
    refine g_a (h_bsli3 rfl rfl rfl Try.underlying162 Try.sizeOf3 Try.zeroValue3 rfl rfl) rfl ?_
    refine g_p (h_call callable_82 rfl (down_c _ [6, 11, 25] 3 3 _ 7 0 0 3 _ [6, 11, 25] rfl rfl (by omega) rfl (by omega))) ?_
    refine g_p (h_bin rfl rfl (b_add rfl)) ?_
    refine g_p (h_ixl 4 rfl rfl rfl Try.underlying138 Try.sizeOf61 (by omega)) ?_
    refine g_p (by first | exact h_load_ints rfl rfl rfl (by omega) rfl Try.isAgg61 | exact h_load_one rfl rfl rfl Try.isAgg61) ?_
    refine g_p (h_ixl 5 rfl rfl rfl Try.underlying138 Try.sizeOf61 (by omega)) ?_
    refine g_p (by first | exact h_load_ints rfl rfl rfl (by omega) rfl Try.isAgg61 | exact h_load_one rfl rfl rfl Try.isAgg61) ?_
    refine g_p (h_bin rfl rfl (b_and rfl)) ?_
    refine g_p (h_ixl 4 rfl rfl rfl Try.underlying138 Try.sizeOf61 (by omega)) ?_
    refine g_p (by first | exact h_load_ints rfl rfl rfl (by omega) rfl Try.isAgg61 | exact h_load_one rfl rfl rfl Try.isAgg61) ?_
    refine g_p (h_com rfl rfl) ?_
    refine g_p (h_ixl 6 rfl rfl rfl Try.underlying138 Try.sizeOf61 (by omega)) ?_
    refine g_p (by first | exact h_load_ints rfl rfl rfl (by omega) rfl Try.isAgg61 | exact h_load_one rfl rfl rfl Try.isAgg61) ?_
    refine g_p (h_bin rfl rfl (b_and rfl)) ?_
    refine g_p (h_bin rfl rfl (b_or rfl)) ?_
    refine g_p (h_bin rfl rfl (b_add rfl)) ?_
    refine g_p (by first | exact h_move (v := .s _) rfl | exact h_move (v := .agg _) rfl | exact h_move (v := .tup _) rfl) ?_
    refine g_p (h_bin rfl rfl (b_add rfl)) ?_
    refine g_p (by first | exact h_move (v := .s _) rfl | exact h_move (v := .agg _) rfl | exact h_move (v := .tup _) rfl) ?_
    refine g_nil ?_
    refine ⟨.s (.int .u32 ((wn b w i).getD (i % 16) 0)), rfl, rfl, (m_callc callable_83 rfl rfl (nextn_c _ 4 5 3 0 0 b w i _ _ rfl rfl rfl rfl rfl (fun i y h => by rw [Nat.zero_add]; exact h) hwl hb (by omega) (by decide) (by decide) (by decide) (by decide) (by decide))), ?_⟩
    refine g_nil ?_
    refine s_p (h_bin rfl rfl (b_add rfl)) ?_
    refine s_p (by first | exact h_assign (v := .s _) rfl | exact h_assign (v := .agg _) rfl | exact h_assign (v := .tup _) rfl) ?_
    refine s_nil ?_
    refine n_wp ?_
    refine w_seq ?_
    refine c_any 18 mix (by kernel_rfl) (by kernel_rfl) rfl rfl rfl ?_
    refine t_p (h_ixl 0 rfl rfl rfl Try.underlying138 Try.sizeOf61 (by omega)) ?_
    refine t_p (by first | exact h_load_ints rfl rfl rfl (by omega) rfl Try.isAgg61 | exact h_load_one rfl rfl rfl Try.isAgg61) ?_
    refine t_a (h_bsli3 rfl rfl rfl Try.underlying162 Try.sizeOf3 Try.zeroValue3 rfl rfl) rfl ?_
    refine t_p (h_call callable_82 rfl (down_c _ [2, 13, 22] 3 3 _ 8 0 0 3 _ [2, 13, 22] rfl rfl (by omega) rfl (by omega))) ?_
    refine t_p (h_ixl 0 rfl rfl rfl Try.underlying138 Try.sizeOf61 (by omega)) ?_
    refine t_p (by first | exact h_load_ints rfl rfl rfl (by omega) rfl Try.isAgg61 | exact h_load_one rfl rfl rfl Try.isAgg61) ?_
    refine t_p (h_ixl 1 rfl rfl rfl Try.underlying138 Try.sizeOf61 (by omega)) ?_
    refine t_p (by first | exact h_load_ints rfl rfl rfl (by omega) rfl Try.isAgg61 | exact h_load_one rfl rfl rfl Try.isAgg61) ?_
    refine t_p (h_ixl 2 rfl rfl rfl Try.underlying138 Try.sizeOf61 (by omega)) ?_
    refine t_p (by first | exact h_load_ints rfl rfl rfl (by omega) rfl Try.isAgg61 | exact h_load_one rfl rfl rfl Try.isAgg61) ?_
    refine t_p (h_bin rfl rfl (b_xor rfl)) ?_
    refine t_p (h_bin rfl rfl (b_and rfl)) ?_
    refine t_p (h_ixl 1 rfl rfl rfl Try.underlying138 Try.sizeOf61 (by omega)) ?_
    refine t_p (by first | exact h_load_ints rfl rfl rfl (by omega) rfl Try.isAgg61 | exact h_load_one rfl rfl rfl Try.isAgg61) ?_
    refine t_p (h_ixl 2 rfl rfl rfl Try.underlying138 Try.sizeOf61 (by omega)) ?_
    refine t_p (by first | exact h_load_ints rfl rfl rfl (by omega) rfl Try.isAgg61 | exact h_load_one rfl rfl rfl Try.isAgg61) ?_
    refine t_p (h_bin rfl rfl (b_and rfl)) ?_
    refine t_p (h_bin rfl rfl (b_xor rfl)) ?_
    refine t_nil ?_
    refine s_p (h_bin rfl rfl (b_add rfl)) ?_
    refine s_p (by first | exact h_assign (v := .s _) rfl | exact h_assign (v := .agg _) rfl | exact h_assign (v := .tup _) rfl) ?_
    refine s_nil ?_
    refine n_wp ?_
    refine w_seq ?_
    refine c_any 2 mix (by kernel_rfl) (by kernel_rfl) rfl rfl rfl ?_
    refine t_p (h_asl_l (l := 1) rfl rfl rfl Try.underlying138 Try.sizeOf61 (by omega)) ?_
    refine t_p (h_asl_h (h := 7) rfl rfl rfl Try.underlying138 Try.sizeOf61 (by omega) (by omega)) ?_
    refine t_nil ?_
    refine s_m (m_copy (n := 7) rfl rfl rfl rfl rfl hll (by omega) (by omega) Try.underlying159 Try.sizeOf61 (.ints (by omega) rfl (by omega))) ?_
    refine s_nil ?_
    refine n_wp ?_
    refine w_seq ?_
    refine c_reg (by kernel_rfl) rfl ?_
    refine s_p (h_ixl 4 rfl rfl rfl Try.underlying138 Try.sizeOf61 (by omega)) ?_
    refine s_p (by first | exact h_load_ints rfl rfl rfl (by omega) rfl Try.isAgg61 | exact h_load_one rfl rfl rfl Try.isAgg61) ?_
    refine s_p (by first | exact h_move (v := .s _) rfl | exact h_move (v := .agg _) rfl | exact h_move (v := .tup _) rfl) ?_
    refine s_p (h_bin rfl rfl (b_add rfl)) ?_
    refine s_p (h_ixl 4 rfl rfl rfl Try.underlying138 Try.sizeOf61 (by omega)) ?_
    refine s_st (by first | exact m_store_int rfl rfl rfl rfl (by omega) (by (first | assumption | exact spl_len _ _ _ _ _ | (simp only [List.length_set]; first | assumption | exact spl_len _ _ _ _ _) | (rw [fin_len]; assumption))) Try.sizeOf61 rfl | exact m_store_one rfl rfl (by simp) rfl rfl Try.sizeOf61 rfl) ?_
    refine s_nil ?_
    refine n_wp ?_
    refine c_reg (by kernel_rfl) rfl ?_
    refine s_p (by first | exact h_move (v := .s _) rfl | exact h_move (v := .agg _) rfl | exact h_move (v := .tup _) rfl) ?_
    refine s_p (by first | exact h_move (v := .s _) rfl | exact h_move (v := .agg _) rfl | exact h_move (v := .tup _) rfl) ?_
    refine s_p (h_bin rfl rfl (b_add rfl)) ?_
    refine s_p (h_ixl 0 rfl rfl rfl Try.underlying138 Try.sizeOf61 (by omega)) ?_
    refine s_st (by first | exact m_store_int rfl rfl rfl rfl (by omega) (by (first | assumption | exact spl_len _ _ _ _ _ | (simp only [List.length_set]; first | assumption | exact spl_len _ _ _ _ _) | (rw [fin_len]; assumption))) Try.sizeOf61 rfl | exact m_store_one rfl rfl (by simp) rfl rfl Try.sizeOf61 rfl) ?_
    refine s_nil ?_
    refine n_blo ?_
    refine n_wp ?_
    refine c_reg (by kernel_rfl) rfl ?_
    refine s_p (by first | exact h_bin rfl rfl (b_add (Go.IntWalk.i64_in _ (by omega))) | exact h_bin rfl rfl (b_add rfl)) ?_
    refine s_p (by first | exact h_move (v := .s _) rfl | exact h_move (v := .agg _) rfl | exact h_move (v := .tup _) rfl) ?_
    refine s_nil ?_
    exact n_round (64 - (i + 1)) (by omega) ⟨i + 1, by omega, rfl, rfl, by rw [hws, hls] <;> rfl⟩ (weak' (by repeat (first | exact trivial | refine ⟨rfl, ?_⟩)) rfl rfl (Nat.le_of_ble_eq_true rfl))
  · skip
    obtain rfl : i = 64 := by have := of_decide_eq_false hc_t18; omega
    have haf : aft s b = fin s (ls s b 64) 8 := rfl
    have hll := ls_len s b hs 64
    generalize ls s b 64 = l at *
    refine w_exit ?_
    refine x_thn ?_
    refine x_thn ?_
    refine x_eq ?_
    refine n_wp ?_
    refine w_seq ?_
    refine w_seq ?_
    refine c_reg (by kernel_rfl) rfl ?_
    refine s_p (by first | exact h_load_agg rfl rfl (.whole rfl) Try.isAgg138 Try.sizeOf138 | exact h_load_agg rfl rfl (.seg rfl rfl) Try.isAgg138 Try.sizeOf138 | exact h_load_agg rfl rfl (.ints rfl (by omega)) Try.isAgg138 Try.sizeOf138) ?_
    refine s_p (by first | exact h_move (v := .s _) rfl | exact h_move (v := .agg _) rfl | exact h_move (v := .tup _) rfl) ?_
    refine s_nil ?_
    refine n_wp ?_
    refine w_block ?_
    refine c_loop (I78b s b l) 8 ⟨0, by omega, rfl, rfl, rfl⟩ (weak' (by repeat (first | exact trivial | refine ⟨rfl, ?_⟩)) rfl rfl (Nat.le_of_ble_eq_true rfl)) ?_
    rintro n T H ⟨i, hi, rfl, rfl, rfl⟩
    refine w_seq ?_
    refine c_reg (by kernel_rfl) rfl ?_
    refine s_p (h_bin rfl rfl (b_lss rfl)) ?_
    refine s_nil ?_
    refine n_wp ?_
    refine w_seq ?_
    refine w_cond rfl (fun hc_t79 => ?_) (fun hc_t79 => ?_)
    · skip
      have hlt2 : i < 8 := by have := of_decide_eq_true hc_t79; omega
      refine w_skip ?_
      refine n_wp ?_
      refine w_seq ?_
      refine w_block ?_
      refine w_seq ?_
      refine c_reg (by kernel_rfl) rfl ?_
      refine s_p (by first | exact h_move (v := .s _) rfl | exact h_move (v := .agg _) rfl | exact h_move (v := .tup _) rfl) ?_
      refine s_p (h_index_ints rfl rfl Try.underlying138 Try.sizeOf61 Try.isAgg61 (by omega)) ?_
      refine s_p (by first | exact h_assign (v := .s _) rfl | exact h_assign (v := .agg _) rfl | exact h_assign (v := .tup _) rfl) ?_
      refine s_p (by first | exact h_assign (v := .s _) rfl | exact h_assign (v := .agg _) rfl | exact h_assign (v := .tup _) rfl) ?_
      refine s_nil ?_
      refine n_wp ?_
      refine c_reg (by kernel_rfl) rfl ?_
      refine s_p (by first | exact h_move (v := .s _) rfl | exact h_move (v := .agg _) rfl | exact h_move (v := .tup _) rfl) ?_
      refine s_p (by first | exact h_ix rfl rfl Try.underlying138 Try.sizeOf61 (by omega) | exact h_ixa rfl rfl Try.underlying138 Try.sizeOf61 (by omega) | exact h_ixl (Int.toNat _) rfl rfl (Int.toNat_of_nonneg (by omega)).symm Try.underlying138 Try.sizeOf61 (by omega)) ?_
      refine s_p (by first | exact h_load_ints rfl rfl rfl (by omega) rfl Try.isAgg61 | exact h_load_one rfl rfl rfl Try.isAgg61) ?_
      refine s_p (by first | exact h_move (v := .s _) rfl | exact h_move (v := .agg _) rfl | exact h_move (v := .tup _) rfl) ?_
      refine s_p (h_bin rfl rfl (b_add rfl)) ?_
      refine s_p (by first | exact h_ix rfl rfl Try.underlying138 Try.sizeOf61 (by omega) | exact h_ixa rfl rfl Try.underlying138 Try.sizeOf61 (by omega) | exact h_ixl (Int.toNat _) rfl rfl (Int.toNat_of_nonneg (by omega)).symm Try.underlying138 Try.sizeOf61 (by omega)) ?_
      refine s_st (by first | exact m_store_int rfl rfl rfl rfl (by omega) (by (first | assumption | exact spl_len _ _ _ _ _ | (simp only [List.length_set]; first | assumption | exact spl_len _ _ _ _ _) | (rw [fin_len]; assumption))) Try.sizeOf61 rfl | exact m_store_one rfl rfl (by simp) rfl rfl Try.sizeOf61 rfl) ?_
      refine s_nil ?_
      refine n_blo ?_
      refine n_wp ?_
      refine c_reg (by kernel_rfl) rfl ?_
      refine s_p (by first | exact h_bin rfl rfl (b_add (Go.IntWalk.i64_in _ (by omega))) | exact h_bin rfl rfl (b_add rfl)) ?_
      refine s_p (by first | exact h_move (v := .s _) rfl | exact h_move (v := .agg _) rfl | exact h_move (v := .tup _) rfl) ?_
      refine s_nil ?_
      exact n_round (8 - (i + 1)) (by omega) ⟨i + 1, by omega, rfl, rfl, rfl⟩ (weak' (by repeat (first | exact trivial | refine ⟨rfl, ?_⟩)) rfl rfl (Nat.le_of_ble_eq_true rfl))
    · skip
      obtain rfl : i = 8 := by have := of_decide_eq_false hc_t79; omega
      rw [← haf]
      refine w_exit ?_
      refine x_thn ?_
      refine x_thn ?_
      refine x_eq ?_
      refine n_wp ?_
      refine w_seq ?_
      refine c_reg (by kernel_rfl) rfl ?_
      refine s_p (by first | exact h_load_agg rfl rfl (.whole rfl) Try.isAgg138 Try.sizeOf138 | exact h_load_agg rfl rfl (.seg rfl rfl) Try.isAgg138 Try.sizeOf138 | exact h_load_agg rfl rfl (.ints rfl (by omega)) Try.isAgg138 Try.sizeOf138) ?_
      refine s_st (by first | exact m_store_agg rfl rfl rfl (.whole (Nat.le_of_ble_eq_true rfl) rfl rfl) Try.sizeOf138 rfl | exact m_store_agg rfl rfl rfl (.seg (Nat.le_of_ble_eq_true rfl) rfl rfl rfl) Try.sizeOf138 rfl | exact m_store_agg rfl rfl rfl (.ints (Nat.le_of_ble_eq_true rfl) rfl (by omega)) Try.sizeOf138 rfl) ?_
      refine s_nil ?_
      refine n_wp ?_
      refine w_ret ?_
      refine done0 ?_
      exact ret_cell_agg Try.results78 rfl rfl (.whole rfl) Try.isAgg138 Try.sizeOf138

end Go.Proofs.X
