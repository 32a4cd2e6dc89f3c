/- A part of the proofs of this claim: AesW5. No conditions. -/
import Derived.Test.YtffflnpidipheaaAesW4
open Go Go.Ab Go.Proofs
namespace Go.Proofs.X
theorem callable_26 : Callable Try.prog 26 := ⟨_, Try.func26, by kernel_rfl, rfl⟩
theorem info5 : Try.prog.info? 5 = some Try.t5 := by kernel_rfl
def I26 (key first B : List Int) (len cap : Nat) (n : Nat) (T : Tm) (H : Heap) : Prop := ∃ q : Nat, q ≤ (len + 15) / 16 ∧ n = (len + 15) / 16 - q ∧
  T = [(2, .s (.slice 0 0 0 len cap)), (4, .s (.ptr 2 0 0)), (7, .s (.ptr 3 0 0)), (8, .s (.slice 4 0 0 len len)), (9, .s (.int .i64 ((16 * q : Nat) : Int)))] ∧ H = [some ⟨false, [.ints .u8 len B]⟩, some ⟨true, [.ints .u8 16 key]⟩, some ⟨true, [.ints .u8 16 (ctr first q)]⟩, some (mblk (keysOf key)), some ⟨true, [.ints .u8 len (strN key first B len q)]⟩]
def I26b (key first B s out : List Int) (len cap q : Nat) (n : Nat) (T : Tm) (H : Heap) : Prop := ∃ r : Nat, r ≤ min 16 (len - 16 * q) ∧ n = 16 - r ∧
  T = [(2, .s (.slice 0 0 0 len cap)), (4, .s (.ptr 2 0 0)), (7, .s (.ptr 3 0 0)), (8, .s (.slice 4 0 0 len len)), (9, .s (.int .i64 ((16 * q : Nat) : Int))), (10, .s (.ptr 5 0 0)), (11, .s (.int .i64 ((16 * q + r : Nat) : Int)))] ∧
  H = [some ⟨false, [.ints .u8 len B]⟩, some ⟨true, [.ints .u8 16 key]⟩, some ⟨true, [.ints .u8 16 (ctr first q)]⟩, some (mblk (keysOf key)), some ⟨true, [.ints .u8 len (str1 B s out (16 * q) r)]⟩, some ⟨true, [.ints .u8 16 s]⟩]
def I26c (key B c out : List Int) (len cap q : Nat) (n : Nat) (T : Tm) (H : Heap) : Prop := ∃ (t : Nat) (l : List Int), t ≤ 16 ∧ t = n ∧ l.length = 16 ∧ incF l t = c ∧
  T = [(2, .s (.slice 0 0 0 len cap)), (4, .s (.ptr 2 0 0)), (7, .s (.ptr 3 0 0)), (8, .s (.slice 4 0 0 len len)), (9, .s (.int .i64 ((16 * q : Nat) : Int))), (12, .s (.int .i64 ((t : Int) - 1)))] ∧
  H = [some ⟨false, [.ints .u8 len B]⟩, some ⟨true, [.ints .u8 16 key]⟩, some ⟨true, [.ints .u8 16 l]⟩, some (mblk (keysOf key)), some ⟨true, [.ints .u8 len out]⟩]
def streamN (key first B : List Int) (len : Nat) : List Int := strN key first B len ((len + 15) / 16)
set_option maxRecDepth 100000 in
set_option maxHeartbeats 2000000 in
theorem stream_c (key first B : List Int) (hk : key.length = 16) (huk : U8 key) (hf : first.length = 16) (huf : U8 first) (len cap : Nat) (h0 : 0 < len) (hlen : len ≤ 140737488351232) (H : Heap) (id base idx n : Nat) (bk : Blk) (l0 : List Int) (hid : H[id]? = some (some bk)) (hs0 : segAt bk.segs base = some (.ints .u8 n l0)) (hn0 : idx + len ≤ n) (hB : B = (l0.drop idx).take len) : ACall Try.prog 26 H [.agg [.ints .u8 16 key], .agg [.ints .u8 16 first], .s (.slice id base idx len cap)] (.s (.slice (H.length + 0) 0 0 len len)) [⟨true, [.ints .u8 len (streamN key first B len)]⟩] := by
  refine acall_gen (args0 := [.agg [.ints .u8 16 key], .agg [.ints .u8 16 first], .s (.slice 0 0 0 len cap)]) (H0 := [some ⟨false, [.ints .u8 len B]⟩]) (vf := (fun r => .s (.slice (r 0) 0 0 len len))) [(id, base + idx)] Try.func26 rfl Try.ntmps26 (by simp) rfl (foot1 rfl hid (fun i x h => by subst hB; exact win_ints hs0 hn0 i x h) rfl) rfl (fun i x0 x h0 h1 ρ u hr => by match i, h0, h1 with | 0, h0, h1 => (simp at h0 h1; subst h0; subst h1; exact arg_free rfl hr) | 1, h0, h1 => (simp at h0 h1; subst h0; subst h1; exact arg_free rfl hr) | 2, h0, h1 => (simp at h0 h1; subst h0; subst h1; exact arg_slice (by rfl) hr) | i + 3, h0, _ => simp at h0) rfl (ren_slice (Nat.zero_lt_succ _)) (fun W w ρ0 hW hdom => ?_)
  refine w_seq ?_
  refine c_reg (by kernel_rfl) rfl ?_
  refine s_a (by first | exact h_box_agg rfl rfl | exact h_box rfl (by simp) rfl) rfl ?_
  refine s_a (by first | exact h_box_agg rfl rfl | exact h_box rfl (by simp) rfl) rfl ?_
  refine s_p (by first | exact h_assign (v := .s _) rfl | exact h_assign (v := .agg _) rfl | exact h_assign (v := .tup _) rfl) ?_
  refine s_nil ?_
  refine n_wp ?_
  refine w_seq ?_
  refine w_seq ?_
  refine c_reg (by kernel_rfl) rfl ?_
  refine s_p (by first | exact h_move (v := .s _) rfl | exact h_move (v := .agg _) rfl | exact h_move (v := .tup _) rfl) ?_
  refine s_p (by first | exact h_len rfl Try.underlying29 | exact h_len_slx rfl Try.underlying29 | exact h_len_nil rfl Try.underlying29) ?_
  refine s_p (h_bin rfl rfl (b_eql rfl)) ?_
  refine s_nil ?_
  refine n_wp ?_
  refine w_cond rfl (fun hc_t15 => ?_) (fun hc_t15 => ?_)
  · exact absurd hc_t15 (by have := of_decide_eq_true hc_t15; omega)
  refine w_skip ?_
  refine n_wp ?_
  refine w_seq ?_
  refine c_reg (by kernel_rfl) rfl ?_
  refine s_p (by first | exact h_load_agg rfl rfl (.whole rfl) Try.isAgg22 Try.sizeOf22 | exact h_load_agg rfl rfl (.seg rfl rfl) Try.isAgg22 Try.sizeOf22 | exact h_load_agg rfl rfl (.ints rfl (by omega)) Try.isAgg22 Try.sizeOf22) ?_
  refine s_a (h_call callable_49 rfl (newMachine_c _ (by assumption) (by assumption) _)) rfl ?_
  refine s_p (by first | exact h_assign (v := .s _) rfl | exact h_assign (v := .agg _) rfl | exact h_assign (v := .tup _) rfl) ?_
  refine s_nil ?_
  refine n_wp ?_
  refine w_seq ?_
  refine c_reg (by kernel_rfl) rfl ?_
  refine s_p (by first | exact h_move (v := .s _) rfl | exact h_move (v := .agg _) rfl | exact h_move (v := .tup _) rfl) ?_
  refine s_p (by first | exact h_len rfl Try.underlying29 | exact h_len_slx rfl Try.underlying29 | exact h_len_nil rfl Try.underlying29) ?_
  refine s_a (h_make (l := len) (c := len) rfl rfl (Nat.le_refl _) (by rw [show Try.t5.bytes = 1 from rfl]; omega) (by omega) Try.underlying29 info5 rfl rfl rfl) rfl ?_
  refine s_p (by first | exact h_assign (v := .s _) rfl | exact h_assign (v := .agg _) rfl | exact h_assign (v := .tup _) rfl) ?_
  refine s_nil ?_
  refine n_wp ?_
  refine w_seq ?_
  refine w_seq ?_
  refine c_reg (by kernel_rfl) rfl ?_
  refine s_p (by first | exact h_assign (v := .s _) rfl | exact h_assign (v := .agg _) rfl | exact h_assign (v := .tup _) rfl) ?_
  refine s_nil ?_
  refine n_wp ?_
  refine w_block ?_
  refine c_loop (I26 key first B len cap) ((len + 15) / 16) ⟨0, by omega, rfl, rfl, rfl⟩ (weak' (by repeat (first | exact trivial | refine ⟨rfl, ?_⟩)) rfl rfl (Nat.le_of_ble_eq_true rfl)) ?_
  rintro n T H ⟨q, hq, rfl, rfl, rfl⟩
  refine w_seq ?_
  refine w_seq ?_
  refine c_reg (by kernel_rfl) rfl ?_
  refine s_p (by first | exact h_move (v := .s _) rfl | exact h_move (v := .agg _) rfl | exact h_move (v := .tup _) rfl) ?_
  refine s_p (by first | exact h_move (v := .s _) rfl | exact h_move (v := .agg _) rfl | exact h_move (v := .tup _) rfl) ?_
  refine s_p (by first | exact h_len rfl Try.underlying29 | exact h_len_slx rfl Try.underlying29 | exact h_len_nil rfl Try.underlying29) ?_
  refine s_p (h_bin rfl rfl (b_lss rfl)) ?_
  refine s_nil ?_
  refine n_wp ?_
  refine w_cond rfl (fun hc_t24 => ?_) (fun hc_t24 => ?_)
  · skip
    have hlt : 16 * q < len := by have := of_decide_eq_true hc_t24; omega
    refine w_skip ?_
    refine n_wp ?_
    refine w_seq ?_
    refine w_block ?_
    refine w_seq ?_
    refine c_reg (by kernel_rfl) rfl ?_
    refine s_p (by first | exact h_move (v := .s _) rfl | exact h_move (v := .agg _) rfl | exact h_move (v := .tup _) rfl) ?_
    refine s_p (by first | exact h_load_agg rfl rfl (.whole rfl) Try.isAgg22 Try.sizeOf22 | exact h_load_agg rfl rfl (.seg rfl rfl) Try.isAgg22 Try.sizeOf22 | exact h_load_agg rfl rfl (.ints rfl (by omega)) Try.isAgg22 Try.sizeOf22) ?_
    refine s_p (h_call callable_50 rfl (block_c _ _ ((ctr_len _ _).trans hf) (U8_ctr huf _) _ 3 _ rfl rfl)) ?_
    refine s_a (h_alloc (segs := [.ints .u8 16 (z 16)]) Try.zeroValue22 (by kernel_rfl) rfl) rfl ?_
    refine s_st (by first | exact m_store_agg rfl rfl rfl (.whole (Nat.le_of_ble_eq_true rfl) rfl rfl) Try.sizeOf22 rfl | exact m_store_agg rfl rfl rfl (.seg (Nat.le_of_ble_eq_true rfl) rfl rfl rfl) Try.sizeOf22 rfl | exact m_store_agg rfl rfl rfl (.ints (Nat.le_of_ble_eq_true rfl) rfl (by omega)) Try.sizeOf22 rfl) ?_
    refine s_nil ?_
    refine n_wp ?_
    refine w_seq ?_
    refine w_seq ?_
    refine c_reg (by kernel_rfl) rfl ?_
    refine s_p (by first | exact h_move (v := .s _) rfl | exact h_move (v := .agg _) rfl | exact h_move (v := .tup _) rfl) ?_
    refine s_p (by first | exact h_assign (v := .s _) rfl | exact h_assign (v := .agg _) rfl | exact h_assign (v := .tup _) rfl) ?_
    refine s_nil ?_
    refine n_wp ?_
    refine w_block ?_
    refine c_loop (I26b key first B (blockI key (ctr first q)) (strN key first B len q) len cap q) 16 ⟨0, by omega, rfl, rfl, rfl⟩ (weak' (by repeat (first | exact trivial | refine ⟨rfl, ?_⟩)) rfl rfl (Nat.le_of_ble_eq_true rfl)) ?_
    rintro n T H ⟨r, hr, rfl, rfl, rfl⟩
    refine w_seq ?_
    refine w_seq ?_
    refine c_reg (by kernel_rfl) rfl ?_
    refine s_p (by first | exact h_move (v := .s _) rfl | exact h_move (v := .agg _) rfl | exact h_move (v := .tup _) rfl) ?_
    refine s_p (by first | exact h_move (v := .s _) rfl | exact h_move (v := .agg _) rfl | exact h_move (v := .tup _) rfl) ?_
    refine s_p (by first | exact h_bin rfl rfl (b_add (Go.IntWalk.i64_in _ (by omega))) | exact h_bin rfl rfl (b_add rfl)) ?_
    refine s_p (by first | exact h_move (v := .s _) rfl | exact h_move (v := .agg _) rfl | exact h_move (v := .tup _) rfl) ?_
    refine s_p (by first | exact h_len rfl Try.underlying29 | exact h_len_slx rfl Try.underlying29 | exact h_len_nil rfl Try.underlying29) ?_
    refine s_p (h_min rfl rfl rfl) ?_
    refine s_p (h_bin rfl rfl (b_lss rfl)) ?_
    refine s_nil ?_
    refine n_wp ?_
    refine w_cond rfl (fun hc_t37 => ?_) (fun hc_t37 => ?_)
    · skip
      have hr2 : r < min 16 (len - 16 * q) := by have := of_decide_eq_true hc_t37; split at this <;> omega
      refine w_skip ?_
      refine n_wp ?_
      refine w_seq ?_
      refine w_block ?_
      refine c_any 12 mix (by kernel_rfl) (by kernel_rfl) rfl rfl rfl ?_
      refine t_p (by first | exact h_move (v := .s _) rfl | exact h_move (v := .agg _) rfl | exact h_move (v := .tup _) rfl) ?_
      refine t_p (by first | exact h_move (v := .s _) rfl | exact h_move (v := .agg _) rfl | exact h_move (v := .tup _) rfl) ?_
      refine t_p (by first | exact h_move (v := .s _) rfl | exact h_move (v := .agg _) rfl | exact h_move (v := .tup _) rfl) ?_
      refine t_p (by first | exact h_move (v := .s _) rfl | exact h_move (v := .agg _) rfl | exact h_move (v := .tup _) rfl) ?_
      refine t_p (by first | exact h_ixs0 rfl rfl Try.underlying29 Try.sizeOf5 (by omega) | exact h_ixs rfl rfl Try.underlying29 Try.sizeOf5 (by omega) | exact h_ixsx rfl rfl Try.underlying29 Try.sizeOf5 (by omega)) ?_
      refine t_p (by first | exact h_load_ints rfl rfl rfl (by omega) rfl Try.isAgg5 | exact h_load_one rfl rfl rfl Try.isAgg5) ?_
      refine t_p (by first | exact h_move (v := .s _) rfl | exact h_move (v := .agg _) rfl | exact h_move (v := .tup _) rfl) ?_
      refine t_p (by first | exact h_move (v := .s _) rfl | exact h_move (v := .agg _) rfl | exact h_move (v := .tup _) rfl) ?_
      refine t_p (by first | exact h_bin rfl rfl (b_sub (Go.IntWalk.i64_in _ (by omega))) | exact h_bin rfl rfl (b_sub rfl)) ?_
      refine t_p (h_ixl (r) rfl rfl (by omega) Try.underlying22 Try.sizeOf5 (by omega)) ?_
      refine t_p (by first | exact h_load_ints rfl rfl rfl (by omega) rfl Try.isAgg5 | exact h_load_one rfl rfl rfl Try.isAgg5) ?_
      refine t_p (h_bin rfl rfl (b_xor rfl)) ?_
      refine t_nil ?_
      refine s_p (by first | exact h_ixs0 rfl rfl Try.underlying29 Try.sizeOf5 (by omega) | exact h_ixs rfl rfl Try.underlying29 Try.sizeOf5 (by omega) | exact h_ixsx rfl rfl Try.underlying29 Try.sizeOf5 (by omega)) ?_
      refine s_st (by first | exact m_store_int rfl rfl rfl rfl (by omega) (by (first | assumption | exact (str1_len _ _ _ _ _).trans (strN_len _ _ _ _ _) | exact strN_len _ _ _ _ _)) Try.sizeOf5 rfl | exact m_store_one rfl rfl (by simp) rfl rfl Try.sizeOf5 rfl) ?_
      refine s_nil ?_
      refine n_blo ?_
      refine n_wp ?_
      refine c_reg (by kernel_rfl) rfl ?_
      refine s_p (by first | exact h_move (v := .s _) rfl | exact h_move (v := .agg _) rfl | exact h_move (v := .tup _) rfl) ?_
      refine s_p (by first | exact h_bin rfl rfl (b_add (Go.IntWalk.i64_in _ (by omega))) | exact h_bin rfl rfl (b_add rfl)) ?_
      refine s_p (by first | exact h_assign (v := .s _) rfl | exact h_assign (v := .agg _) rfl | exact h_assign (v := .tup _) rfl) ?_
      refine s_nil ?_
      exact n_round (16 - (r + 1)) (by omega) ⟨r + 1, by omega, rfl, rfl, rfl⟩ (weak' (by repeat (first | exact trivial | refine ⟨rfl, ?_⟩)) rfl rfl (Nat.le_of_ble_eq_true rfl))
    · skip
      obtain rfl : r = min 16 (len - 16 * q) := by have := of_decide_eq_false hc_t37; split at this <;> omega
      have hs : strN key first B len (q + 1) = str1 B (blockI key (ctr first q)) (strN key first B len q) (16 * q) (min 16 (len - 16 * q)) := rfl
      have hol : (str1 B (blockI key (ctr first q)) (strN key first B len q) (16 * q) (min 16 (len - 16 * q))).length = len := (str1_len _ _ _ _ _).trans (strN_len _ _ _ _ _)
      generalize str1 B (blockI key (ctr first q)) (strN key first B len q) (16 * q) (min 16 (len - 16 * q)) = o at *
      refine w_exit ?_
      refine x_thn ?_
      refine x_thn ?_
      refine x_eq ?_
      refine n_wp ?_
      refine w_seq ?_
      refine c_reg (by kernel_rfl) rfl ?_
      refine s_p (by first | exact h_assign (v := .s _) rfl | exact h_assign (v := .agg _) rfl | exact h_assign (v := .tup _) rfl) ?_
      refine s_nil ?_
      refine n_wp ?_
      refine w_block ?_
      refine c_loop (I26c key B (ctr first (q + 1)) o len cap q) 16 ⟨16, _, by omega, rfl, (ctr_len _ _).trans hf, rfl, rfl, rfl⟩ (weak' (by repeat (first | exact trivial | refine ⟨rfl, ?_⟩)) rfl rfl (Nat.le_of_ble_eq_true rfl)) ?_
      rintro n T H ⟨t, l, ht, rfl, hll, hinc, rfl, rfl⟩
      refine w_seq ?_
      refine w_seq ?_
      refine c_reg (by kernel_rfl) rfl ?_
      refine s_p (by first | exact h_move (v := .s _) rfl | exact h_move (v := .agg _) rfl | exact h_move (v := .tup _) rfl) ?_
      refine s_p (h_bin rfl rfl (b_geq rfl)) ?_
      refine s_nil ?_
      refine n_wp ?_
      refine w_cond rfl (fun hc_t54 => ?_) (fun hc_t54 => ?_)
      · skip
        obtain ⟨t0, rfl⟩ : ∃ t0, t = t0 + 1 := ⟨t - 1, by have := of_decide_eq_true hc_t54; omega⟩
        refine w_skip ?_
        refine n_wp ?_
        refine w_seq ?_
        refine w_block ?_
        refine w_seq ?_
        refine c_reg (by kernel_rfl) rfl ?_
        refine s_p (by first | exact h_move (v := .s _) rfl | exact h_move (v := .agg _) rfl | exact h_move (v := .tup _) rfl) ?_
        refine s_p (h_ixl (t0) rfl rfl (by omega) Try.underlying22 Try.sizeOf5 (by omega)) ?_
        refine s_p (by first | exact h_load_ints rfl rfl rfl (by omega) rfl Try.isAgg5 | exact h_load_one rfl rfl rfl Try.isAgg5) ?_
        refine s_p (by first | exact h_bin rfl rfl (b_add (Go.IntWalk.i64_in _ (by omega))) | exact h_bin rfl rfl (b_add rfl)) ?_
        refine s_p (h_ixl (t0) rfl rfl (by omega) Try.underlying22 Try.sizeOf5 (by omega)) ?_
        refine s_st (by first | exact m_store_int rfl rfl rfl rfl (by omega) (by (first | assumption | exact (str1_len _ _ _ _ _).trans (strN_len _ _ _ _ _) | exact strN_len _ _ _ _ _)) Try.sizeOf5 rfl | exact m_store_one rfl rfl (by simp) rfl rfl Try.sizeOf5 rfl) ?_
        refine s_nil ?_
        refine n_wp ?_
        refine w_seq ?_
        refine c_reg (by kernel_rfl) rfl ?_
        refine s_p (by first | exact h_move (v := .s _) rfl | exact h_move (v := .agg _) rfl | exact h_move (v := .tup _) rfl) ?_
        refine s_p (h_ixl (t0) rfl rfl (by omega) Try.underlying22 Try.sizeOf5 (by omega)) ?_
        refine s_p (by first | exact h_load_ints rfl rfl rfl (by omega) rfl Try.isAgg5 | exact h_load_one rfl rfl rfl Try.isAgg5) ?_
        refine s_p (h_bin rfl rfl (b_neq rfl)) ?_
        refine s_nil ?_
        refine n_wp ?_
        refine w_cond rfl (fun hc_t65 => ?_) (fun hc_t65 => ?_)
        · skip
          have hl2 : l.set t0 (IntKind.u8.wrap (l.getD t0 0 + 1)) = ctr first (q + 1) := by rw [← hinc, incF, if_neg (of_decide_eq_true hc_t65)]
          rw [hl2, ← hs]
          refine w_exit ?_
          refine x_ne rfl ?_
          refine x_thn ?_
          refine x_thn ?_
          refine x_eq ?_
          refine n_blo ?_
          refine n_wp ?_
          refine c_reg (by kernel_rfl) rfl ?_
          refine s_p (by first | exact h_move (v := .s _) rfl | exact h_move (v := .agg _) rfl | exact h_move (v := .tup _) rfl) ?_
          refine s_p (by first | exact h_bin rfl rfl (b_add (Go.IntWalk.i64_in _ (by omega))) | exact h_bin rfl rfl (b_add rfl)) ?_
          refine s_p (by first | exact h_assign (v := .s _) rfl | exact h_assign (v := .agg _) rfl | exact h_assign (v := .tup _) rfl) ?_
          refine s_nil ?_
          exact n_round ((len + 15) / 16 - (q + 1)) (by omega) ⟨q + 1, by omega, rfl, rfl, rfl⟩ (weak' (by repeat (first | exact trivial | refine ⟨rfl, ?_⟩)) rfl rfl (Nat.le_of_ble_eq_true rfl))
        · skip
          have hz0 : (l.set t0 (IntKind.u8.wrap (l.getD t0 0 + 1))).getD t0 0 = 0 := by have := of_decide_eq_false hc_t65; omega
          have hinc2 : incF (l.set t0 (IntKind.u8.wrap (l.getD t0 0 + 1))) t0 = ctr first (q + 1) := by rw [← hinc]; simp only [incF]; rw [if_pos hz0]
          have hll2 : (l.set t0 (IntKind.u8.wrap (l.getD t0 0 + 1))).length = 16 := by simpa using hll
          refine w_skip ?_
          refine n_blo ?_
          refine n_wp ?_
          refine c_reg (by kernel_rfl) rfl ?_
          refine s_p (by first | exact h_move (v := .s _) rfl | exact h_move (v := .agg _) rfl | exact h_move (v := .tup _) rfl) ?_
          refine s_p (by first | exact h_bin rfl rfl (b_sub (Go.IntWalk.i64_in _ (by omega))) | exact h_bin rfl rfl (b_sub rfl)) ?_
          refine s_p (by first | exact h_assign (v := .s _) rfl | exact h_assign (v := .agg _) rfl | exact h_assign (v := .tup _) rfl) ?_
          refine s_nil ?_
          rw [show (((t0 + 1 : Nat) : Int) - 1 - 1) = (t0 : Int) - 1 by omega]
          exact n_round t0 (by omega) ⟨t0, _, by omega, rfl, hll2, hinc2, rfl, rfl⟩ (weak' (by repeat (first | exact trivial | refine ⟨rfl, ?_⟩)) rfl rfl (Nat.le_of_ble_eq_true rfl))
      · skip
        obtain rfl : t = 0 := by have := of_decide_eq_false hc_t54; omega
        have hl2 : l = ctr first (q + 1) := hinc
        rw [hl2, ← hs]
        refine w_exit ?_
        refine x_thn ?_
        refine x_thn ?_
        refine x_eq ?_
        refine n_blo ?_
        refine n_wp ?_
        refine c_reg (by kernel_rfl) rfl ?_
        refine s_p (by first | exact h_move (v := .s _) rfl | exact h_move (v := .agg _) rfl | exact h_move (v := .tup _) rfl) ?_
        refine s_p (by first | exact h_bin rfl rfl (b_add (Go.IntWalk.i64_in _ (by omega))) | exact h_bin rfl rfl (b_add rfl)) ?_
        refine s_p (by first | exact h_assign (v := .s _) rfl | exact h_assign (v := .agg _) rfl | exact h_assign (v := .tup _) rfl) ?_
        refine s_nil ?_
        exact n_round ((len + 15) / 16 - (q + 1)) (by omega) ⟨q + 1, by omega, rfl, rfl, rfl⟩ (weak' (by repeat (first | exact trivial | refine ⟨rfl, ?_⟩)) rfl rfl (Nat.le_of_ble_eq_true rfl))
  · skip
    obtain rfl : q = (len + 15) / 16 := by have := of_decide_eq_false hc_t24; omega
    unfold streamN
    generalize strN key first B len ((len + 15) / 16) = y
    refine w_exit ?_
    refine x_thn ?_
    refine x_thn ?_
    refine x_eq ?_
    refine n_wp ?_
    refine w_seq ?_
    refine c_reg (by kernel_rfl) rfl ?_
    refine s_p (by first | exact h_move (v := .s _) rfl | exact h_move (v := .agg _) rfl | exact h_move (v := .tup _) rfl) ?_
    refine s_p (by first | exact h_assign (v := .s _) rfl | exact h_assign (v := .agg _) rfl | exact h_assign (v := .tup _) rfl) ?_
    refine s_nil ?_
    refine n_wp ?_
    refine w_ret ?_
    refine done1 (k := 4) (Nat.le_of_ble_eq_true rfl) rfl ?_
    exact ret_tmp (t := 6) Try.results26 rfl

end Go.Proofs.X
