/- A part of the proofs of this claim: RefW3. No conditions. -/
import Derived.Test.YtffflnpidipheaaRefW2
open Go Go.Ab Go.Proofs
namespace Go.Proofs.X
def bst (K b : List Int) (r : Nat) : List Int := if r = 10 then blockL SB K b else enc SB K b r
theorem bst_10 (K b : List Int) : bst K b 10 = blockL SB K b := if_pos rfl
theorem bst_lt (K b : List Int) {r : Nat} (h : r < 10) : bst K b r = enc SB K b r := if_neg (by omega)
theorem bst_s (K b : List Int) {r : Nat} (h : r < 9) : bst K b (r + 1) = xor16 (mixI (subTo SB (enc SB K b r) 16)) (kwas K (r + 1)) := bst_lt K b (by omega)
theorem bst_9 (K b : List Int) : bst K b (9 + 1) = xor16 (subTo SB (enc SB K b 9) 16) (kwas K (9 + 1)) := (bst_10 K b).trans (blockL_def _ _ _)
def I22a (key K b : List Int) (n : Nat) (T : Tm) (H : Heap) : Prop := ∃ i : Nat, i ≤ 16 ∧ n = 16 - i ∧ T = [(0, .s (.ptr 0 0 0)), (5, .s (.ptr 2 0 0)), (6, .s (.ptr 3 0 0)), (7, .s (.ptr 4 0 0)), (8, .s (.int .i64 i))] ∧ H = [some ⟨false, [.ints .u8 256 SB, .ints .u8 256 BK]⟩, some ⟨true, [.ints .u8 16 key]⟩, some ⟨true, [.ints .u8 16 (rx0 b K i)]⟩, some ⟨true, [.ints .u8 16 (z 16)]⟩, some ⟨true, [.ints .u8 176 K]⟩]
def I22n (key K b : List Int) (n : Nat) (T : Tm) (H : Heap) : Prop := ∃ r : Nat, r ≤ 10 ∧ n = 10 - r ∧ T = [(0, .s (.ptr 0 0 0)), (5, .s (.ptr 2 0 0)), (6, .s (.ptr 3 0 0)), (7, .s (.ptr 4 0 0)), (9, .s (.int .i64 ((r + 1 : Nat) : Int)))] ∧ H = [some ⟨false, [.ints .u8 256 SB, .ints .u8 256 BK]⟩, some ⟨true, [.ints .u8 16 key]⟩, some ⟨true, [.ints .u8 16 (bst K b r)]⟩, some ⟨true, [.ints .u8 16 (z 16)]⟩, some ⟨true, [.ints .u8 176 K]⟩]
def I22c (key K x : List Int) (r : Nat) (n : Nat) (T : Tm) (H : Heap) : Prop := ∃ i : Nat, i ≤ 16 ∧ n = 16 - i ∧ T = [(0, .s (.ptr 0 0 0)), (5, .s (.ptr 2 0 0)), (6, .s (.ptr 3 0 0)), (7, .s (.ptr 4 0 0)), (9, .s (.int .i64 ((r + 1 : Nat) : Int))), (10, .s (.ptr 5 0 0)), (11, .s (.int .i64 i))] ∧ H = [some ⟨false, [.ints .u8 256 SB, .ints .u8 256 BK]⟩, some ⟨true, [.ints .u8 16 key]⟩, some ⟨true, [.ints .u8 16 (x)]⟩, some ⟨true, [.ints .u8 16 (z 16)]⟩, some ⟨true, [.ints .u8 176 K]⟩, some ⟨true, [.ints .u8 16 (subTo SB x i)]⟩]
def I22k (key K x y : List Int) (r : Nat) (n : Nat) (T : Tm) (H : Heap) : Prop := ∃ k : Nat, k ≤ 4 ∧ (r = 9 → k = 0) ∧ n = 4 - k ∧ T = [(0, .s (.ptr 0 0 0)), (5, .s (.ptr 2 0 0)), (6, .s (.ptr 3 0 0)), (7, .s (.ptr 4 0 0)), (9, .s (.int .i64 ((r + 1 : Nat) : Int))), (10, .s (.ptr 5 0 0)), (12, .s (.int .i64 k))] ∧ H = [some ⟨false, [.ints .u8 256 SB, .ints .u8 256 BK]⟩, some ⟨true, [.ints .u8 16 key]⟩, some ⟨true, [.ints .u8 16 (x)]⟩, some ⟨true, [.ints .u8 16 (z 16)]⟩, some ⟨true, [.ints .u8 176 K]⟩, some ⟨true, [.ints .u8 16 (rmixN y k)]⟩]
def I22e (key K x c : List Int) (r : Nat) (n : Nat) (T : Tm) (H : Heap) : Prop := ∃ i : Nat, i ≤ 16 ∧ n = 16 - i ∧ T = [(0, .s (.ptr 0 0 0)), (5, .s (.ptr 2 0 0)), (6, .s (.ptr 3 0 0)), (7, .s (.ptr 4 0 0)), (9, .s (.int .i64 ((r + 1 : Nat) : Int))), (10, .s (.ptr 5 0 0)), (17, .s (.int .i64 i))] ∧ H = [some ⟨false, [.ints .u8 256 SB, .ints .u8 256 BK]⟩, some ⟨true, [.ints .u8 16 key]⟩, some ⟨true, [.ints .u8 16 (rset x c K (r + 1) i)]⟩, some ⟨true, [.ints .u8 16 (z 16)]⟩, some ⟨true, [.ints .u8 176 K]⟩, some ⟨true, [.ints .u8 16 c]⟩]
set_option maxRecDepth 100000 in
set_option maxHeartbeats 2000000 in
theorem rBlock_c (key b : List Int) (hk : key.length = 16) (huk : U8 key) (hb : b.length = 16) (hub : U8 b) (H : Heap) (id : Nat) (bk : Blk) (hid : H[id]? = some (some bk)) (hm : bk.segs = [.ints .u8 256 SB, .ints .u8 256 BK]) : ACall Try.prog 22 H [.s (.ptr id 0 0), .agg [.ints .u8 16 key], .agg [.ints .u8 16 b]] (.agg [.ints .u8 16 (blockI key b)]) [] := by
  refine acall_gen (args0 := [.s (.ptr 0 0 0), .agg [.ints .u8 16 key], .agg [.ints .u8 16 b]]) (H0 := [some ⟨false, [.ints .u8 256 SB, .ints .u8 256 BK]⟩]) (vf := (fun _ => .agg [.ints .u8 16 (blockI key b)])) [(id, 0)] Try.func22 rfl Try.ntmps22 (by simp) rfl (foot1 rfl hid (fun i x h => by rw [hm, Nat.zero_add]; exact h) rfl) rfl (fun i x0 x h0 h1 ρ u hr => by match i, h0, h1 with | 0, h0, h1 => (simp at h0 h1; subst h0; subst h1; exact arg_ptr (by rfl) hr) | 1, h0, h1 => (simp at h0 h1; subst h0; subst h1; exact arg_free rfl hr) | 2, h0, h1 => (simp at h0 h1; subst h0; subst h1; exact arg_free rfl hr) | i + 3, h0, _ => simp at h0) rfl (ren_free rfl) (fun W w ρ0 hW hdom => ?_)
  unfold blockI
  refine w_seq ?_
  refine c_reg (by kernel_rfl) rfl ?_
  refine s_a (by first | exact h_box_agg rfl rfl | exact h_box rfl (by simp) rfl) rfl ?_
  refine s_a (by first | exact h_box_agg rfl rfl | exact h_box rfl (by simp) rfl) rfl ?_
  refine s_a (h_alloc (segs := [.ints .u8 16 (z 16)]) Try.zeroValue22 (by kernel_rfl) rfl) rfl ?_
  refine s_nil ?_
  refine n_wp ?_
  refine w_seq ?_
  refine c_any 7 mix (by kernel_rfl) (by kernel_rfl) rfl rfl rfl ?_
  refine t_p (by first | exact h_load_agg rfl rfl (.whole rfl) Try.isAgg22 Try.sizeOf22 | exact h_load_agg rfl rfl (.seg rfl rfl) Try.isAgg22 Try.sizeOf22 | exact h_load_agg rfl rfl (.ints rfl (by omega)) Try.isAgg22 Try.sizeOf22) ?_
  refine t_p (by first | exact h_move (v := .s _) rfl | exact h_move (v := .agg _) rfl | exact h_move (v := .tup _) rfl) ?_
  refine t_p (h_nilCheck rfl) ?_
  refine t_p (h_field rfl Try.underlying105 rfl Try.sizeOf102 (by decide)) ?_
  refine t_p (by first | exact h_load_agg rfl rfl (.whole rfl) Try.isAgg102 Try.sizeOf102 | exact h_load_agg rfl rfl (.seg rfl rfl) Try.isAgg102 Try.sizeOf102 | exact h_load_agg rfl rfl (.ints rfl (by omega)) Try.isAgg102 Try.sizeOf102) ?_
  refine t_p (h_call callable_51 rfl (words_c key hk huk _)) ?_
  refine t_a (h_alloc (segs := [.ints .u8 176 (z 176)]) Try.zeroValue109 (by kernel_rfl) rfl) rfl ?_
  refine t_nil ?_
  refine s_st (by first | exact m_store_agg rfl rfl rfl (.whole (Nat.le_of_ble_eq_true rfl) rfl rfl) Try.sizeOf109 rfl | exact m_store_agg rfl rfl rfl (.seg (Nat.le_of_ble_eq_true rfl) rfl rfl rfl) Try.sizeOf109 rfl | exact m_store_agg rfl rfl rfl (.ints (Nat.le_of_ble_eq_true rfl) rfl (by omega)) Try.sizeOf109 rfl) ?_
  refine s_nil ?_
  refine n_wp ?_
  refine w_seq ?_
  refine w_seq ?_
  generalize keysOf key = K
  refine c_reg (by kernel_rfl) rfl ?_
  refine s_p (by first | exact h_assign (v := .s _) rfl | exact h_assign (v := .agg _) rfl | exact h_assign (v := .tup _) rfl) ?_
  refine s_nil ?_
  refine n_wp ?_
  refine w_block ?_
  refine c_loop (I22a key K b) 16 ⟨0, by omega, rfl, rfl, rfl⟩ (weak' (by repeat (first | exact trivial | refine ⟨rfl, ?_⟩)) rfl rfl (Nat.le_of_ble_eq_true rfl)) ?_
  rintro n T H ⟨i, hi, rfl, rfl, rfl⟩
  refine w_seq ?_
  refine w_seq ?_
  refine c_reg (by kernel_rfl) rfl ?_
  refine s_p (by first | exact h_move (v := .s _) rfl | exact h_move (v := .agg _) rfl | exact h_move (v := .tup _) rfl) ?_
  refine s_p (h_bin rfl rfl (b_lss rfl)) ?_
  refine s_nil ?_
  refine n_wp ?_
  refine w_cond rfl (fun hc_t25 => ?_) (fun hc_t25 => ?_)
  · skip
    have hlt_t25 : i < 16 := by have := of_decide_eq_true hc_t25; omega
    refine w_skip ?_
    refine n_wp ?_
    refine w_seq ?_
    refine w_block ?_
    refine c_any 10 mix (by kernel_rfl) (by kernel_rfl) rfl rfl rfl ?_
    refine t_p (by first | exact h_move (v := .s _) rfl | exact h_move (v := .agg _) rfl | exact h_move (v := .tup _) rfl) ?_
    refine t_p (by first | exact h_ix rfl rfl Try.underlying22 Try.sizeOf5 (by omega) | exact h_ixa rfl rfl Try.underlying22 Try.sizeOf5 (by omega) | exact h_ixl (Int.toNat _) rfl rfl (Int.toNat_of_nonneg (by omega)).symm Try.underlying22 Try.sizeOf5 (by omega)) ?_
    refine t_p (by first | exact h_load_ints rfl rfl rfl (by omega) rfl Try.isAgg5 | exact h_load_one rfl rfl rfl Try.isAgg5) ?_
    refine t_p (by first | exact h_move (v := .s _) rfl | exact h_move (v := .agg _) rfl | exact h_move (v := .tup _) rfl) ?_
    refine t_p (h_bin rfl rfl (b_quo (r := ((i / 4 : Nat) : Int)) (by omega) (wr_n rfl (by omega)))) ?_
    refine t_p (by first | exact h_move (v := .s _) rfl | exact h_move (v := .agg _) rfl | exact h_move (v := .tup _) rfl) ?_
    refine t_p (h_bin rfl rfl (b_rem (r := ((i % 4 : Nat) : Int)) (by omega) rfl)) ?_
    refine t_p (by first | exact h_ixw rfl rfl Try.underlying109 Try.sizeOf108 (by omega) | exact h_ixg rfl rfl Try.underlying109 Try.sizeOf108 (by omega) | exact h_ixgl (Int.toNat _) rfl rfl (Int.toNat_of_nonneg (by omega)).symm Try.underlying109 Try.sizeOf108 (by omega)) ?_
    refine t_p (by first | exact h_ix rfl rfl Try.underlying108 Try.sizeOf5 (by omega) | exact h_ixa rfl rfl Try.underlying108 Try.sizeOf5 (by omega) | exact h_ixl (Int.toNat _) rfl rfl (Int.toNat_of_nonneg (by omega)).symm Try.underlying108 Try.sizeOf5 (by omega)) ?_
    refine t_p (by first | exact h_load_ints rfl rfl rfl (by omega) rfl Try.isAgg5 | exact h_load_one rfl rfl rfl Try.isAgg5) ?_
    refine t_nil ?_
    refine s_p (h_bin rfl rfl (b_xor rfl)) ?_
    refine s_p (by first | exact h_ix rfl rfl Try.underlying22 Try.sizeOf5 (by omega) | exact h_ixa rfl rfl Try.underlying22 Try.sizeOf5 (by omega) | exact h_ixl (Int.toNat _) rfl rfl (Int.toNat_of_nonneg (by omega)).symm Try.underlying22 Try.sizeOf5 (by omega)) ?_
    refine s_st (by first | exact m_store_int rfl rfl rfl rfl (by omega) (by (first | assumption | (simp only [List.length_set]; assumption) | exact (rx0_len _ _ _).trans hb | exact subTo_len _ _ _ | exact (rmixN_len _ _).trans hyl | (simp only [List.length_set]; exact (rmixN_len _ _).trans hyl) | exact (rset_len _ _ _ _ _).trans hxl)) Try.sizeOf5 rfl | exact m_store_one rfl rfl (by simp) rfl rfl Try.sizeOf5 rfl) ?_
    refine s_nil ?_
    refine n_blo ?_
    refine n_wp ?_
    refine c_reg (by kernel_rfl) rfl ?_
    refine s_p (by first | exact h_move (v := .s _) rfl | exact h_move (v := .agg _) rfl | exact h_move (v := .tup _) rfl) ?_
    refine s_p (by first | exact h_bin rfl rfl (b_add (Go.IntWalk.i64_in _ (by omega))) | exact h_bin rfl rfl (b_add rfl)) ?_
    refine s_p (by first | exact h_assign (v := .s _) rfl | exact h_assign (v := .agg _) rfl | exact h_assign (v := .tup _) rfl) ?_
    refine s_nil ?_
    exact n_round (16 - (i + 1)) (by omega) ⟨i + 1, by omega, rfl, rfl, rfl⟩ (weak' (by repeat (first | exact trivial | refine ⟨rfl, ?_⟩)) rfl rfl (Nat.le_of_ble_eq_true rfl))
  · skip
    obtain rfl : i = 16 := by have := of_decide_eq_false hc_t25; omega
    rw [rx0_eq, show xor16 b (kwas K 0) = bst K b 0 from rfl]
    refine w_exit ?_
    refine x_thn ?_
    refine x_thn ?_
    refine x_eq ?_
    refine n_wp ?_
    refine w_seq ?_
    refine w_seq ?_
    refine c_reg (by kernel_rfl) rfl ?_
    refine s_p (by first | exact h_assign (v := .s _) rfl | exact h_assign (v := .agg _) rfl | exact h_assign (v := .tup _) rfl) ?_
    refine s_nil ?_
    refine n_wp ?_
    refine w_block ?_
    refine c_loop (I22n key K b) 10 ⟨0, by omega, rfl, rfl, rfl⟩ (weak' (by repeat (first | exact trivial | refine ⟨rfl, ?_⟩)) rfl rfl (Nat.le_of_ble_eq_true rfl)) ?_
    rintro n T H ⟨r, hr, rfl, rfl, rfl⟩
    refine w_seq ?_
    refine w_seq ?_
    refine c_reg (by kernel_rfl) rfl ?_
    refine s_p (by first | exact h_move (v := .s _) rfl | exact h_move (v := .agg _) rfl | exact h_move (v := .tup _) rfl) ?_
    refine s_p (h_bin rfl rfl (b_leq rfl)) ?_
    refine s_nil ?_
    refine n_wp ?_
    refine w_cond rfl (fun hc_t41 => ?_) (fun hc_t41 => ?_)
    · skip
      have hr10 : r < 10 := by have := of_decide_eq_true hc_t41; omega
      rw [bst_lt K b hr10]
      have hxu := U8_enc (K := K) U8_SB hub r
      have hxl := enc_len SB K b hb r
      have hs9 : r < 9 → bst K b (r + 1) = xor16 (mixI (subTo SB (enc SB K b r) 16)) (kwas K (r + 1)) := fun h => bst_s K b h
      have hl9 : r = 9 → bst K b (r + 1) = xor16 (subTo SB (enc SB K b r) 16) (kwas K (r + 1)) := fun h => by subst h; exact bst_9 K b
      generalize enc SB K b r = x at *
      refine w_skip ?_
      refine n_wp ?_
      refine w_seq ?_
      refine w_block ?_
      refine w_seq ?_
      refine c_reg (by kernel_rfl) rfl ?_
      refine s_a (h_alloc (segs := [.ints .u8 16 (z 16)]) Try.zeroValue22 (by kernel_rfl) rfl) rfl ?_
      refine s_nil ?_
      refine n_wp ?_
      refine w_seq ?_
      refine w_seq ?_
      refine c_reg (by kernel_rfl) rfl ?_
      refine s_p (by first | exact h_assign (v := .s _) rfl | exact h_assign (v := .agg _) rfl | exact h_assign (v := .tup _) rfl) ?_
      refine s_nil ?_
      refine n_wp ?_
      refine w_block ?_
      refine c_loop (I22c key K x r) 16 ⟨0, by omega, rfl, rfl, rfl⟩ (weak' (by repeat (first | exact trivial | refine ⟨rfl, ?_⟩)) rfl rfl (Nat.le_of_ble_eq_true rfl)) ?_
      rintro n T H ⟨i, hi, rfl, rfl, rfl⟩
      refine w_seq ?_
      refine w_seq ?_
      refine c_reg (by kernel_rfl) rfl ?_
      refine s_p (by first | exact h_move (v := .s _) rfl | exact h_move (v := .agg _) rfl | exact h_move (v := .tup _) rfl) ?_
      refine s_p (h_bin rfl rfl (b_lss rfl)) ?_
      refine s_nil ?_
      refine n_wp ?_
      refine w_cond rfl (fun hc_t45 => ?_) (fun hc_t45 => ?_)
      · skip
        have hlt_t45 : i < 16 := by have := of_decide_eq_true hc_t45; omega
        refine w_skip ?_
        refine n_wp ?_
        refine w_seq ?_
        refine w_block ?_
        have e1 := (hxu ((i + 4 * (i % 4)) % 16)).1
        have e2 := (hxu ((i + 4 * (i % 4)) % 16)).2
        refine c_any 14 mix (by kernel_rfl) (by kernel_rfl) rfl rfl rfl ?_
        refine t_p (by first | exact h_move (v := .s _) rfl | exact h_move (v := .agg _) rfl | exact h_move (v := .tup _) rfl) ?_
        refine t_p (by first | exact h_move (v := .s _) rfl | exact h_move (v := .agg _) rfl | exact h_move (v := .tup _) rfl) ?_
        refine t_p (by first | exact h_move (v := .s _) rfl | exact h_move (v := .agg _) rfl | exact h_move (v := .tup _) rfl) ?_
        refine t_p (by first | exact h_move (v := .s _) rfl | exact h_move (v := .agg _) rfl | exact h_move (v := .tup _) rfl) ?_
        refine t_p (h_bin rfl rfl (b_rem (r := ((i % 4 : Nat) : Int)) (by omega) rfl)) ?_
        refine t_p (h_bin rfl rfl (b_mul (r := ((4 * (i % 4) : Nat) : Int)) (wr_n (by omega) (by omega)))) ?_
        refine t_p (h_bin rfl rfl (b_add (r := ((i + 4 * (i % 4) : Nat) : Int)) (wr_n (by omega) (by omega)))) ?_
        refine t_p (h_bin rfl rfl (b_rem (r := (((i + 4 * (i % 4)) % 16 : Nat) : Int)) (by omega) rfl)) ?_
        refine t_p (by first | exact h_ix rfl rfl Try.underlying22 Try.sizeOf5 (by omega) | exact h_ixa rfl rfl Try.underlying22 Try.sizeOf5 (by omega) | exact h_ixl (Int.toNat _) rfl rfl (Int.toNat_of_nonneg (by omega)).symm Try.underlying22 Try.sizeOf5 (by omega)) ?_
        refine t_p (by first | exact h_load_ints rfl rfl rfl (by omega) rfl Try.isAgg5 | exact h_load_one rfl rfl rfl Try.isAgg5) ?_
        refine t_p (h_nilCheck rfl) ?_
        refine t_p (h_field rfl Try.underlying105 rfl Try.sizeOf102 (by decide)) ?_
        refine t_p (by first | exact h_ix rfl rfl Try.underlying102 Try.sizeOf5 (by omega) | exact h_ixa rfl rfl Try.underlying102 Try.sizeOf5 (by omega) | exact h_ixl (Int.toNat _) rfl rfl (Int.toNat_of_nonneg (by omega)).symm Try.underlying102 Try.sizeOf5 (by omega)) ?_
        refine t_p (by first | exact h_load_ints rfl rfl rfl (by omega) rfl Try.isAgg5 | exact h_load_one rfl rfl rfl Try.isAgg5) ?_
        refine t_nil ?_
        refine s_p (by first | exact h_ix rfl rfl Try.underlying22 Try.sizeOf5 (by omega) | exact h_ixa rfl rfl Try.underlying22 Try.sizeOf5 (by omega) | exact h_ixl (Int.toNat _) rfl rfl (Int.toNat_of_nonneg (by omega)).symm Try.underlying22 Try.sizeOf5 (by omega)) ?_
        refine s_st (by first | exact m_store_int rfl rfl rfl rfl (by omega) (by (first | assumption | (simp only [List.length_set]; assumption) | exact (rx0_len _ _ _).trans hb | exact subTo_len _ _ _ | exact (rmixN_len _ _).trans hyl | (simp only [List.length_set]; exact (rmixN_len _ _).trans hyl) | exact (rset_len _ _ _ _ _).trans hxl)) Try.sizeOf5 rfl | exact m_store_one rfl rfl (by simp) rfl rfl Try.sizeOf5 rfl) ?_
        refine s_nil ?_
        refine n_blo ?_
        refine n_wp ?_
        refine c_reg (by kernel_rfl) rfl ?_
        refine s_p (by first | exact h_move (v := .s _) rfl | exact h_move (v := .agg _) rfl | exact h_move (v := .tup _) rfl) ?_
        refine s_p (by first | exact h_bin rfl rfl (b_add (Go.IntWalk.i64_in _ (by omega))) | exact h_bin rfl rfl (b_add rfl)) ?_
        refine s_p (by first | exact h_assign (v := .s _) rfl | exact h_assign (v := .agg _) rfl | exact h_assign (v := .tup _) rfl) ?_
        refine s_nil ?_
        exact n_round (16 - (i + 1)) (by omega) ⟨i + 1, by omega, rfl, rfl, rfl⟩ (weak' (by repeat (first | exact trivial | refine ⟨rfl, ?_⟩)) rfl rfl (Nat.le_of_ble_eq_true rfl))
      · skip
        obtain rfl : i = 16 := by have := of_decide_eq_false hc_t45; omega
        have hyl := subTo_len SB x 16
        have hyu : U8 (subTo SB x 16) := U8_subTo U8_SB 16
        generalize subTo SB x 16 = y at *
        refine w_exit ?_
        refine x_thn ?_
        refine x_thn ?_
        refine x_eq ?_
        refine n_wp ?_
        refine w_seq ?_
        refine w_seq ?_
        refine c_reg (by kernel_rfl) rfl ?_
        refine s_p (by first | exact h_assign (v := .s _) rfl | exact h_assign (v := .agg _) rfl | exact h_assign (v := .tup _) rfl) ?_
        refine s_nil ?_
        refine n_wp ?_
        refine w_block ?_
        refine c_loop (I22k key K x y r) 4 ⟨0, by omega, fun _ => rfl, rfl, rfl, rfl⟩ (weak' (by repeat (first | exact trivial | refine ⟨rfl, ?_⟩)) rfl rfl (Nat.le_of_ble_eq_true rfl)) ?_
        rintro n T H ⟨k, hk4, hk9, rfl, rfl, rfl⟩
        refine w_seq ?_
        refine w_seq ?_
        refine c_reg (by kernel_rfl) rfl ?_
        refine s_p (by first | exact h_move (v := .s _) rfl | exact h_move (v := .agg _) rfl | exact h_move (v := .tup _) rfl) ?_
        refine s_p (h_bin rfl rfl (b_lss rfl)) ?_
        refine s_p (by first | exact h_move (v := .s _) rfl | exact h_move (v := .agg _) rfl | exact h_move (v := .tup _) rfl) ?_
        refine s_opt rfl rfl (fun hB => by rw [hB]; exact (h_move (v := .s _) rfl)) ?_
        refine s_opt rfl rfl (fun hB => by rw [hB]; exact (h_bin rfl rfl (b_lss rfl))) ?_
        refine s_p (h_pick_and rfl rfl rfl) ?_
        refine s_nil ?_
        refine n_wp ?_
        refine w_cond rfl (fun hc_t68 => ?_) (fun hc_t68 => ?_)
        · skip
          have hk2 : k < 4 := by have := of_decide_eq_true (Bool.and_eq_true_iff.1 hc_t68).1; omega
          have hr9 : r < 9 := by have := of_decide_eq_true (Bool.and_eq_true_iff.1 hc_t68).2; omega
          refine w_skip ?_
          refine n_wp ?_
          refine w_seq ?_
          refine w_block ?_
          refine w_seq ?_
          refine c_any 22 mix (by kernel_rfl) (by kernel_rfl) rfl rfl rfl ?_
          refine t_p (by first | exact h_move (v := .s _) rfl | exact h_move (v := .agg _) rfl | exact h_move (v := .tup _) rfl) ?_
          refine t_p (h_bin rfl rfl (b_mul (r := ((4 * k : Nat) : Int)) (wr_n (by omega) (by omega)))) ?_
          refine t_p (by first | exact h_ix rfl rfl Try.underlying22 Try.sizeOf5 (by omega) | exact h_ixa rfl rfl Try.underlying22 Try.sizeOf5 (by omega) | exact h_ixl (Int.toNat _) rfl rfl (Int.toNat_of_nonneg (by omega)).symm Try.underlying22 Try.sizeOf5 (by omega)) ?_
          refine t_p (by first | exact h_load_ints rfl rfl rfl (by omega) rfl Try.isAgg5 | exact h_load_one rfl rfl rfl Try.isAgg5) ?_
          refine t_p (by first | exact h_move (v := .s _) rfl | exact h_move (v := .agg _) rfl | exact h_move (v := .tup _) rfl) ?_
          refine t_p (h_bin rfl rfl (b_mul (r := ((4 * k : Nat) : Int)) (wr_n (by omega) (by omega)))) ?_
          refine t_p (h_bin rfl rfl (b_add (r := ((4 * k + 1 : Nat) : Int)) (wr_n (by omega) (by omega)))) ?_
          refine t_p (by first | exact h_ix rfl rfl Try.underlying22 Try.sizeOf5 (by omega) | exact h_ixa rfl rfl Try.underlying22 Try.sizeOf5 (by omega) | exact h_ixl (Int.toNat _) rfl rfl (Int.toNat_of_nonneg (by omega)).symm Try.underlying22 Try.sizeOf5 (by omega)) ?_
          refine t_p (by first | exact h_load_ints rfl rfl rfl (by omega) rfl Try.isAgg5 | exact h_load_one rfl rfl rfl Try.isAgg5) ?_
          refine t_p (by first | exact h_move (v := .s _) rfl | exact h_move (v := .agg _) rfl | exact h_move (v := .tup _) rfl) ?_
          refine t_p (h_bin rfl rfl (b_mul (r := ((4 * k : Nat) : Int)) (wr_n (by omega) (by omega)))) ?_
          refine t_p (h_bin rfl rfl (b_add (r := ((4 * k + 2 : Nat) : Int)) (wr_n (by omega) (by omega)))) ?_
          refine t_p (by first | exact h_ix rfl rfl Try.underlying22 Try.sizeOf5 (by omega) | exact h_ixa rfl rfl Try.underlying22 Try.sizeOf5 (by omega) | exact h_ixl (Int.toNat _) rfl rfl (Int.toNat_of_nonneg (by omega)).symm Try.underlying22 Try.sizeOf5 (by omega)) ?_
          refine t_p (by first | exact h_load_ints rfl rfl rfl (by omega) rfl Try.isAgg5 | exact h_load_one rfl rfl rfl Try.isAgg5) ?_
          refine t_p (by first | exact h_move (v := .s _) rfl | exact h_move (v := .agg _) rfl | exact h_move (v := .tup _) rfl) ?_
          refine t_p (h_bin rfl rfl (b_mul (r := ((4 * k : Nat) : Int)) (wr_n (by omega) (by omega)))) ?_
          refine t_p (h_bin rfl rfl (b_add (r := ((4 * k + 3 : Nat) : Int)) (wr_n (by omega) (by omega)))) ?_
          refine t_p (by first | exact h_ix rfl rfl Try.underlying22 Try.sizeOf5 (by omega) | exact h_ixa rfl rfl Try.underlying22 Try.sizeOf5 (by omega) | exact h_ixl (Int.toNat _) rfl rfl (Int.toNat_of_nonneg (by omega)).symm Try.underlying22 Try.sizeOf5 (by omega)) ?_
          refine t_p (by first | exact h_load_ints rfl rfl rfl (by omega) rfl Try.isAgg5 | exact h_load_one rfl rfl rfl Try.isAgg5) ?_
          refine t_p (by first | exact h_assign (v := .s _) rfl | exact h_assign (v := .agg _) rfl | exact h_assign (v := .tup _) rfl) ?_
          refine t_p (by first | exact h_assign (v := .s _) rfl | exact h_assign (v := .agg _) rfl | exact h_assign (v := .tup _) rfl) ?_
          refine t_p (by first | exact h_assign (v := .s _) rfl | exact h_assign (v := .agg _) rfl | exact h_assign (v := .tup _) rfl) ?_
          refine t_nil ?_
          refine s_p (by first | exact h_assign (v := .s _) rfl | exact h_assign (v := .agg _) rfl | exact h_assign (v := .tup _) rfl) ?_
          refine s_nil ?_
          refine n_wp ?_
          refine w_seq ?_
          refine c_reg (by kernel_rfl) rfl ?_
          refine s_p (by first | exact h_move (v := .s _) rfl | exact h_move (v := .agg _) rfl | exact h_move (v := .tup _) rfl) ?_
          refine s_p (h_bin rfl rfl (b_mul (r := ((4 * k : Nat) : Int)) (wr_n (by omega) (by omega)))) ?_
          refine s_p (by first | exact h_move (v := .s _) rfl | exact h_move (v := .agg _) rfl | exact h_move (v := .tup _) rfl) ?_
          refine s_p (h_call callable_52 rfl (times_c _ _ _)) ?_
          refine s_p (by first | exact h_move (v := .s _) rfl | exact h_move (v := .agg _) rfl | exact h_move (v := .tup _) rfl) ?_
          refine s_p (h_call callable_52 rfl (times_c _ _ _)) ?_
          refine s_p (h_bin rfl rfl (b_xor rfl)) ?_
          refine s_p (by first | exact h_move (v := .s _) rfl | exact h_move (v := .agg _) rfl | exact h_move (v := .tup _) rfl) ?_
          refine s_p (h_bin rfl rfl (b_xor rfl)) ?_
          refine s_p (by first | exact h_move (v := .s _) rfl | exact h_move (v := .agg _) rfl | exact h_move (v := .tup _) rfl) ?_
          refine s_p (h_bin rfl rfl (b_xor rfl)) ?_
          refine s_p (by first | exact h_ix rfl rfl Try.underlying22 Try.sizeOf5 (by omega) | exact h_ixa rfl rfl Try.underlying22 Try.sizeOf5 (by omega) | exact h_ixl (Int.toNat _) rfl rfl (Int.toNat_of_nonneg (by omega)).symm Try.underlying22 Try.sizeOf5 (by omega)) ?_
          refine s_st (by first | exact m_store_int rfl rfl rfl rfl (by omega) (by (first | assumption | (simp only [List.length_set]; assumption) | exact (rx0_len _ _ _).trans hb | exact subTo_len _ _ _ | exact (rmixN_len _ _).trans hyl | (simp only [List.length_set]; exact (rmixN_len _ _).trans hyl) | exact (rset_len _ _ _ _ _).trans hxl)) Try.sizeOf5 rfl | exact m_store_one rfl rfl (by simp) rfl rfl Try.sizeOf5 rfl) ?_
          refine s_nil ?_
          refine n_wp ?_
          refine w_seq ?_
          refine c_reg (by kernel_rfl) rfl ?_
          refine s_p (by first | exact h_move (v := .s _) rfl | exact h_move (v := .agg _) rfl | exact h_move (v := .tup _) rfl) ?_
          refine s_p (h_bin rfl rfl (b_mul (r := ((4 * k : Nat) : Int)) (wr_n (by omega) (by omega)))) ?_
          refine s_p (h_bin rfl rfl (b_add (r := ((4 * k + 1 : Nat) : Int)) (wr_n (by omega) (by omega)))) ?_
          refine s_p (by first | exact h_move (v := .s _) rfl | exact h_move (v := .agg _) rfl | exact h_move (v := .tup _) rfl) ?_
          refine s_p (by first | exact h_move (v := .s _) rfl | exact h_move (v := .agg _) rfl | exact h_move (v := .tup _) rfl) ?_
          refine s_p (h_call callable_52 rfl (times_c _ _ _)) ?_
          refine s_p (h_bin rfl rfl (b_xor rfl)) ?_
          refine s_p (by first | exact h_move (v := .s _) rfl | exact h_move (v := .agg _) rfl | exact h_move (v := .tup _) rfl) ?_
          refine s_p (h_call callable_52 rfl (times_c _ _ _)) ?_
          refine s_p (h_bin rfl rfl (b_xor rfl)) ?_
          refine s_p (by first | exact h_move (v := .s _) rfl | exact h_move (v := .agg _) rfl | exact h_move (v := .tup _) rfl) ?_
          refine s_p (h_bin rfl rfl (b_xor rfl)) ?_
          refine s_p (by first | exact h_ix rfl rfl Try.underlying22 Try.sizeOf5 (by omega) | exact h_ixa rfl rfl Try.underlying22 Try.sizeOf5 (by omega) | exact h_ixl (Int.toNat _) rfl rfl (Int.toNat_of_nonneg (by omega)).symm Try.underlying22 Try.sizeOf5 (by omega)) ?_
          refine s_st (by first | exact m_store_int rfl rfl rfl rfl (by omega) (by (first | assumption | (simp only [List.length_set]; assumption) | exact (rx0_len _ _ _).trans hb | exact subTo_len _ _ _ | exact (rmixN_len _ _).trans hyl | (simp only [List.length_set]; exact (rmixN_len _ _).trans hyl) | exact (rset_len _ _ _ _ _).trans hxl)) Try.sizeOf5 rfl | exact m_store_one rfl rfl (by simp) rfl rfl Try.sizeOf5 rfl) ?_
          refine s_nil ?_
          refine n_wp ?_
          refine w_seq ?_
          refine c_reg (by kernel_rfl) rfl ?_
          refine s_p (by first | exact h_move (v := .s _) rfl | exact h_move (v := .agg _) rfl | exact h_move (v := .tup _) rfl) ?_
          refine s_p (h_bin rfl rfl (b_mul (r := ((4 * k : Nat) : Int)) (wr_n (by omega) (by omega)))) ?_
          refine s_p (h_bin rfl rfl (b_add (r := ((4 * k + 2 : Nat) : Int)) (wr_n (by omega) (by omega)))) ?_
          refine s_p (by first | exact h_move (v := .s _) rfl | exact h_move (v := .agg _) rfl | exact h_move (v := .tup _) rfl) ?_
          refine s_p (by first | exact h_move (v := .s _) rfl | exact h_move (v := .agg _) rfl | exact h_move (v := .tup _) rfl) ?_
          refine s_p (h_bin rfl rfl (b_xor rfl)) ?_
          refine s_p (by first | exact h_move (v := .s _) rfl | exact h_move (v := .agg _) rfl | exact h_move (v := .tup _) rfl) ?_
          refine s_p (h_call callable_52 rfl (times_c _ _ _)) ?_
          refine s_p (h_bin rfl rfl (b_xor rfl)) ?_
          refine s_p (by first | exact h_move (v := .s _) rfl | exact h_move (v := .agg _) rfl | exact h_move (v := .tup _) rfl) ?_
          refine s_p (h_call callable_52 rfl (times_c _ _ _)) ?_
          refine s_p (h_bin rfl rfl (b_xor rfl)) ?_
          refine s_p (by first | exact h_ix rfl rfl Try.underlying22 Try.sizeOf5 (by omega) | exact h_ixa rfl rfl Try.underlying22 Try.sizeOf5 (by omega) | exact h_ixl (Int.toNat _) rfl rfl (Int.toNat_of_nonneg (by omega)).symm Try.underlying22 Try.sizeOf5 (by omega)) ?_
          refine s_st (by first | exact m_store_int rfl rfl rfl rfl (by omega) (by (first | assumption | (simp only [List.length_set]; assumption) | exact (rx0_len _ _ _).trans hb | exact subTo_len _ _ _ | exact (rmixN_len _ _).trans hyl | (simp only [List.length_set]; exact (rmixN_len _ _).trans hyl) | exact (rset_len _ _ _ _ _).trans hxl)) Try.sizeOf5 rfl | exact m_store_one rfl rfl (by simp) rfl rfl Try.sizeOf5 rfl) ?_
          refine s_nil ?_
          refine n_wp ?_
          refine c_reg (by kernel_rfl) rfl ?_
          refine s_p (by first | exact h_move (v := .s _) rfl | exact h_move (v := .agg _) rfl | exact h_move (v := .tup _) rfl) ?_
          refine s_p (h_bin rfl rfl (b_mul (r := ((4 * k : Nat) : Int)) (wr_n (by omega) (by omega)))) ?_
          refine s_p (h_bin rfl rfl (b_add (r := ((4 * k + 3 : Nat) : Int)) (wr_n (by omega) (by omega)))) ?_
          refine s_p (by first | exact h_move (v := .s _) rfl | exact h_move (v := .agg _) rfl | exact h_move (v := .tup _) rfl) ?_
          refine s_p (h_call callable_52 rfl (times_c _ _ _)) ?_
          refine s_p (by first | exact h_move (v := .s _) rfl | exact h_move (v := .agg _) rfl | exact h_move (v := .tup _) rfl) ?_
          refine s_p (h_bin rfl rfl (b_xor rfl)) ?_
          refine s_p (by first | exact h_move (v := .s _) rfl | exact h_move (v := .agg _) rfl | exact h_move (v := .tup _) rfl) ?_
          refine s_p (h_bin rfl rfl (b_xor rfl)) ?_
          refine s_p (by first | exact h_move (v := .s _) rfl | exact h_move (v := .agg _) rfl | exact h_move (v := .tup _) rfl) ?_
          refine s_p (h_call callable_52 rfl (times_c _ _ _)) ?_
          refine s_p (h_bin rfl rfl (b_xor rfl)) ?_
          refine s_p (by first | exact h_ix rfl rfl Try.underlying22 Try.sizeOf5 (by omega) | exact h_ixa rfl rfl Try.underlying22 Try.sizeOf5 (by omega) | exact h_ixl (Int.toNat _) rfl rfl (Int.toNat_of_nonneg (by omega)).symm Try.underlying22 Try.sizeOf5 (by omega)) ?_
          refine s_st (by first | exact m_store_int rfl rfl rfl rfl (by omega) (by (first | assumption | (simp only [List.length_set]; assumption) | exact (rx0_len _ _ _).trans hb | exact subTo_len _ _ _ | exact (rmixN_len _ _).trans hyl | (simp only [List.length_set]; exact (rmixN_len _ _).trans hyl) | exact (rset_len _ _ _ _ _).trans hxl)) Try.sizeOf5 rfl | exact m_store_one rfl rfl (by simp) rfl rfl Try.sizeOf5 rfl) ?_
          refine s_nil ?_
          refine n_blo ?_
          refine n_wp ?_
          refine c_reg (by kernel_rfl) rfl ?_
          refine s_p (by first | exact h_move (v := .s _) rfl | exact h_move (v := .agg _) rfl | exact h_move (v := .tup _) rfl) ?_
          refine s_p (by first | exact h_bin rfl rfl (b_add (Go.IntWalk.i64_in _ (by omega))) | exact h_bin rfl rfl (b_add rfl)) ?_
          refine s_p (by first | exact h_assign (v := .s _) rfl | exact h_assign (v := .agg _) rfl | exact h_assign (v := .tup _) rfl) ?_
          refine s_nil ?_
          exact n_round (4 - (k + 1)) (by omega) ⟨k + 1, by omega, fun e => by omega, rfl, rfl, rfl⟩ (weak' (by repeat (first | exact trivial | refine ⟨rfl, ?_⟩)) rfl rfl (Nat.le_of_ble_eq_true rfl))
        · skip
          have hcl : (rmixN y k).length = 16 := (rmixN_len _ _).trans hyl
          have hfin : bst K b (r + 1) = xor16 (rmixN y k) (kwas K (r + 1)) := by
            rcases Bool.and_eq_false_iff.1 hc_t68 with h | h
            · have h4 : k = 4 := by have := of_decide_eq_false h; omega
              subst h4
              rw [rmix_eq hyl hyu]
              exact hs9 (Classical.byContradiction fun e => by have := hk9 (by omega); omega)
            · have h9 : r = 9 := by have := of_decide_eq_false h; omega
              have h0 := hk9 h9
              subst h0
              exact hl9 h9
          generalize rmixN y k = c at *
          refine w_exit ?_
          refine x_thn ?_
          refine x_thn ?_
          refine x_eq ?_
          refine n_wp ?_
          refine w_seq ?_
          refine c_reg (by kernel_rfl) rfl ?_
          refine s_p (by first | exact h_assign (v := .s _) rfl | exact h_assign (v := .agg _) rfl | exact h_assign (v := .tup _) rfl) ?_
          refine s_nil ?_
          refine n_wp ?_
          refine w_block ?_
          refine c_loop (I22e key K x c r) 16 ⟨0, by omega, rfl, rfl, rfl⟩ (weak' (by repeat (first | exact trivial | refine ⟨rfl, ?_⟩)) rfl rfl (Nat.le_of_ble_eq_true rfl)) ?_
          rintro n T H ⟨i, hi, rfl, rfl, rfl⟩
          refine w_seq ?_
          refine w_seq ?_
          refine c_reg (by kernel_rfl) rfl ?_
          refine s_p (by first | exact h_move (v := .s _) rfl | exact h_move (v := .agg _) rfl | exact h_move (v := .tup _) rfl) ?_
          refine s_p (h_bin rfl rfl (b_lss rfl)) ?_
          refine s_nil ?_
          refine n_wp ?_
          refine w_cond rfl (fun hc_t142 => ?_) (fun hc_t142 => ?_)
          · skip
            have hlt_t142 : i < 16 := by have := of_decide_eq_true hc_t142; omega
            refine w_skip ?_
            refine n_wp ?_
            refine w_seq ?_
            refine w_block ?_
            refine c_any 15 mix (by kernel_rfl) (by kernel_rfl) rfl rfl rfl ?_
            refine t_p (by first | exact h_move (v := .s _) rfl | exact h_move (v := .agg _) rfl | exact h_move (v := .tup _) rfl) ?_
            refine t_p (by first | exact h_move (v := .s _) rfl | exact h_move (v := .agg _) rfl | exact h_move (v := .tup _) rfl) ?_
            refine t_p (by first | exact h_ix rfl rfl Try.underlying22 Try.sizeOf5 (by omega) | exact h_ixa rfl rfl Try.underlying22 Try.sizeOf5 (by omega) | exact h_ixl (Int.toNat _) rfl rfl (Int.toNat_of_nonneg (by omega)).symm Try.underlying22 Try.sizeOf5 (by omega)) ?_
            refine t_p (by first | exact h_load_ints rfl rfl rfl (by omega) rfl Try.isAgg5 | exact h_load_one rfl rfl rfl Try.isAgg5) ?_
            refine t_p (by first | exact h_move (v := .s _) rfl | exact h_move (v := .agg _) rfl | exact h_move (v := .tup _) rfl) ?_
            refine t_p (h_bin rfl rfl (b_mul (r := ((4 * (r + 1) : Nat) : Int)) (wr_n (by omega) (by omega)))) ?_
            refine t_p (by first | exact h_move (v := .s _) rfl | exact h_move (v := .agg _) rfl | exact h_move (v := .tup _) rfl) ?_
            refine t_p (h_bin rfl rfl (b_quo (r := ((i / 4 : Nat) : Int)) (by omega) (wr_n rfl (by omega)))) ?_
            refine t_p (h_bin rfl rfl (b_add (r := ((4 * (r + 1) + i / 4 : Nat) : Int)) (wr_n (by omega) (by omega)))) ?_
            refine t_p (by first | exact h_move (v := .s _) rfl | exact h_move (v := .agg _) rfl | exact h_move (v := .tup _) rfl) ?_
            refine t_p (h_bin rfl rfl (b_rem (r := ((i % 4 : Nat) : Int)) (by omega) rfl)) ?_
            refine t_p (by first | exact h_ixw rfl rfl Try.underlying109 Try.sizeOf108 (by omega) | exact h_ixg rfl rfl Try.underlying109 Try.sizeOf108 (by omega) | exact h_ixgl (Int.toNat _) rfl rfl (Int.toNat_of_nonneg (by omega)).symm Try.underlying109 Try.sizeOf108 (by omega)) ?_
            refine t_p (by first | exact h_ix rfl rfl Try.underlying108 Try.sizeOf5 (by omega) | exact h_ixa rfl rfl Try.underlying108 Try.sizeOf5 (by omega) | exact h_ixl (Int.toNat _) rfl rfl (Int.toNat_of_nonneg (by omega)).symm Try.underlying108 Try.sizeOf5 (by omega)) ?_
            refine t_p (by first | exact h_load_ints rfl rfl rfl (by omega) rfl Try.isAgg5 | exact h_load_one rfl rfl rfl Try.isAgg5) ?_
            refine t_p (h_bin rfl rfl (b_xor rfl)) ?_
            refine t_nil ?_
            refine s_p (by first | exact h_ix rfl rfl Try.underlying22 Try.sizeOf5 (by omega) | exact h_ixa rfl rfl Try.underlying22 Try.sizeOf5 (by omega) | exact h_ixl (Int.toNat _) rfl rfl (Int.toNat_of_nonneg (by omega)).symm Try.underlying22 Try.sizeOf5 (by omega)) ?_
            refine s_st (by first | exact m_store_int rfl rfl rfl rfl (by omega) (by (first | assumption | (simp only [List.length_set]; assumption) | exact (rx0_len _ _ _).trans hb | exact subTo_len _ _ _ | exact (rmixN_len _ _).trans hyl | (simp only [List.length_set]; exact (rmixN_len _ _).trans hyl) | exact (rset_len _ _ _ _ _).trans hxl)) Try.sizeOf5 rfl | exact m_store_one rfl rfl (by simp) rfl rfl Try.sizeOf5 rfl) ?_
            refine s_nil ?_
            refine n_blo ?_
            refine n_wp ?_
            refine c_reg (by kernel_rfl) rfl ?_
            refine s_p (by first | exact h_move (v := .s _) rfl | exact h_move (v := .agg _) rfl | exact h_move (v := .tup _) rfl) ?_
            refine s_p (by first | exact h_bin rfl rfl (b_add (Go.IntWalk.i64_in _ (by omega))) | exact h_bin rfl rfl (b_add rfl)) ?_
            refine s_p (by first | exact h_assign (v := .s _) rfl | exact h_assign (v := .agg _) rfl | exact h_assign (v := .tup _) rfl) ?_
            refine s_nil ?_
            exact n_round (16 - (i + 1)) (by omega) ⟨i + 1, by omega, rfl, rfl, rfl⟩ (weak' (by repeat (first | exact trivial | refine ⟨rfl, ?_⟩)) rfl rfl (Nat.le_of_ble_eq_true rfl))
          · skip
            obtain rfl : i = 16 := by have := of_decide_eq_false hc_t142; omega
            rw [rset_eq _ _ _ _ hxl hcl, ← hfin]
            refine w_exit ?_
            refine x_thn ?_
            refine x_thn ?_
            refine x_eq ?_
            refine n_blo ?_
            refine n_wp ?_
            refine c_reg (by kernel_rfl) rfl ?_
            refine s_p (by first | exact h_move (v := .s _) rfl | exact h_move (v := .agg _) rfl | exact h_move (v := .tup _) rfl) ?_
            refine s_p (by first | exact h_bin rfl rfl (b_add (Go.IntWalk.i64_in _ (by omega))) | exact h_bin rfl rfl (b_add rfl)) ?_
            refine s_p (by first | exact h_assign (v := .s _) rfl | exact h_assign (v := .agg _) rfl | exact h_assign (v := .tup _) rfl) ?_
            refine s_nil ?_
            exact n_round (10 - (r + 1)) (by omega) ⟨r + 1, by omega, rfl, rfl, rfl⟩ (weak' (by repeat (first | exact trivial | refine ⟨rfl, ?_⟩)) rfl rfl (Nat.le_of_ble_eq_true rfl))
    · skip
      obtain rfl : r = 10 := by have := of_decide_eq_false hc_t41; omega
      rw [bst_10]
      refine w_exit ?_
      refine x_thn ?_
      refine x_thn ?_
      refine x_eq ?_
      refine n_wp ?_
      refine w_seq ?_
      refine c_reg (by kernel_rfl) rfl ?_
      refine s_p (by first | exact h_load_agg rfl rfl (.whole rfl) Try.isAgg22 Try.sizeOf22 | exact h_load_agg rfl rfl (.seg rfl rfl) Try.isAgg22 Try.sizeOf22 | exact h_load_agg rfl rfl (.ints rfl (by omega)) Try.isAgg22 Try.sizeOf22) ?_
      refine s_st (by first | exact m_store_agg rfl rfl rfl (.whole (Nat.le_of_ble_eq_true rfl) rfl rfl) Try.sizeOf22 rfl | exact m_store_agg rfl rfl rfl (.seg (Nat.le_of_ble_eq_true rfl) rfl rfl rfl) Try.sizeOf22 rfl | exact m_store_agg rfl rfl rfl (.ints (Nat.le_of_ble_eq_true rfl) rfl (by omega)) Try.sizeOf22 rfl) ?_
      refine s_nil ?_
      refine n_wp ?_
      refine w_ret ?_
      refine done0 ?_
      exact ret_cell_agg Try.results22 rfl rfl (.whole rfl) Try.isAgg22 Try.sizeOf22

end Go.Proofs.X
