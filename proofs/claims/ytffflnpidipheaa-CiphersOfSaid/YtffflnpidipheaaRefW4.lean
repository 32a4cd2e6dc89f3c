/- A part of the proofs of this claim: RefW4. No conditions. -/
import Derived.Test.YtffflnpidipheaaRefW3
open Go Go.Ab Go.Proofs
namespace Go.Proofs.X
def I24n (key K b : List Int) (n : Nat) (T : Tm) (H : Heap) : Prop := ∃ r : Nat, r ≤ 10 ∧ n = 10 - r ∧ T = [(0, .s (.ptr 0 0 0)), (5, .s (.ptr 2 0 0)), (6, .s (.ptr 3 0 0)), (7, .s (.ptr 4 0 0)), (8, .s (.int .i64 (10 - (r : Int))))] ∧ H = [some ⟨false, [.ints .u8 256 SB, .ints .u8 256 BK]⟩, some ⟨true, [.ints .u8 16 key]⟩, some ⟨true, [.ints .u8 16 (dec BK K b r)]⟩, some ⟨true, [.ints .u8 16 (z 16)]⟩, some ⟨true, [.ints .u8 176 K]⟩]
def I24a (key K x : List Int) (r : Nat) (n : Nat) (T : Tm) (H : Heap) : Prop := ∃ i : Nat, i ≤ 16 ∧ n = 16 - i ∧ T = [(0, .s (.ptr 0 0 0)), (5, .s (.ptr 2 0 0)), (6, .s (.ptr 3 0 0)), (7, .s (.ptr 4 0 0)), (8, .s (.int .i64 (10 - (r : Int)))), (9, .s (.int .i64 i))] ∧ H = [some ⟨false, [.ints .u8 256 SB, .ints .u8 256 BK]⟩, some ⟨true, [.ints .u8 16 key]⟩, some ⟨true, [.ints .u8 16 (rxn x K (10 - r) i)]⟩, some ⟨true, [.ints .u8 16 (z 16)]⟩, some ⟨true, [.ints .u8 176 K]⟩]
def I24k (key K y : List Int) (r : Nat) (n : Nat) (T : Tm) (H : Heap) : Prop := ∃ k : Nat, k ≤ 4 ∧ (r = 0 → k = 0) ∧ n = 4 - k ∧ T = [(0, .s (.ptr 0 0 0)), (5, .s (.ptr 2 0 0)), (6, .s (.ptr 3 0 0)), (7, .s (.ptr 4 0 0)), (8, .s (.int .i64 (10 - (r : Int)))), (10, .s (.int .i64 k))] ∧ H = [some ⟨false, [.ints .u8 256 SB, .ints .u8 256 BK]⟩, some ⟨true, [.ints .u8 16 key]⟩, some ⟨true, [.ints .u8 16 (rimixN y k)]⟩, some ⟨true, [.ints .u8 16 (z 16)]⟩, some ⟨true, [.ints .u8 176 K]⟩]
def I24c (key K d : List Int) (r : Nat) (n : Nat) (T : Tm) (H : Heap) : Prop := ∃ i : Nat, i ≤ 16 ∧ n = 16 - i ∧ T = [(0, .s (.ptr 0 0 0)), (5, .s (.ptr 2 0 0)), (6, .s (.ptr 3 0 0)), (7, .s (.ptr 4 0 0)), (8, .s (.int .i64 (10 - (r : Int)))), (15, .s (.ptr 5 0 0)), (16, .s (.int .i64 i))] ∧ H = [some ⟨false, [.ints .u8 256 SB, .ints .u8 256 BK]⟩, some ⟨true, [.ints .u8 16 key]⟩, some ⟨true, [.ints .u8 16 (d)]⟩, some ⟨true, [.ints .u8 16 (z 16)]⟩, some ⟨true, [.ints .u8 176 K]⟩, some ⟨true, [.ints .u8 16 (subBack BK d i)]⟩]
def I24e (key K x : List Int) (n : Nat) (T : Tm) (H : Heap) : Prop := ∃ i : Nat, i ≤ 16 ∧ n = 16 - i ∧ T = [(0, .s (.ptr 0 0 0)), (5, .s (.ptr 2 0 0)), (6, .s (.ptr 3 0 0)), (7, .s (.ptr 4 0 0)), (17, .s (.int .i64 i))] ∧ H = [some ⟨false, [.ints .u8 256 SB, .ints .u8 256 BK]⟩, some ⟨true, [.ints .u8 16 key]⟩, some ⟨true, [.ints .u8 16 (rx0 x K i)]⟩, some ⟨true, [.ints .u8 16 (z 16)]⟩, some ⟨true, [.ints .u8 176 K]⟩]
set_option maxRecDepth 100000 in
set_option maxHeartbeats 2000000 in
theorem rBack_c (key b : List Int) (hk : key.length = 16) (huk : U8 key) (hb : b.length = 16) (hub : U8 b) (H : Heap) (id : Nat) (bk : Blk) (hid : H[id]? = some (some bk)) (hm : bk.segs = [.ints .u8 256 SB, .ints .u8 256 BK]) : ACall Try.prog 24 H [.s (.ptr id 0 0), .agg [.ints .u8 16 key], .agg [.ints .u8 16 b]] (.agg [.ints .u8 16 (backI key b)]) [] := by
  refine acall_gen (args0 := [.s (.ptr 0 0 0), .agg [.ints .u8 16 key], .agg [.ints .u8 16 b]]) (H0 := [some ⟨false, [.ints .u8 256 SB, .ints .u8 256 BK]⟩]) (vf := (fun _ => .agg [.ints .u8 16 (backI key b)])) [(id, 0)] Try.func24 rfl Try.ntmps24 (by simp) rfl (foot1 rfl hid (fun i x h => by rw [hm, Nat.zero_add]; exact h) rfl) rfl (fun i x0 x h0 h1 ρ u hr => by match i, h0, h1 with | 0, h0, h1 => (simp at h0 h1; subst h0; subst h1; exact arg_ptr (by rfl) hr) | 1, h0, h1 => (simp at h0 h1; subst h0; subst h1; exact arg_free rfl hr) | 2, h0, h1 => (simp at h0 h1; subst h0; subst h1; exact arg_free rfl hr) | i + 3, h0, _ => simp at h0) rfl (ren_free rfl) (fun W w ρ0 hW hdom => ?_)
  unfold backI
  refine w_seq ?_
  refine c_reg (by kernel_rfl) rfl ?_
  refine s_a (by first | exact h_box_agg rfl rfl | exact h_box rfl (by simp) rfl) rfl ?_
  refine s_a (by first | exact h_box_agg rfl rfl | exact h_box rfl (by simp) rfl) rfl ?_
  refine s_a (h_alloc (segs := [.ints .u8 16 (z 16)]) Try.zeroValue22 (by kernel_rfl) rfl) rfl ?_
  refine s_nil ?_
  refine n_wp ?_
  refine w_seq ?_
  refine c_any 7 mix (by kernel_rfl) (by kernel_rfl) rfl rfl rfl ?_
  refine t_p (by first | exact h_load_agg rfl rfl (.whole rfl) Try.isAgg22 Try.sizeOf22 | exact h_load_agg rfl rfl (.seg rfl rfl) Try.isAgg22 Try.sizeOf22 | exact h_load_agg rfl rfl (.ints rfl (by omega)) Try.isAgg22 Try.sizeOf22) ?_
  refine t_p (by first | exact h_move (v := .s _) rfl | exact h_move (v := .agg _) rfl | exact h_move (v := .tup _) rfl) ?_
  refine t_p (h_nilCheck rfl) ?_
  refine t_p (h_field rfl Try.underlying105 rfl Try.sizeOf102 (by decide)) ?_
  refine t_p (by first | exact h_load_agg rfl rfl (.whole rfl) Try.isAgg102 Try.sizeOf102 | exact h_load_agg rfl rfl (.seg rfl rfl) Try.isAgg102 Try.sizeOf102 | exact h_load_agg rfl rfl (.ints rfl (by omega)) Try.isAgg102 Try.sizeOf102) ?_
  refine t_p (h_call callable_51 rfl (words_c key hk huk _)) ?_
  refine t_a (h_alloc (segs := [.ints .u8 176 (z 176)]) Try.zeroValue109 (by kernel_rfl) rfl) rfl ?_
  refine t_nil ?_
  refine s_st (by first | exact m_store_agg rfl rfl rfl (.whole (Nat.le_of_ble_eq_true rfl) rfl rfl) Try.sizeOf109 rfl | exact m_store_agg rfl rfl rfl (.seg (Nat.le_of_ble_eq_true rfl) rfl rfl rfl) Try.sizeOf109 rfl | exact m_store_agg rfl rfl rfl (.ints (Nat.le_of_ble_eq_true rfl) rfl (by omega)) Try.sizeOf109 rfl) ?_
  refine s_nil ?_
  refine n_wp ?_
  refine w_seq ?_
  refine w_seq ?_
  generalize keysOf key = K
  refine c_reg (by kernel_rfl) rfl ?_
  refine s_p (by first | exact h_assign (v := .s _) rfl | exact h_assign (v := .agg _) rfl | exact h_assign (v := .tup _) rfl) ?_
  refine s_nil ?_
  refine n_wp ?_
  refine w_block ?_
  refine c_loop (I24n key K b) 10 ⟨0, by omega, rfl, rfl, rfl⟩ (weak' (by repeat (first | exact trivial | refine ⟨rfl, ?_⟩)) rfl rfl (Nat.le_of_ble_eq_true rfl)) ?_
  rintro n T H ⟨r, hr, rfl, rfl, rfl⟩
  refine w_seq ?_
  refine w_seq ?_
  refine c_reg (by kernel_rfl) rfl ?_
  refine s_p (by first | exact h_move (v := .s _) rfl | exact h_move (v := .agg _) rfl | exact h_move (v := .tup _) rfl) ?_
  refine s_p (h_bin rfl rfl (b_geq rfl)) ?_
  refine s_nil ?_
  refine n_wp ?_
  refine w_cond rfl (fun hc_t25 => ?_) (fun hc_t25 => ?_)
  · skip
    have hr10 : r < 10 := by have := of_decide_eq_true hc_t25; omega
    have hxu := U8_dec (K := K) U8_BK hub r
    have hxl := dec_len BK K b hb r
    have hds := dec_s BK K b r
    generalize dec BK K b r = x at *
    refine w_skip ?_
    refine n_wp ?_
    refine w_seq ?_
    refine w_block ?_
    refine w_seq ?_
    refine w_seq ?_
    refine c_reg (by kernel_rfl) rfl ?_
    refine s_p (by first | exact h_assign (v := .s _) rfl | exact h_assign (v := .agg _) rfl | exact h_assign (v := .tup _) rfl) ?_
    refine s_nil ?_
    refine n_wp ?_
    refine w_block ?_
    refine c_loop (I24a key K x r) 16 ⟨0, by omega, rfl, rfl, rfl⟩ (weak' (by repeat (first | exact trivial | refine ⟨rfl, ?_⟩)) rfl rfl (Nat.le_of_ble_eq_true rfl)) ?_
    rintro n T H ⟨i, hi, rfl, rfl, rfl⟩
    refine w_seq ?_
    refine w_seq ?_
    refine c_reg (by kernel_rfl) rfl ?_
    refine s_p (by first | exact h_move (v := .s _) rfl | exact h_move (v := .agg _) rfl | exact h_move (v := .tup _) rfl) ?_
    refine s_p (h_bin rfl rfl (b_lss rfl)) ?_
    refine s_nil ?_
    refine n_wp ?_
    refine w_cond rfl (fun hc_t29 => ?_) (fun hc_t29 => ?_)
    · skip
      have hlt_t29 : i < 16 := by have := of_decide_eq_true hc_t29; omega
      refine w_skip ?_
      refine n_wp ?_
      refine w_seq ?_
      refine w_block ?_
      refine c_any 13 mix (by kernel_rfl) (by kernel_rfl) rfl rfl rfl ?_
      refine t_p (by first | exact h_move (v := .s _) rfl | exact h_move (v := .agg _) rfl | exact h_move (v := .tup _) rfl) ?_
      refine t_p (by first | exact h_ix rfl rfl Try.underlying22 Try.sizeOf5 (by omega) | exact h_ixa rfl rfl Try.underlying22 Try.sizeOf5 (by omega) | exact h_ixl (Int.toNat _) rfl rfl (Int.toNat_of_nonneg (by omega)).symm Try.underlying22 Try.sizeOf5 (by omega)) ?_
      refine t_p (by first | exact h_load_ints rfl rfl rfl (by omega) rfl Try.isAgg5 | exact h_load_one rfl rfl rfl Try.isAgg5) ?_
      refine t_p (by first | exact h_move (v := .s _) rfl | exact h_move (v := .agg _) rfl | exact h_move (v := .tup _) rfl) ?_
      refine t_p (h_bin rfl rfl (b_mul (r := ((4 * (10 - r) : Nat) : Int)) (wr_n (by omega) (by omega)))) ?_
      refine t_p (by first | exact h_move (v := .s _) rfl | exact h_move (v := .agg _) rfl | exact h_move (v := .tup _) rfl) ?_
      refine t_p (h_bin rfl rfl (b_quo (r := ((i / 4 : Nat) : Int)) (by omega) (wr_n rfl (by omega)))) ?_
      refine t_p (h_bin rfl rfl (b_add (r := ((4 * (10 - r) + i / 4 : Nat) : Int)) (wr_n (by omega) (by omega)))) ?_
      refine t_p (by first | exact h_move (v := .s _) rfl | exact h_move (v := .agg _) rfl | exact h_move (v := .tup _) rfl) ?_
      refine t_p (h_bin rfl rfl (b_rem (r := ((i % 4 : Nat) : Int)) (by omega) rfl)) ?_
      refine t_p (by first | exact h_ixw rfl rfl Try.underlying109 Try.sizeOf108 (by omega) | exact h_ixg rfl rfl Try.underlying109 Try.sizeOf108 (by omega) | exact h_ixgl (Int.toNat _) rfl rfl (Int.toNat_of_nonneg (by omega)).symm Try.underlying109 Try.sizeOf108 (by omega)) ?_
      refine t_p (by first | exact h_ix rfl rfl Try.underlying108 Try.sizeOf5 (by omega) | exact h_ixa rfl rfl Try.underlying108 Try.sizeOf5 (by omega) | exact h_ixl (Int.toNat _) rfl rfl (Int.toNat_of_nonneg (by omega)).symm Try.underlying108 Try.sizeOf5 (by omega)) ?_
      refine t_p (by first | exact h_load_ints rfl rfl rfl (by omega) rfl Try.isAgg5 | exact h_load_one rfl rfl rfl Try.isAgg5) ?_
      refine t_nil ?_
      refine s_p (h_bin rfl rfl (b_xor rfl)) ?_
      refine s_p (by first | exact h_ix rfl rfl Try.underlying22 Try.sizeOf5 (by omega) | exact h_ixa rfl rfl Try.underlying22 Try.sizeOf5 (by omega) | exact h_ixl (Int.toNat _) rfl rfl (Int.toNat_of_nonneg (by omega)).symm Try.underlying22 Try.sizeOf5 (by omega)) ?_
      refine s_st (by first | exact m_store_int rfl rfl rfl rfl (by omega) (by (first | assumption | (simp only [List.length_set]; assumption) | exact (rxn_len _ _ _ _).trans hxl | exact (rx0_len _ _ _).trans hxl | exact subBack_len _ _ _ | exact (rimixN_len _ _).trans hyl | (simp only [List.length_set]; exact (rimixN_len _ _).trans hyl))) Try.sizeOf5 rfl | exact m_store_one rfl rfl (by simp) rfl rfl Try.sizeOf5 rfl) ?_
      refine s_nil ?_
      refine n_blo ?_
      refine n_wp ?_
      refine c_reg (by kernel_rfl) rfl ?_
      refine s_p (by first | exact h_move (v := .s _) rfl | exact h_move (v := .agg _) rfl | exact h_move (v := .tup _) rfl) ?_
      refine s_p (by first | exact h_bin rfl rfl (b_add (Go.IntWalk.i64_in _ (by omega))) | exact h_bin rfl rfl (b_add rfl)) ?_
      refine s_p (by first | exact h_assign (v := .s _) rfl | exact h_assign (v := .agg _) rfl | exact h_assign (v := .tup _) rfl) ?_
      refine s_nil ?_
      exact n_round (16 - (i + 1)) (by omega) ⟨i + 1, by omega, rfl, rfl, rfl⟩ (weak' (by repeat (first | exact trivial | refine ⟨rfl, ?_⟩)) rfl rfl (Nat.le_of_ble_eq_true rfl))
    · skip
      obtain rfl : i = 16 := by have := of_decide_eq_false hc_t29; omega
      rw [rxn_eq]
      have hyl : (xor16 x (kwas K (10 - r))).length = 16 := (xor16_len _ _).trans hxl
      have hyu : U8 (xor16 x (kwas K (10 - r))) := U8_xor16 hxu
      generalize xor16 x (kwas K (10 - r)) = y at *
      refine w_exit ?_
      refine x_thn ?_
      refine x_thn ?_
      refine x_eq ?_
      refine n_wp ?_
      refine w_seq ?_
      refine w_seq ?_
      refine c_reg (by kernel_rfl) rfl ?_
      refine s_p (by first | exact h_assign (v := .s _) rfl | exact h_assign (v := .agg _) rfl | exact h_assign (v := .tup _) rfl) ?_
      refine s_nil ?_
      refine n_wp ?_
      refine w_block ?_
      refine c_loop (I24k key K y r) 4 ⟨0, by omega, fun _ => rfl, rfl, rfl, rfl⟩ (weak' (by repeat (first | exact trivial | refine ⟨rfl, ?_⟩)) rfl rfl (Nat.le_of_ble_eq_true rfl)) ?_
      rintro n T H ⟨k, hk4, hk9, rfl, rfl, rfl⟩
      refine w_seq ?_
      refine w_seq ?_
      refine c_reg (by kernel_rfl) rfl ?_
      refine s_p (by first | exact h_move (v := .s _) rfl | exact h_move (v := .agg _) rfl | exact h_move (v := .tup _) rfl) ?_
      refine s_p (h_bin rfl rfl (b_lss rfl)) ?_
      refine s_p (by first | exact h_move (v := .s _) rfl | exact h_move (v := .agg _) rfl | exact h_move (v := .tup _) rfl) ?_
      refine s_opt rfl rfl (fun hB => by rw [hB]; exact (h_move (v := .s _) rfl)) ?_
      refine s_opt rfl rfl (fun hB => by rw [hB]; exact (h_bin rfl rfl (b_lss rfl))) ?_
      refine s_p (h_pick_and rfl rfl rfl) ?_
      refine s_nil ?_
      refine n_wp ?_
      refine w_cond rfl (fun hc_t52 => ?_) (fun hc_t52 => ?_)
      · skip
        have hk2 : k < 4 := by have := of_decide_eq_true (Bool.and_eq_true_iff.1 hc_t52).1; omega
        have hr9 : 0 < r := by have := of_decide_eq_true (Bool.and_eq_true_iff.1 hc_t52).2; omega
        refine w_skip ?_
        refine n_wp ?_
        refine w_seq ?_
        refine w_block ?_
        refine w_seq ?_
        refine c_any 22 mix (by kernel_rfl) (by kernel_rfl) rfl rfl rfl ?_
        refine t_p (by first | exact h_move (v := .s _) rfl | exact h_move (v := .agg _) rfl | exact h_move (v := .tup _) rfl) ?_
        refine t_p (h_bin rfl rfl (b_mul (r := ((4 * k : Nat) : Int)) (wr_n (by omega) (by omega)))) ?_
        refine t_p (by first | exact h_ix rfl rfl Try.underlying22 Try.sizeOf5 (by omega) | exact h_ixa rfl rfl Try.underlying22 Try.sizeOf5 (by omega) | exact h_ixl (Int.toNat _) rfl rfl (Int.toNat_of_nonneg (by omega)).symm Try.underlying22 Try.sizeOf5 (by omega)) ?_
        refine t_p (by first | exact h_load_ints rfl rfl rfl (by omega) rfl Try.isAgg5 | exact h_load_one rfl rfl rfl Try.isAgg5) ?_
        refine t_p (by first | exact h_move (v := .s _) rfl | exact h_move (v := .agg _) rfl | exact h_move (v := .tup _) rfl) ?_
        refine t_p (h_bin rfl rfl (b_mul (r := ((4 * k : Nat) : Int)) (wr_n (by omega) (by omega)))) ?_
        refine t_p (h_bin rfl rfl (b_add (r := ((4 * k + 1 : Nat) : Int)) (wr_n (by omega) (by omega)))) ?_
        refine t_p (by first | exact h_ix rfl rfl Try.underlying22 Try.sizeOf5 (by omega) | exact h_ixa rfl rfl Try.underlying22 Try.sizeOf5 (by omega) | exact h_ixl (Int.toNat _) rfl rfl (Int.toNat_of_nonneg (by omega)).symm Try.underlying22 Try.sizeOf5 (by omega)) ?_
        refine t_p (by first | exact h_load_ints rfl rfl rfl (by omega) rfl Try.isAgg5 | exact h_load_one rfl rfl rfl Try.isAgg5) ?_
        refine t_p (by first | exact h_move (v := .s _) rfl | exact h_move (v := .agg _) rfl | exact h_move (v := .tup _) rfl) ?_
        refine t_p (h_bin rfl rfl (b_mul (r := ((4 * k : Nat) : Int)) (wr_n (by omega) (by omega)))) ?_
        refine t_p (h_bin rfl rfl (b_add (r := ((4 * k + 2 : Nat) : Int)) (wr_n (by omega) (by omega)))) ?_
        refine t_p (by first | exact h_ix rfl rfl Try.underlying22 Try.sizeOf5 (by omega) | exact h_ixa rfl rfl Try.underlying22 Try.sizeOf5 (by omega) | exact h_ixl (Int.toNat _) rfl rfl (Int.toNat_of_nonneg (by omega)).symm Try.underlying22 Try.sizeOf5 (by omega)) ?_
        refine t_p (by first | exact h_load_ints rfl rfl rfl (by omega) rfl Try.isAgg5 | exact h_load_one rfl rfl rfl Try.isAgg5) ?_
        refine t_p (by first | exact h_move (v := .s _) rfl | exact h_move (v := .agg _) rfl | exact h_move (v := .tup _) rfl) ?_
        refine t_p (h_bin rfl rfl (b_mul (r := ((4 * k : Nat) : Int)) (wr_n (by omega) (by omega)))) ?_
        refine t_p (h_bin rfl rfl (b_add (r := ((4 * k + 3 : Nat) : Int)) (wr_n (by omega) (by omega)))) ?_
        refine t_p (by first | exact h_ix rfl rfl Try.underlying22 Try.sizeOf5 (by omega) | exact h_ixa rfl rfl Try.underlying22 Try.sizeOf5 (by omega) | exact h_ixl (Int.toNat _) rfl rfl (Int.toNat_of_nonneg (by omega)).symm Try.underlying22 Try.sizeOf5 (by omega)) ?_
        refine t_p (by first | exact h_load_ints rfl rfl rfl (by omega) rfl Try.isAgg5 | exact h_load_one rfl rfl rfl Try.isAgg5) ?_
        refine t_p (by first | exact h_assign (v := .s _) rfl | exact h_assign (v := .agg _) rfl | exact h_assign (v := .tup _) rfl) ?_
        refine t_p (by first | exact h_assign (v := .s _) rfl | exact h_assign (v := .agg _) rfl | exact h_assign (v := .tup _) rfl) ?_
        refine t_p (by first | exact h_assign (v := .s _) rfl | exact h_assign (v := .agg _) rfl | exact h_assign (v := .tup _) rfl) ?_
        refine t_nil ?_
        refine s_p (by first | exact h_assign (v := .s _) rfl | exact h_assign (v := .agg _) rfl | exact h_assign (v := .tup _) rfl) ?_
        refine s_nil ?_
        refine n_wp ?_
        refine w_seq ?_
        refine c_reg (by kernel_rfl) rfl ?_
        refine s_p (by first | exact h_move (v := .s _) rfl | exact h_move (v := .agg _) rfl | exact h_move (v := .tup _) rfl) ?_
        refine s_p (h_bin rfl rfl (b_mul (r := ((4 * k : Nat) : Int)) (wr_n (by omega) (by omega)))) ?_
        refine s_p (by first | exact h_move (v := .s _) rfl | exact h_move (v := .agg _) rfl | exact h_move (v := .tup _) rfl) ?_
        refine s_p (h_call callable_52 rfl (times_c _ _ _)) ?_
        refine s_p (by first | exact h_move (v := .s _) rfl | exact h_move (v := .agg _) rfl | exact h_move (v := .tup _) rfl) ?_
        refine s_p (h_call callable_52 rfl (times_c _ _ _)) ?_
        refine s_p (h_bin rfl rfl (b_xor rfl)) ?_
        refine s_p (by first | exact h_move (v := .s _) rfl | exact h_move (v := .agg _) rfl | exact h_move (v := .tup _) rfl) ?_
        refine s_p (h_call callable_52 rfl (times_c _ _ _)) ?_
        refine s_p (h_bin rfl rfl (b_xor rfl)) ?_
        refine s_p (by first | exact h_move (v := .s _) rfl | exact h_move (v := .agg _) rfl | exact h_move (v := .tup _) rfl) ?_
        refine s_p (h_call callable_52 rfl (times_c _ _ _)) ?_
        refine s_p (h_bin rfl rfl (b_xor rfl)) ?_
        refine s_p (by first | exact h_ix rfl rfl Try.underlying22 Try.sizeOf5 (by omega) | exact h_ixa rfl rfl Try.underlying22 Try.sizeOf5 (by omega) | exact h_ixl (Int.toNat _) rfl rfl (Int.toNat_of_nonneg (by omega)).symm Try.underlying22 Try.sizeOf5 (by omega)) ?_
        refine s_st (by first | exact m_store_int rfl rfl rfl rfl (by omega) (by (first | assumption | (simp only [List.length_set]; assumption) | exact (rxn_len _ _ _ _).trans hxl | exact (rx0_len _ _ _).trans hxl | exact subBack_len _ _ _ | exact (rimixN_len _ _).trans hyl | (simp only [List.length_set]; exact (rimixN_len _ _).trans hyl))) Try.sizeOf5 rfl | exact m_store_one rfl rfl (by simp) rfl rfl Try.sizeOf5 rfl) ?_
        refine s_nil ?_
        refine n_wp ?_
        refine w_seq ?_
        refine c_reg (by kernel_rfl) rfl ?_
        refine s_p (by first | exact h_move (v := .s _) rfl | exact h_move (v := .agg _) rfl | exact h_move (v := .tup _) rfl) ?_
        refine s_p (h_bin rfl rfl (b_mul (r := ((4 * k : Nat) : Int)) (wr_n (by omega) (by omega)))) ?_
        refine s_p (h_bin rfl rfl (b_add (r := ((4 * k + 1 : Nat) : Int)) (wr_n (by omega) (by omega)))) ?_
        refine s_p (by first | exact h_move (v := .s _) rfl | exact h_move (v := .agg _) rfl | exact h_move (v := .tup _) rfl) ?_
        refine s_p (h_call callable_52 rfl (times_c _ _ _)) ?_
        refine s_p (by first | exact h_move (v := .s _) rfl | exact h_move (v := .agg _) rfl | exact h_move (v := .tup _) rfl) ?_
        refine s_p (h_call callable_52 rfl (times_c _ _ _)) ?_
        refine s_p (h_bin rfl rfl (b_xor rfl)) ?_
        refine s_p (by first | exact h_move (v := .s _) rfl | exact h_move (v := .agg _) rfl | exact h_move (v := .tup _) rfl) ?_
        refine s_p (h_call callable_52 rfl (times_c _ _ _)) ?_
        refine s_p (h_bin rfl rfl (b_xor rfl)) ?_
        refine s_p (by first | exact h_move (v := .s _) rfl | exact h_move (v := .agg _) rfl | exact h_move (v := .tup _) rfl) ?_
        refine s_p (h_call callable_52 rfl (times_c _ _ _)) ?_
        refine s_p (h_bin rfl rfl (b_xor rfl)) ?_
        refine s_p (by first | exact h_ix rfl rfl Try.underlying22 Try.sizeOf5 (by omega) | exact h_ixa rfl rfl Try.underlying22 Try.sizeOf5 (by omega) | exact h_ixl (Int.toNat _) rfl rfl (Int.toNat_of_nonneg (by omega)).symm Try.underlying22 Try.sizeOf5 (by omega)) ?_
        refine s_st (by first | exact m_store_int rfl rfl rfl rfl (by omega) (by (first | assumption | (simp only [List.length_set]; assumption) | exact (rxn_len _ _ _ _).trans hxl | exact (rx0_len _ _ _).trans hxl | exact subBack_len _ _ _ | exact (rimixN_len _ _).trans hyl | (simp only [List.length_set]; exact (rimixN_len _ _).trans hyl))) Try.sizeOf5 rfl | exact m_store_one rfl rfl (by simp) rfl rfl Try.sizeOf5 rfl) ?_
        refine s_nil ?_
        refine n_wp ?_
        refine w_seq ?_
        refine c_reg (by kernel_rfl) rfl ?_
        refine s_p (by first | exact h_move (v := .s _) rfl | exact h_move (v := .agg _) rfl | exact h_move (v := .tup _) rfl) ?_
        refine s_p (h_bin rfl rfl (b_mul (r := ((4 * k : Nat) : Int)) (wr_n (by omega) (by omega)))) ?_
        refine s_p (h_bin rfl rfl (b_add (r := ((4 * k + 2 : Nat) : Int)) (wr_n (by omega) (by omega)))) ?_
        refine s_p (by first | exact h_move (v := .s _) rfl | exact h_move (v := .agg _) rfl | exact h_move (v := .tup _) rfl) ?_
        refine s_p (h_call callable_52 rfl (times_c _ _ _)) ?_
        refine s_p (by first | exact h_move (v := .s _) rfl | exact h_move (v := .agg _) rfl | exact h_move (v := .tup _) rfl) ?_
        refine s_p (h_call callable_52 rfl (times_c _ _ _)) ?_
        refine s_p (h_bin rfl rfl (b_xor rfl)) ?_
        refine s_p (by first | exact h_move (v := .s _) rfl | exact h_move (v := .agg _) rfl | exact h_move (v := .tup _) rfl) ?_
        refine s_p (h_call callable_52 rfl (times_c _ _ _)) ?_
        refine s_p (h_bin rfl rfl (b_xor rfl)) ?_
        refine s_p (by first | exact h_move (v := .s _) rfl | exact h_move (v := .agg _) rfl | exact h_move (v := .tup _) rfl) ?_
        refine s_p (h_call callable_52 rfl (times_c _ _ _)) ?_
        refine s_p (h_bin rfl rfl (b_xor rfl)) ?_
        refine s_p (by first | exact h_ix rfl rfl Try.underlying22 Try.sizeOf5 (by omega) | exact h_ixa rfl rfl Try.underlying22 Try.sizeOf5 (by omega) | exact h_ixl (Int.toNat _) rfl rfl (Int.toNat_of_nonneg (by omega)).symm Try.underlying22 Try.sizeOf5 (by omega)) ?_
        refine s_st (by first | exact m_store_int rfl rfl rfl rfl (by omega) (by (first | assumption | (simp only [List.length_set]; assumption) | exact (rxn_len _ _ _ _).trans hxl | exact (rx0_len _ _ _).trans hxl | exact subBack_len _ _ _ | exact (rimixN_len _ _).trans hyl | (simp only [List.length_set]; exact (rimixN_len _ _).trans hyl))) Try.sizeOf5 rfl | exact m_store_one rfl rfl (by simp) rfl rfl Try.sizeOf5 rfl) ?_
        refine s_nil ?_
        refine n_wp ?_
        refine c_reg (by kernel_rfl) rfl ?_
        refine s_p (by first | exact h_move (v := .s _) rfl | exact h_move (v := .agg _) rfl | exact h_move (v := .tup _) rfl) ?_
        refine s_p (h_bin rfl rfl (b_mul (r := ((4 * k : Nat) : Int)) (wr_n (by omega) (by omega)))) ?_
        refine s_p (h_bin rfl rfl (b_add (r := ((4 * k + 3 : Nat) : Int)) (wr_n (by omega) (by omega)))) ?_
        refine s_p (by first | exact h_move (v := .s _) rfl | exact h_move (v := .agg _) rfl | exact h_move (v := .tup _) rfl) ?_
        refine s_p (h_call callable_52 rfl (times_c _ _ _)) ?_
        refine s_p (by first | exact h_move (v := .s _) rfl | exact h_move (v := .agg _) rfl | exact h_move (v := .tup _) rfl) ?_
        refine s_p (h_call callable_52 rfl (times_c _ _ _)) ?_
        refine s_p (h_bin rfl rfl (b_xor rfl)) ?_
        refine s_p (by first | exact h_move (v := .s _) rfl | exact h_move (v := .agg _) rfl | exact h_move (v := .tup _) rfl) ?_
        refine s_p (h_call callable_52 rfl (times_c _ _ _)) ?_
        refine s_p (h_bin rfl rfl (b_xor rfl)) ?_
        refine s_p (by first | exact h_move (v := .s _) rfl | exact h_move (v := .agg _) rfl | exact h_move (v := .tup _) rfl) ?_
        refine s_p (h_call callable_52 rfl (times_c _ _ _)) ?_
        refine s_p (h_bin rfl rfl (b_xor rfl)) ?_
        refine s_p (by first | exact h_ix rfl rfl Try.underlying22 Try.sizeOf5 (by omega) | exact h_ixa rfl rfl Try.underlying22 Try.sizeOf5 (by omega) | exact h_ixl (Int.toNat _) rfl rfl (Int.toNat_of_nonneg (by omega)).symm Try.underlying22 Try.sizeOf5 (by omega)) ?_
        refine s_st (by first | exact m_store_int rfl rfl rfl rfl (by omega) (by (first | assumption | (simp only [List.length_set]; assumption) | exact (rxn_len _ _ _ _).trans hxl | exact (rx0_len _ _ _).trans hxl | exact subBack_len _ _ _ | exact (rimixN_len _ _).trans hyl | (simp only [List.length_set]; exact (rimixN_len _ _).trans hyl))) Try.sizeOf5 rfl | exact m_store_one rfl rfl (by simp) rfl rfl Try.sizeOf5 rfl) ?_
        refine s_nil ?_
        refine n_blo ?_
        refine n_wp ?_
        refine c_reg (by kernel_rfl) rfl ?_
        refine s_p (by first | exact h_move (v := .s _) rfl | exact h_move (v := .agg _) rfl | exact h_move (v := .tup _) rfl) ?_
        refine s_p (by first | exact h_bin rfl rfl (b_add (Go.IntWalk.i64_in _ (by omega))) | exact h_bin rfl rfl (b_add rfl)) ?_
        refine s_p (by first | exact h_assign (v := .s _) rfl | exact h_assign (v := .agg _) rfl | exact h_assign (v := .tup _) rfl) ?_
        refine s_nil ?_
        exact n_round (4 - (k + 1)) (by omega) ⟨k + 1, by omega, fun e => by omega, rfl, rfl, rfl⟩ (weak' (by repeat (first | exact trivial | refine ⟨rfl, ?_⟩)) rfl rfl (Nat.le_of_ble_eq_true rfl))
      · skip
        have hd : rimixN y k = decX y r := by
          rcases Bool.and_eq_false_iff.1 hc_t52 with h | h
          · have h4 : k = 4 := by have := of_decide_eq_false h; omega
            subst h4
            obtain ⟨r0, rfl⟩ : ∃ r0, r = r0 + 1 := ⟨r - 1, Classical.byContradiction fun e => by have := hk9 (by omega); omega⟩
            rw [rimix_eq hyl hyu, decX_s]
          · have h9 : r = 0 := by have := of_decide_eq_false h; omega
            have h0 := hk9 h9
            subst h0; subst h9
            exact (decX_0 y).symm
        rw [hd]
        have hdu : U8 (decX y r) := U8_decX hyu r
        have hdl : (decX y r).length = 16 := (decX_len _ _).trans hyl
        generalize decX y r = d at *
        refine w_exit ?_
        refine x_thn ?_
        refine x_thn ?_
        refine x_eq ?_
        refine n_wp ?_
        refine w_seq ?_
        refine c_reg (by kernel_rfl) rfl ?_
        refine s_a (h_alloc (segs := [.ints .u8 16 (z 16)]) Try.zeroValue22 (by kernel_rfl) rfl) rfl ?_
        refine s_nil ?_
        refine n_wp ?_
        refine w_seq ?_
        refine w_seq ?_
        refine c_reg (by kernel_rfl) rfl ?_
        refine s_p (by first | exact h_assign (v := .s _) rfl | exact h_assign (v := .agg _) rfl | exact h_assign (v := .tup _) rfl) ?_
        refine s_nil ?_
        refine n_wp ?_
        refine w_block ?_
        refine c_loop (I24c key K d r) 16 ⟨0, by omega, rfl, rfl, rfl⟩ (weak' (by repeat (first | exact trivial | refine ⟨rfl, ?_⟩)) rfl rfl (Nat.le_of_ble_eq_true rfl)) ?_
        rintro n T H ⟨i, hi, rfl, rfl, rfl⟩
        refine w_seq ?_
        refine w_seq ?_
        refine c_reg (by kernel_rfl) rfl ?_
        refine s_p (by first | exact h_move (v := .s _) rfl | exact h_move (v := .agg _) rfl | exact h_move (v := .tup _) rfl) ?_
        refine s_p (h_bin rfl rfl (b_lss rfl)) ?_
        refine s_nil ?_
        refine n_wp ?_
        refine w_cond rfl (fun hc_t134 => ?_) (fun hc_t134 => ?_)
        · skip
          have hlt_t134 : i < 16 := by have := of_decide_eq_true hc_t134; omega
          refine w_skip ?_
          refine n_wp ?_
          refine w_seq ?_
          refine w_block ?_
          have e1 := (hdu i).1
          have e2 := (hdu i).2
          refine c_any 14 mix (by kernel_rfl) (by kernel_rfl) rfl rfl rfl ?_
          refine t_p (by first | exact h_move (v := .s _) rfl | exact h_move (v := .agg _) rfl | exact h_move (v := .tup _) rfl) ?_
          refine t_p (by first | exact h_move (v := .s _) rfl | exact h_move (v := .agg _) rfl | exact h_move (v := .tup _) rfl) ?_
          refine t_p (h_bin rfl rfl (b_rem (r := ((i % 4 : Nat) : Int)) (by omega) rfl)) ?_
          refine t_p (h_bin rfl rfl (b_mul (r := ((4 * (i % 4) : Nat) : Int)) (wr_n (by omega) (by omega)))) ?_
          refine t_p (h_bin rfl rfl (b_add (r := ((i + 4 * (i % 4) : Nat) : Int)) (wr_n (by omega) (by omega)))) ?_
          refine t_p (h_bin rfl rfl (b_rem (r := (((i + 4 * (i % 4)) % 16 : Nat) : Int)) (by omega) rfl)) ?_
          refine t_p (by first | exact h_move (v := .s _) rfl | exact h_move (v := .agg _) rfl | exact h_move (v := .tup _) rfl) ?_
          refine t_p (by first | exact h_move (v := .s _) rfl | exact h_move (v := .agg _) rfl | exact h_move (v := .tup _) rfl) ?_
          refine t_p (by first | exact h_ix rfl rfl Try.underlying22 Try.sizeOf5 (by omega) | exact h_ixa rfl rfl Try.underlying22 Try.sizeOf5 (by omega) | exact h_ixl (Int.toNat _) rfl rfl (Int.toNat_of_nonneg (by omega)).symm Try.underlying22 Try.sizeOf5 (by omega)) ?_
          refine t_p (by first | exact h_load_ints rfl rfl rfl (by omega) rfl Try.isAgg5 | exact h_load_one rfl rfl rfl Try.isAgg5) ?_
          refine t_p (h_nilCheck rfl) ?_
          refine t_p (h_field rfl Try.underlying105 rfl Try.sizeOf102 (by decide)) ?_
          refine t_p (by first | exact h_ix rfl rfl Try.underlying102 Try.sizeOf5 (by omega) | exact h_ixa rfl rfl Try.underlying102 Try.sizeOf5 (by omega) | exact h_ixl (Int.toNat _) rfl rfl (Int.toNat_of_nonneg (by omega)).symm Try.underlying102 Try.sizeOf5 (by omega)) ?_
          refine t_p (by first | exact h_load_ints rfl rfl rfl (by omega) rfl Try.isAgg5 | exact h_load_one rfl rfl rfl Try.isAgg5) ?_
          refine t_nil ?_
          refine s_p (by first | exact h_ix rfl rfl Try.underlying22 Try.sizeOf5 (by omega) | exact h_ixa rfl rfl Try.underlying22 Try.sizeOf5 (by omega) | exact h_ixl (Int.toNat _) rfl rfl (Int.toNat_of_nonneg (by omega)).symm Try.underlying22 Try.sizeOf5 (by omega)) ?_
          refine s_st (by first | exact m_store_int rfl rfl rfl rfl (by omega) (by (first | assumption | (simp only [List.length_set]; assumption) | exact (rxn_len _ _ _ _).trans hxl | exact (rx0_len _ _ _).trans hxl | exact subBack_len _ _ _ | exact (rimixN_len _ _).trans hyl | (simp only [List.length_set]; exact (rimixN_len _ _).trans hyl))) Try.sizeOf5 rfl | exact m_store_one rfl rfl (by simp) rfl rfl Try.sizeOf5 rfl) ?_
          refine s_nil ?_
          refine n_blo ?_
          refine n_wp ?_
          refine c_reg (by kernel_rfl) rfl ?_
          refine s_p (by first | exact h_move (v := .s _) rfl | exact h_move (v := .agg _) rfl | exact h_move (v := .tup _) rfl) ?_
          refine s_p (by first | exact h_bin rfl rfl (b_add (Go.IntWalk.i64_in _ (by omega))) | exact h_bin rfl rfl (b_add rfl)) ?_
          refine s_p (by first | exact h_assign (v := .s _) rfl | exact h_assign (v := .agg _) rfl | exact h_assign (v := .tup _) rfl) ?_
          refine s_nil ?_
          exact n_round (16 - (i + 1)) (by omega) ⟨i + 1, by omega, rfl, rfl, rfl⟩ (weak' (by repeat (first | exact trivial | refine ⟨rfl, ?_⟩)) rfl rfl (Nat.le_of_ble_eq_true rfl))
        · skip
          obtain rfl : i = 16 := by have := of_decide_eq_false hc_t134; omega
          rw [← hds]
          refine w_exit ?_
          refine x_thn ?_
          refine x_thn ?_
          refine x_eq ?_
          refine n_wp ?_
          refine c_reg (by kernel_rfl) rfl ?_
          refine s_p (by first | exact h_load_agg rfl rfl (.whole rfl) Try.isAgg22 Try.sizeOf22 | exact h_load_agg rfl rfl (.seg rfl rfl) Try.isAgg22 Try.sizeOf22 | exact h_load_agg rfl rfl (.ints rfl (by omega)) Try.isAgg22 Try.sizeOf22) ?_
          refine s_st (by first | exact m_store_agg rfl rfl rfl (.whole (Nat.le_of_ble_eq_true rfl) rfl rfl) Try.sizeOf22 rfl | exact m_store_agg rfl rfl rfl (.seg (Nat.le_of_ble_eq_true rfl) rfl rfl rfl) Try.sizeOf22 rfl | exact m_store_agg rfl rfl rfl (.ints (Nat.le_of_ble_eq_true rfl) rfl (by omega)) Try.sizeOf22 rfl) ?_
          refine s_nil ?_
          refine n_blo ?_
          refine n_wp ?_
          refine c_reg (by kernel_rfl) rfl ?_
          refine s_p (by first | exact h_move (v := .s _) rfl | exact h_move (v := .agg _) rfl | exact h_move (v := .tup _) rfl) ?_
          refine s_p (by first | exact h_bin rfl rfl (b_sub (Go.IntWalk.i64_in _ (by omega))) | exact h_bin rfl rfl (b_sub rfl)) ?_
          refine s_p (by first | exact h_assign (v := .s _) rfl | exact h_assign (v := .agg _) rfl | exact h_assign (v := .tup _) rfl) ?_
          refine s_nil ?_
          rw [show (10 - (r : Int) - 1) = 10 - ((r + 1 : Nat) : Int) by omega]
          exact n_round (10 - (r + 1)) (by omega) ⟨r + 1, by omega, rfl, rfl, rfl⟩ (weak' (by repeat (first | exact trivial | refine ⟨rfl, ?_⟩)) rfl rfl (Nat.le_of_ble_eq_true rfl))
  · skip
    obtain rfl : r = 10 := by have := of_decide_eq_false hc_t25; omega
    rw [show backL BK K b = xor16 (dec BK K b 10) (kwas K 0) from rfl]
    have hxl := dec_len BK K b hb 10
    generalize dec BK K b 10 = x at *
    refine w_exit ?_
    refine x_thn ?_
    refine x_thn ?_
    refine x_eq ?_
    refine n_wp ?_
    refine w_seq ?_
    refine w_seq ?_
    refine c_reg (by kernel_rfl) rfl ?_
    refine s_p (by first | exact h_assign (v := .s _) rfl | exact h_assign (v := .agg _) rfl | exact h_assign (v := .tup _) rfl) ?_
    refine s_nil ?_
    refine n_wp ?_
    refine w_block ?_
    refine c_loop (I24e key K x) 16 ⟨0, by omega, rfl, rfl, rfl⟩ (weak' (by repeat (first | exact trivial | refine ⟨rfl, ?_⟩)) rfl rfl (Nat.le_of_ble_eq_true rfl)) ?_
    rintro n T H ⟨i, hi, rfl, rfl, rfl⟩
    refine w_seq ?_
    refine w_seq ?_
    refine c_reg (by kernel_rfl) rfl ?_
    refine s_p (by first | exact h_move (v := .s _) rfl | exact h_move (v := .agg _) rfl | exact h_move (v := .tup _) rfl) ?_
    refine s_p (h_bin rfl rfl (b_lss rfl)) ?_
    refine s_nil ?_
    refine n_wp ?_
    refine w_cond rfl (fun hc_t154 => ?_) (fun hc_t154 => ?_)
    · skip
      have hlt_t154 : i < 16 := by have := of_decide_eq_true hc_t154; omega
      refine w_skip ?_
      refine n_wp ?_
      refine w_seq ?_
      refine w_block ?_
      refine c_any 10 mix (by kernel_rfl) (by kernel_rfl) rfl rfl rfl ?_
      refine t_p (by first | exact h_move (v := .s _) rfl | exact h_move (v := .agg _) rfl | exact h_move (v := .tup _) rfl) ?_
      refine t_p (by first | exact h_ix rfl rfl Try.underlying22 Try.sizeOf5 (by omega) | exact h_ixa rfl rfl Try.underlying22 Try.sizeOf5 (by omega) | exact h_ixl (Int.toNat _) rfl rfl (Int.toNat_of_nonneg (by omega)).symm Try.underlying22 Try.sizeOf5 (by omega)) ?_
      refine t_p (by first | exact h_load_ints rfl rfl rfl (by omega) rfl Try.isAgg5 | exact h_load_one rfl rfl rfl Try.isAgg5) ?_
      refine t_p (by first | exact h_move (v := .s _) rfl | exact h_move (v := .agg _) rfl | exact h_move (v := .tup _) rfl) ?_
      refine t_p (h_bin rfl rfl (b_quo (r := ((i / 4 : Nat) : Int)) (by omega) (wr_n rfl (by omega)))) ?_
      refine t_p (by first | exact h_move (v := .s _) rfl | exact h_move (v := .agg _) rfl | exact h_move (v := .tup _) rfl) ?_
      refine t_p (h_bin rfl rfl (b_rem (r := ((i % 4 : Nat) : Int)) (by omega) rfl)) ?_
      refine t_p (by first | exact h_ixw rfl rfl Try.underlying109 Try.sizeOf108 (by omega) | exact h_ixg rfl rfl Try.underlying109 Try.sizeOf108 (by omega) | exact h_ixgl (Int.toNat _) rfl rfl (Int.toNat_of_nonneg (by omega)).symm Try.underlying109 Try.sizeOf108 (by omega)) ?_
      refine t_p (by first | exact h_ix rfl rfl Try.underlying108 Try.sizeOf5 (by omega) | exact h_ixa rfl rfl Try.underlying108 Try.sizeOf5 (by omega) | exact h_ixl (Int.toNat _) rfl rfl (Int.toNat_of_nonneg (by omega)).symm Try.underlying108 Try.sizeOf5 (by omega)) ?_
      refine t_p (by first | exact h_load_ints rfl rfl rfl (by omega) rfl Try.isAgg5 | exact h_load_one rfl rfl rfl Try.isAgg5) ?_
      refine t_nil ?_
      refine s_p (h_bin rfl rfl (b_xor rfl)) ?_
      refine s_p (by first | exact h_ix rfl rfl Try.underlying22 Try.sizeOf5 (by omega) | exact h_ixa rfl rfl Try.underlying22 Try.sizeOf5 (by omega) | exact h_ixl (Int.toNat _) rfl rfl (Int.toNat_of_nonneg (by omega)).symm Try.underlying22 Try.sizeOf5 (by omega)) ?_
      refine s_st (by first | exact m_store_int rfl rfl rfl rfl (by omega) (by (first | assumption | (simp only [List.length_set]; assumption) | exact (rxn_len _ _ _ _).trans hxl | exact (rx0_len _ _ _).trans hxl | exact subBack_len _ _ _ | exact (rimixN_len _ _).trans hyl | (simp only [List.length_set]; exact (rimixN_len _ _).trans hyl))) Try.sizeOf5 rfl | exact m_store_one rfl rfl (by simp) rfl rfl Try.sizeOf5 rfl) ?_
      refine s_nil ?_
      refine n_blo ?_
      refine n_wp ?_
      refine c_reg (by kernel_rfl) rfl ?_
      refine s_p (by first | exact h_move (v := .s _) rfl | exact h_move (v := .agg _) rfl | exact h_move (v := .tup _) rfl) ?_
      refine s_p (by first | exact h_bin rfl rfl (b_add (Go.IntWalk.i64_in _ (by omega))) | exact h_bin rfl rfl (b_add rfl)) ?_
      refine s_p (by first | exact h_assign (v := .s _) rfl | exact h_assign (v := .agg _) rfl | exact h_assign (v := .tup _) rfl) ?_
      refine s_nil ?_
      exact n_round (16 - (i + 1)) (by omega) ⟨i + 1, by omega, rfl, rfl, rfl⟩ (weak' (by repeat (first | exact trivial | refine ⟨rfl, ?_⟩)) rfl rfl (Nat.le_of_ble_eq_true rfl))
    · skip
      obtain rfl : i = 16 := by have := of_decide_eq_false hc_t154; omega
      rw [rx0_eq]
      refine w_exit ?_
      refine x_thn ?_
      refine x_thn ?_
      refine x_eq ?_
      refine n_wp ?_
      refine w_seq ?_
      refine c_reg (by kernel_rfl) rfl ?_
      refine s_p (by first | exact h_load_agg rfl rfl (.whole rfl) Try.isAgg22 Try.sizeOf22 | exact h_load_agg rfl rfl (.seg rfl rfl) Try.isAgg22 Try.sizeOf22 | exact h_load_agg rfl rfl (.ints rfl (by omega)) Try.isAgg22 Try.sizeOf22) ?_
      refine s_st (by first | exact m_store_agg rfl rfl rfl (.whole (Nat.le_of_ble_eq_true rfl) rfl rfl) Try.sizeOf22 rfl | exact m_store_agg rfl rfl rfl (.seg (Nat.le_of_ble_eq_true rfl) rfl rfl rfl) Try.sizeOf22 rfl | exact m_store_agg rfl rfl rfl (.ints (Nat.le_of_ble_eq_true rfl) rfl (by omega)) Try.sizeOf22 rfl) ?_
      refine s_nil ?_
      refine n_wp ?_
      refine w_ret ?_
      refine done0 ?_
      exact ret_cell_agg Try.results24 rfl rfl (.whole rfl) Try.isAgg22 Try.sizeOf22

end Go.Proofs.X
