/- A part of the proofs of this claim: AesD (AesW6, AesW7, AesL7). No conditions. -/
import Derived.Test.YtffflnpidipheaaAesB
import Derived.Test.YtffflnpidipheaaAbB
set_option linter.unusedVariables false
set_option linter.unusedSimpArgs false
section
open Go Go.Ab Go.Proofs
namespace Go.Proofs.X
theorem callable_53 : Callable Try.prog 53 := ⟨_, Try.func53, by kernel_rfl, rfl⟩
theorem callable_23 : Callable Try.prog 23 := ⟨_, Try.func23, by kernel_rfl, rfl⟩
def I53 (K b : List Int) (n : Nat) (T : Tm) (H : Heap) : Prop := ∃ r : Nat, r ≤ 10 ∧ n = 10 - r ∧
  T = [(0, .s (.ptr 0 0 0)), (3, .s (.ptr 1 0 0)), (4, .s (.ptr 2 0 0)), (5, .s (.int .i64 (10 - (r : Int))))] ∧ H = [some ⟨false, [.ints .u8 256 SB, .ints .u8 256 BK, .ints .u8 176 K]⟩, some ⟨true, [.ints .u8 16 (dec BK K b r)]⟩, some ⟨true, [.ints .u8 16 (z 16)]⟩]
def J53 (K y : List Int) (r : Nat) (T : Tm) (H : Heap) : Prop := ∃ x, x = decX y r ∧
  T = [(0, .s (.ptr 0 0 0)), (3, .s (.ptr 1 0 0)), (4, .s (.ptr 2 0 0)), (5, .s (.int .i64 (10 - (r : Int))))] ∧ H = [some ⟨false, [.ints .u8 256 SB, .ints .u8 256 BK, .ints .u8 176 K]⟩, some ⟨true, [.ints .u8 16 x]⟩, some ⟨true, [.ints .u8 16 (z 16)]⟩]
def I53b (K x : List Int) (r : Nat) (n : Nat) (T : Tm) (H : Heap) : Prop := ∃ i : Nat, i ≤ 16 ∧ n = 16 - i ∧
  T = [(0, .s (.ptr 0 0 0)), (3, .s (.ptr 1 0 0)), (4, .s (.ptr 2 0 0)), (5, .s (.int .i64 (10 - (r : Int)))), (6, .s (.ptr 3 0 0)), (26, .s (.int .i64 i))] ∧
  H = [some ⟨false, [.ints .u8 256 SB, .ints .u8 256 BK, .ints .u8 176 K]⟩, some ⟨true, [.ints .u8 16 x]⟩, some ⟨true, [.ints .u8 16 (z 16)]⟩, some ⟨true, [.ints .u8 16 (subBack BK x i)]⟩]
set_option maxRecDepth 100000 in
set_option maxHeartbeats 2000000 in
theorem unblock_c (K b : List Int) (hb : b.length = 16) (hu : U8 b) (H : Heap) (id : Nat) (bk : Blk) (hid : H[id]? = some (some bk)) (hm : bk.segs = (mblk K).segs) : ACall Try.prog 53 H [.s (.ptr id 0 0), .agg [.ints .u8 16 b]] (.agg [.ints .u8 16 (backL BK K b)]) [] := by
  refine acall_gen (args0 := [.s (.ptr 0 0 0), .agg [.ints .u8 16 b]]) (H0 := [some ⟨false, [.ints .u8 256 SB, .ints .u8 256 BK, .ints .u8 176 K]⟩]) (vf := (fun _ => .agg [.ints .u8 16 (backL BK K b)])) [(id, 0)] Try.func53 rfl Try.ntmps53 (by simp) rfl (foot1 rfl hid (fun i x h => by rw [hm, Nat.zero_add]; exact h) rfl) rfl (fun i x0 x h0 h1 ρ u hr => by match i, h0, h1 with | 0, h0, h1 => (simp at h0 h1; subst h0; subst h1; exact arg_ptr (by rfl) hr) | 1, h0, h1 => (simp at h0 h1; subst h0; subst h1; exact arg_free rfl hr) | i + 2, h0, _ => simp at h0) rfl (ren_free rfl) (fun W w ρ0 hW hdom => ?_)
  refine w_seq ?_
  refine c_reg (by kernel_rfl) rfl ?_
  refine s_a (by first | exact h_box_agg rfl rfl | exact h_box rfl (by simp) rfl) rfl ?_
  refine s_a (h_alloc (segs := [.ints .u8 16 (z 16)]) Try.zeroValue22 (by kernel_rfl) rfl) rfl ?_
  refine s_nil ?_
  refine n_wp ?_
  refine w_seq ?_
  refine w_seq ?_
  refine c_reg (by kernel_rfl) rfl ?_
  refine s_p (by first | exact h_assign (v := .s _) rfl | exact h_assign (v := .agg _) rfl | exact h_assign (v := .tup _) rfl) ?_
  refine s_nil ?_
  refine n_wp ?_
  refine w_block ?_
  refine c_loop (I53 K b) 10 ⟨0, by omega, rfl, rfl, rfl⟩ (weak' (by repeat (first | exact trivial | refine ⟨rfl, ?_⟩)) rfl rfl (Nat.le_of_ble_eq_true rfl)) ?_
  rintro n T H ⟨r, hr, rfl, rfl, rfl⟩
  refine w_seq ?_
  refine w_seq ?_
  refine c_reg (by kernel_rfl) rfl ?_
  refine s_p (by first | exact h_move (v := .s _) rfl | exact h_move (v := .agg _) rfl | exact h_move (v := .tup _) rfl) ?_
  refine s_p (h_bin rfl rfl (b_geq rfl)) ?_
  refine s_nil ?_
  refine n_wp ?_
  refine w_cond rfl (fun hc_t9 => ?_) (fun hc_t9 => ?_)
  · skip
    have hlt : r < 10 := by have := of_decide_eq_true hc_t9; omega
    refine w_skip ?_
    refine n_wp ?_
    refine w_seq ?_
    refine w_block ?_
    refine w_seq ?_
    refine c_any 7 mix (by kernel_rfl) (by kernel_rfl) rfl rfl rfl ?_
    refine t_p (by first | exact h_load_agg rfl rfl (.whole rfl) Try.isAgg22 Try.sizeOf22 | exact h_load_agg rfl rfl (.seg rfl rfl) Try.isAgg22 Try.sizeOf22 | exact h_load_agg rfl rfl (.ints rfl (by omega)) Try.isAgg22 Try.sizeOf22) ?_
    refine t_p (by first | exact h_move (v := .s _) rfl | exact h_move (v := .agg _) rfl | exact h_move (v := .tup _) rfl) ?_
    refine t_p (by first | exact h_move (v := .s _) rfl | exact h_move (v := .agg _) rfl | exact h_move (v := .tup _) rfl) ?_
    refine t_p (h_nilCheck rfl) ?_
    refine t_p (h_field rfl Try.underlying130 rfl Try.sizeOf128 (by decide)) ?_
    refine t_p (h_ixwl (10 - r) rfl rfl (by omega) Try.underlying128 Try.sizeOf22 (by omega)) ?_
    refine t_p (by first | exact h_load_agg rfl rfl (.whole rfl) Try.isAgg22 Try.sizeOf22 | exact h_load_agg rfl rfl (.seg rfl rfl) Try.isAgg22 Try.sizeOf22 | exact h_load_agg rfl rfl (.ints rfl (by omega)) Try.isAgg22 Try.sizeOf22) ?_
    refine t_nil ?_
    refine s_p (h_call callable_71 rfl (against_c _ _ (by first | assumption | exact dec_len _ _ _ hb _ | exact (mixI_len _).trans (by first | assumption | exact (mixI_len _).trans (by first | assumption | exact (mixI_len _).trans (by assumption)))) _)) ?_
    refine s_st (by first | exact m_store_agg rfl rfl rfl (.whole (Nat.le_of_ble_eq_true rfl) rfl rfl) Try.sizeOf22 rfl | exact m_store_agg rfl rfl rfl (.seg (Nat.le_of_ble_eq_true rfl) rfl rfl rfl) Try.sizeOf22 rfl | exact m_store_agg rfl rfl rfl (.ints (Nat.le_of_ble_eq_true rfl) rfl (by omega)) Try.sizeOf22 rfl) ?_
    refine s_nil ?_
    refine n_wp ?_
    refine w_seq ?_
    refine w_seq ?_
    have hyl : (xor16 (dec BK K b r) (List.take 16 (List.drop ((10 - r) * 16) K))).length = 16 := (xor16_len _ _).trans (dec_len _ _ _ hb _)
    have hyu : U8 (xor16 (dec BK K b r) (List.take 16 (List.drop ((10 - r) * 16) K))) := U8_xor16 (U8_dec U8_BK hu r)
    have hdec : dec BK K b (r + 1) = subBack BK (decX (xor16 (dec BK K b r) (List.take 16 (List.drop ((10 - r) * 16) K))) r) 16 := rfl
    generalize xor16 (dec BK K b r) (List.take 16 (List.drop ((10 - r) * 16) K)) = y at *
    refine c_reg (by kernel_rfl) rfl ?_
    refine s_p (by first | exact h_move (v := .s _) rfl | exact h_move (v := .agg _) rfl | exact h_move (v := .tup _) rfl) ?_
    refine s_p (h_bin rfl rfl (b_lss rfl)) ?_
    refine s_nil ?_
    refine n_wp ?_
    refine w_cut' (J53 K y r) ?_ ?_
    · skip
      refine w_cond rfl (fun hc_t21 => ?_) (fun hc_t21 => ?_)
      · skip
        have hx : mixI (mixI (mixI y)) = decX y r := by have := of_decide_eq_true hc_t21; unfold decX; rw [if_pos (by omega)]
        refine c_reg (by kernel_rfl) rfl ?_
        refine s_p (by first | exact h_load_agg rfl rfl (.whole rfl) Try.isAgg22 Try.sizeOf22 | exact h_load_agg rfl rfl (.seg rfl rfl) Try.isAgg22 Try.sizeOf22 | exact h_load_agg rfl rfl (.ints rfl (by omega)) Try.isAgg22 Try.sizeOf22) ?_
        refine s_p (h_call callable_73 rfl (mixed_c _ (by first | assumption | exact dec_len _ _ _ hb _ | exact (mixI_len _).trans (by first | assumption | exact (mixI_len _).trans (by first | assumption | exact (mixI_len _).trans (by assumption)))) _)) ?_
        refine s_p (h_call callable_73 rfl (mixed_c _ (by first | assumption | exact dec_len _ _ _ hb _ | exact (mixI_len _).trans (by first | assumption | exact (mixI_len _).trans (by first | assumption | exact (mixI_len _).trans (by assumption)))) _)) ?_
        refine s_p (h_call callable_73 rfl (mixed_c _ (by first | assumption | exact dec_len _ _ _ hb _ | exact (mixI_len _).trans (by first | assumption | exact (mixI_len _).trans (by first | assumption | exact (mixI_len _).trans (by assumption)))) _)) ?_
        refine s_st (by first | exact m_store_agg rfl rfl rfl (.whole (Nat.le_of_ble_eq_true rfl) rfl rfl) Try.sizeOf22 rfl | exact m_store_agg rfl rfl rfl (.seg (Nat.le_of_ble_eq_true rfl) rfl rfl rfl) Try.sizeOf22 rfl | exact m_store_agg rfl rfl rfl (.ints (Nat.le_of_ble_eq_true rfl) rfl (by omega)) Try.sizeOf22 rfl) ?_
        refine s_nil ?_
        exact n_cut ⟨_, hx, rfl, rfl⟩ (weak' (by repeat (first | exact trivial | refine ⟨rfl, ?_⟩)) rfl rfl (Nat.le_of_ble_eq_true rfl))
      · skip
        have hx : y = decX y r := by have := of_decide_eq_false hc_t21; unfold decX; rw [if_neg (by omega)]
        refine w_skip ?_
        exact n_cut ⟨_, hx, rfl, rfl⟩ (weak' (by repeat (first | exact trivial | refine ⟨rfl, ?_⟩)) rfl rfl (Nat.le_of_ble_eq_true rfl))
    rintro T H ⟨x, hx, rfl, rfl⟩
    have hux : U8 x := by rw [hx]; exact U8_decX hyu r
    refine w_seq ?_
    refine c_reg (by kernel_rfl) rfl ?_
    refine s_a (h_alloc (segs := [.ints .u8 16 (z 16)]) Try.zeroValue22 (by kernel_rfl) rfl) rfl ?_
    refine s_nil ?_
    refine n_wp ?_
    refine w_seq ?_
    refine w_seq ?_
    refine c_reg (by kernel_rfl) rfl ?_
    refine s_p (by first | exact h_move (v := .s _) rfl | exact h_move (v := .agg _) rfl | exact h_move (v := .tup _) rfl) ?_
    refine s_nil ?_
    refine n_wp ?_
    refine w_block ?_
    refine c_loop (I53b K x r) 16 ⟨0, by omega, rfl, rfl, rfl⟩ (weak' (by repeat (first | exact trivial | refine ⟨rfl, ?_⟩)) rfl rfl (Nat.le_of_ble_eq_true rfl)) ?_
    rintro n T H ⟨i, hi, rfl, rfl, rfl⟩
    refine w_seq ?_
    refine c_reg (by kernel_rfl) rfl ?_
    refine s_p (h_bin rfl rfl (b_lss rfl)) ?_
    refine s_nil ?_
    refine n_wp ?_
    refine w_seq ?_
    refine w_cond rfl (fun hc_t27 => ?_) (fun hc_t27 => ?_)
    · skip
      have hlt2 : i < 16 := by have := of_decide_eq_true hc_t27; omega
      refine w_skip ?_
      refine n_wp ?_
      refine w_seq ?_
      refine w_block ?_
      refine w_seq ?_
      refine c_reg (by kernel_rfl) rfl ?_
      refine s_p (by first | exact h_move (v := .s _) rfl | exact h_move (v := .agg _) rfl | exact h_move (v := .tup _) rfl) ?_
      refine s_p (by first | exact h_assign (v := .s _) rfl | exact h_assign (v := .agg _) rfl | exact h_assign (v := .tup _) rfl) ?_
      refine s_nil ?_
      refine n_wp ?_
      have e1 := (hux i).1
      have e2 := (hux i).2
      refine c_any 10 mix (by kernel_rfl) (by kernel_rfl) rfl rfl rfl ?_
      refine t_p (by first | exact h_move (v := .s _) rfl | exact h_move (v := .agg _) rfl | exact h_move (v := .tup _) rfl) ?_
      refine t_p (h_call callable_72 rfl (place_c i (by omega) _)) ?_
      refine t_p (by first | exact h_move (v := .s _) rfl | exact h_move (v := .agg _) rfl | exact h_move (v := .tup _) rfl) ?_
      refine t_p (by first | exact h_move (v := .s _) rfl | exact h_move (v := .agg _) rfl | exact h_move (v := .tup _) rfl) ?_
      refine t_p (by first | exact h_ix rfl rfl Try.underlying22 Try.sizeOf5 (by omega) | exact h_ixa rfl rfl Try.underlying22 Try.sizeOf5 (by omega) | exact h_ixl (Int.toNat _) rfl rfl (Int.toNat_of_nonneg (by omega)).symm Try.underlying22 Try.sizeOf5 (by omega)) ?_
      refine t_p (by first | exact h_load_ints rfl rfl rfl (by omega) rfl Try.isAgg5 | exact h_load_one rfl rfl rfl Try.isAgg5) ?_
      refine t_p (h_nilCheck rfl) ?_
      refine t_p (h_field rfl Try.underlying130 rfl Try.sizeOf102 (by decide)) ?_
      refine t_p (by first | exact h_ix rfl rfl Try.underlying102 Try.sizeOf5 (by omega) | exact h_ixa rfl rfl Try.underlying102 Try.sizeOf5 (by omega) | exact h_ixl (Int.toNat _) rfl rfl (Int.toNat_of_nonneg (by omega)).symm Try.underlying102 Try.sizeOf5 (by omega)) ?_
      refine t_p (by first | exact h_load_ints rfl rfl rfl (by omega) rfl Try.isAgg5 | exact h_load_one rfl rfl rfl Try.isAgg5) ?_
      refine t_nil ?_
      refine s_p (by first | exact h_ix rfl rfl Try.underlying22 Try.sizeOf5 (by omega) | exact h_ixa rfl rfl Try.underlying22 Try.sizeOf5 (by omega) | exact h_ixl (Int.toNat _) rfl rfl (Int.toNat_of_nonneg (by omega)).symm Try.underlying22 Try.sizeOf5 (by omega)) ?_
      refine s_st (by first | exact m_store_int rfl rfl rfl rfl (by omega) (by (exact subBack_len _ _ _)) Try.sizeOf5 rfl | exact m_store_one rfl rfl (by simp) rfl rfl Try.sizeOf5 rfl) ?_
      refine s_nil ?_
      refine n_blo ?_
      refine n_wp ?_
      refine c_reg (by kernel_rfl) rfl ?_
      refine s_p (by first | exact h_bin rfl rfl (b_add (Go.IntWalk.i64_in _ (by omega))) | exact h_bin rfl rfl (b_add rfl)) ?_
      refine s_p (by first | exact h_move (v := .s _) rfl | exact h_move (v := .agg _) rfl | exact h_move (v := .tup _) rfl) ?_
      refine s_nil ?_
      exact n_round (16 - (i + 1)) (by omega) ⟨i + 1, by omega, rfl, rfl, rfl⟩ (weak' (by repeat (first | exact trivial | refine ⟨rfl, ?_⟩)) rfl rfl (Nat.le_of_ble_eq_true rfl))
    · skip
      obtain rfl : i = 16 := by have := of_decide_eq_false hc_t27; omega
      rw [← hx] at hdec
      generalize subBack BK x 16 = q at *
      refine w_exit ?_
      refine x_thn ?_
      refine x_thn ?_
      refine x_eq ?_
      refine n_wp ?_
      refine c_reg (by kernel_rfl) rfl ?_
      refine s_p (by first | exact h_load_agg rfl rfl (.whole rfl) Try.isAgg22 Try.sizeOf22 | exact h_load_agg rfl rfl (.seg rfl rfl) Try.isAgg22 Try.sizeOf22 | exact h_load_agg rfl rfl (.ints rfl (by omega)) Try.isAgg22 Try.sizeOf22) ?_
      refine s_st (by first | exact m_store_agg rfl rfl rfl (.whole (Nat.le_of_ble_eq_true rfl) rfl rfl) Try.sizeOf22 rfl | exact m_store_agg rfl rfl rfl (.seg (Nat.le_of_ble_eq_true rfl) rfl rfl rfl) Try.sizeOf22 rfl | exact m_store_agg rfl rfl rfl (.ints (Nat.le_of_ble_eq_true rfl) rfl (by omega)) Try.sizeOf22 rfl) ?_
      refine s_nil ?_
      refine n_blo ?_
      refine n_wp ?_
      refine c_reg (by kernel_rfl) rfl ?_
      refine s_p (by first | exact h_move (v := .s _) rfl | exact h_move (v := .agg _) rfl | exact h_move (v := .tup _) rfl) ?_
      refine s_p (by first | exact h_bin rfl rfl (b_sub (Go.IntWalk.i64_in _ (by omega))) | exact h_bin rfl rfl (b_sub rfl)) ?_
      refine s_p (by first | exact h_assign (v := .s _) rfl | exact h_assign (v := .agg _) rfl | exact h_assign (v := .tup _) rfl) ?_
      refine s_nil ?_
      rw [show (10 - (r : Int) - 1) = 10 - ((r + 1 : Nat) : Int) by omega]
      exact n_round (10 - (r + 1)) (by omega) ⟨r + 1, by omega, rfl, rfl, by rw [hdec]⟩ (weak' (by repeat (first | exact trivial | refine ⟨rfl, ?_⟩)) rfl rfl (Nat.le_of_ble_eq_true rfl))
  · skip
    obtain rfl : r = 10 := by have := of_decide_eq_false hc_t9; omega
    unfold backL
    have hdl := dec_len BK K b hb 10
    generalize dec BK K b 10 = q at *
    unfold kwas
    refine w_exit ?_
    refine x_thn ?_
    refine x_thn ?_
    refine x_eq ?_
    refine n_wp ?_
    refine w_seq ?_
    refine c_any 6 mix (by kernel_rfl) (by kernel_rfl) rfl rfl rfl ?_
    refine t_p (by first | exact h_load_agg rfl rfl (.whole rfl) Try.isAgg22 Try.sizeOf22 | exact h_load_agg rfl rfl (.seg rfl rfl) Try.isAgg22 Try.sizeOf22 | exact h_load_agg rfl rfl (.ints rfl (by omega)) Try.isAgg22 Try.sizeOf22) ?_
    refine t_p (by first | exact h_move (v := .s _) rfl | exact h_move (v := .agg _) rfl | exact h_move (v := .tup _) rfl) ?_
    refine t_p (h_nilCheck rfl) ?_
    refine t_p (h_field rfl Try.underlying130 rfl Try.sizeOf128 (by decide)) ?_
    refine t_p (by first | exact h_ixwl 0 rfl rfl rfl Try.underlying128 Try.sizeOf22 (by omega) | exact h_ixgl 0 rfl rfl rfl Try.underlying128 Try.sizeOf22 (by omega)) ?_
    refine t_p (by first | exact h_load_agg rfl rfl (.whole rfl) Try.isAgg22 Try.sizeOf22 | exact h_load_agg rfl rfl (.seg rfl rfl) Try.isAgg22 Try.sizeOf22 | exact h_load_agg rfl rfl (.ints rfl (by omega)) Try.isAgg22 Try.sizeOf22) ?_
    refine t_nil ?_
    refine s_p (h_call callable_71 rfl (against_c _ _ (by first | assumption | exact dec_len _ _ _ hb _ | exact (mixI_len _).trans (by first | assumption | exact (mixI_len _).trans (by first | assumption | exact (mixI_len _).trans (by assumption)))) _)) ?_
    refine s_st (by first | exact m_store_agg rfl rfl rfl (.whole (Nat.le_of_ble_eq_true rfl) rfl rfl) Try.sizeOf22 rfl | exact m_store_agg rfl rfl rfl (.seg (Nat.le_of_ble_eq_true rfl) rfl rfl rfl) Try.sizeOf22 rfl | exact m_store_agg rfl rfl rfl (.ints (Nat.le_of_ble_eq_true rfl) rfl (by omega)) Try.sizeOf22 rfl) ?_
    refine s_nil ?_
    refine n_wp ?_
    refine w_ret ?_
    refine done0 ?_
    exact ret_cell_agg Try.results53 rfl rfl (.whole rfl) Try.isAgg22 Try.sizeOf22

set_option maxRecDepth 100000 in
set_option maxHeartbeats 1000000 in
theorem Back_c (key b : List Int) (hk : key.length = 16) (huk : U8 key) (hb : b.length = 16) (hub : U8 b) (H : Heap) : ACall Try.prog 23 H [.agg [.ints .u8 16 key], .agg [.ints .u8 16 b]] (.agg [.ints .u8 16 (backI key b)]) [] := by
  refine acall_free Try.func23 rfl Try.ntmps23 (by simp) rfl rfl (fun W w hW => ?_) H
  refine w_seq ?_
  refine c_reg (by kernel_rfl) rfl ?_
  refine s_a (by first | exact h_box_agg rfl rfl | exact h_box rfl (by simp) rfl) rfl ?_
  refine s_a (by first | exact h_box_agg rfl rfl | exact h_box rfl (by simp) rfl) rfl ?_
  refine s_a (h_alloc (segs := [.ints .u8 16 (z 16)]) Try.zeroValue22 (by kernel_rfl) rfl) rfl ?_
  refine s_nil ?_
  refine n_wp ?_
  refine w_seq ?_
  refine c_any 3 mix (by kernel_rfl) (by kernel_rfl) rfl rfl rfl ?_
  refine t_p (by first | exact h_load_agg rfl rfl (.whole rfl) Try.isAgg22 Try.sizeOf22 | exact h_load_agg rfl rfl (.seg rfl rfl) Try.isAgg22 Try.sizeOf22 | exact h_load_agg rfl rfl (.ints rfl (by omega)) Try.isAgg22 Try.sizeOf22) ?_
  refine t_a (h_call callable_49 rfl (newMachine_c _ (by assumption) (by assumption) _)) rfl ?_
  refine t_p (by first | exact h_load_agg rfl rfl (.whole rfl) Try.isAgg22 Try.sizeOf22 | exact h_load_agg rfl rfl (.seg rfl rfl) Try.isAgg22 Try.sizeOf22 | exact h_load_agg rfl rfl (.ints rfl (by omega)) Try.isAgg22 Try.sizeOf22) ?_
  refine t_nil ?_
  refine s_p (h_call callable_53 rfl (unblock_c _ _ (by assumption) (by assumption) _ _ _ rfl rfl)) ?_
  refine s_st (by first | exact m_store_agg rfl rfl rfl (.whole (Nat.le_of_ble_eq_true rfl) rfl rfl) Try.sizeOf22 rfl | exact m_store_agg rfl rfl rfl (.seg (Nat.le_of_ble_eq_true rfl) rfl rfl rfl) Try.sizeOf22 rfl | exact m_store_agg rfl rfl rfl (.ints (Nat.le_of_ble_eq_true rfl) rfl (by omega)) Try.sizeOf22 rfl) ?_
  refine s_nil ?_
  refine n_wp ?_
  refine w_ret ?_
  exact ⟨.inl rfl, ret_cell_agg Try.results23 rfl rfl (.whole rfl) Try.isAgg22 Try.sizeOf22⟩

end Go.Proofs.X
end

section
open Go Go.Ab Go.Proofs
namespace Go.Proofs.X
theorem callable_25 : Callable Try.prog 25 := ⟨_, Try.func25, by kernel_rfl, rfl⟩
set_option maxRecDepth 100000 in
set_option maxHeartbeats 1000000 in
theorem stream_nil (key first : List Int) (H : Heap) : ACall Try.prog 26 H [.agg [.ints .u8 16 key], .agg [.ints .u8 16 first], .s .nils] (.s .nils) [] := by
  refine acall_free Try.func26 rfl Try.ntmps26 (by simp) rfl rfl (fun W w hW => ?_) H
  refine w_seq ?_
  refine c_reg (by kernel_rfl) rfl ?_
  refine s_a (by first | exact h_box_agg rfl rfl | exact h_box rfl (by simp) rfl) rfl ?_
  refine s_a (by first | exact h_box_agg rfl rfl | exact h_box rfl (by simp) rfl) rfl ?_
  refine s_p (by first | exact h_assign (v := .s _) rfl | exact h_assign (v := .agg _) rfl | exact h_assign (v := .tup _) rfl) ?_
  refine s_nil ?_
  refine n_wp ?_
  refine w_seq ?_
  refine w_seq ?_
  refine c_reg (by kernel_rfl) rfl ?_
  refine s_p (by first | exact h_move (v := .s _) rfl | exact h_move (v := .agg _) rfl | exact h_move (v := .tup _) rfl) ?_
  refine s_p (by first | exact h_len rfl Try.underlying29 | exact h_len_slx rfl Try.underlying29 | exact h_len_nil rfl Try.underlying29) ?_
  refine s_p (h_bin rfl rfl (b_eql rfl)) ?_
  refine s_nil ?_
  refine n_wp ?_
  refine w_cond rfl (fun hc_t15 => ?_) (fun hc_t15 => ?_)
  rotate_left
  · exact absurd hc_t15 (by simp)
  refine w_seq ?_
  refine c_reg (by kernel_rfl) rfl ?_
  refine s_p (by first | exact h_assign (v := .s _) rfl | exact h_assign (v := .agg _) rfl | exact h_assign (v := .tup _) rfl) ?_
  refine s_nil ?_
  refine n_wp ?_
  refine w_ret ?_
  refine r_thn ?_
  exact ⟨.inl rfl, ret_tmp Try.results26 rfl⟩

def livA : Nat → List Int
  | 0 => z 16
  | k + 1 => (livA k).set k k
def livB : Nat → List Int
  | 0 => z 16
  | k + 1 => (livB k).set k (17 * (k : Int))
theorem livA_len (k : Nat) : (livA k).length = 16 := by
  induction k with
  | zero => exact z_len _
  | succ k ih => simp [livA, ih]
theorem livB_len (k : Nat) : (livB k).length = 16 := by
  induction k with
  | zero => exact z_len _
  | succ k ih => simp [livB, ih]
theorem livA_eq : livA 16 = [0, 1, 2, 3, 4, 5, 6, 7, 8, 9, 10, 11, 12, 13, 14, 15] := by decide +kernel
theorem livB_eq : livB 16 = [0, 17, 34, 51, 68, 85, 102, 119, 136, 153, 170, 187, 204, 221, 238, 255] := by decide +kernel
def LA : List Int := [0, 1, 2, 3, 4, 5, 6, 7, 8, 9, 10, 11, 12, 13, 14, 15]
def LB : List Int := [0, 17, 34, 51, 68, 85, 102, 119, 136, 153, 170, 187, 204, 221, 238, 255]
def LW : List Int := [105, 196, 224, 216, 106, 123, 4, 48, 216, 205, 183, 128, 112, 180, 197, 90]
theorem U8_LA : U8 LA := u8B_U8 (by decide)
theorem U8_LB : U8 LB := u8B_U8 (by decide)
theorem U8_LW : U8 LW := u8B_U8 (by decide)
theorem live_block : blockI LA LB = LW := by decide +kernel
theorem live_back : backI LA LW = LB := by decide +kernel
def I25 (n : Nat) (T : Tm) (H : Heap) : Prop := ∃ k : Nat, k ≤ 16 ∧ n = 16 - k ∧
  T = [(1, .s (.ptr 0 0 0)), (2, .s (.ptr 1 0 0)), (3, .s (.int .i64 k))] ∧ H = [some ⟨true, [.ints .u8 16 (livA k)]⟩, some ⟨true, [.ints .u8 16 (livB k)]⟩]
set_option maxRecDepth 100000 in
set_option maxHeartbeats 1000000 in
theorem lives_c (H : Heap) : ACall Try.prog 25 H [] (.s (.bool true)) [] := by
  refine acall_free Try.func25 rfl Try.ntmps25 (by simp) rfl rfl (fun W w hW => ?_) H
  refine w_seq ?_
  refine c_reg (by kernel_rfl) rfl ?_
  refine s_p (by first | exact h_assign (v := .s _) rfl | exact h_assign (v := .agg _) rfl | exact h_assign (v := .tup _) rfl) ?_
  refine s_nil ?_
  refine n_wp ?_
  refine w_seq ?_
  refine c_reg (by kernel_rfl) rfl ?_
  refine s_a (h_alloc (segs := [.ints .u8 16 (z 16)]) Try.zeroValue22 (by kernel_rfl) rfl) rfl ?_
  refine s_a (h_alloc (segs := [.ints .u8 16 (z 16)]) Try.zeroValue22 (by kernel_rfl) rfl) rfl ?_
  refine s_nil ?_
  refine n_wp ?_
  refine w_seq ?_
  refine w_seq ?_
  refine c_reg (by kernel_rfl) rfl ?_
  refine s_p (by first | exact h_assign (v := .s _) rfl | exact h_assign (v := .agg _) rfl | exact h_assign (v := .tup _) rfl) ?_
  refine s_nil ?_
  refine n_wp ?_
  refine w_block ?_
  refine c_loop (I25) 16 ⟨0, by omega, rfl, rfl, rfl⟩ (weak' (by repeat (first | exact trivial | refine ⟨rfl, ?_⟩)) rfl rfl (Nat.le_of_ble_eq_true rfl)) ?_
  rintro n T H ⟨k, hk, rfl, rfl, rfl⟩
  refine w_seq ?_
  refine w_seq ?_
  refine c_reg (by kernel_rfl) rfl ?_
  refine s_p (by first | exact h_move (v := .s _) rfl | exact h_move (v := .agg _) rfl | exact h_move (v := .tup _) rfl) ?_
  refine s_p (h_bin rfl rfl (b_lss rfl)) ?_
  refine s_nil ?_
  refine n_wp ?_
  refine w_cond rfl (fun hc_t6 => ?_) (fun hc_t6 => ?_)
  · skip
    have hlt : k < 16 := by have := of_decide_eq_true hc_t6; omega
    refine w_skip ?_
    refine n_wp ?_
    refine w_seq ?_
    refine w_block ?_
    refine w_seq ?_
    refine c_reg (by kernel_rfl) rfl ?_
    refine s_p (by first | exact h_move (v := .s _) rfl | exact h_move (v := .agg _) rfl | exact h_move (v := .tup _) rfl) ?_
    refine s_p (by first | exact h_move (v := .s _) rfl | exact h_move (v := .agg _) rfl | exact h_move (v := .tup _) rfl) ?_
    refine s_p (by first | exact h_conv rfl Try.underlying3 Try.underlying5 (Go.IntWalk.i64_in _ (by omega)) | exact h_conv rfl Try.underlying3 Try.underlying5 (wrap_u8 (by omega) (by omega)) | exact h_conv rfl Try.underlying3 Try.underlying5 rfl) ?_
    refine s_p (by first | exact h_ix rfl rfl Try.underlying22 Try.sizeOf5 (by omega) | exact h_ixa rfl rfl Try.underlying22 Try.sizeOf5 (by omega) | exact h_ixl (Int.toNat _) rfl rfl (Int.toNat_of_nonneg (by omega)).symm Try.underlying22 Try.sizeOf5 (by omega)) ?_
    refine s_st (by first | exact m_store_int rfl rfl rfl rfl (by omega) (by (first | exact livA_len _ | exact livB_len _)) Try.sizeOf5 rfl | exact m_store_one rfl rfl (by simp) rfl rfl Try.sizeOf5 rfl) ?_
    refine s_nil ?_
    refine n_wp ?_
    refine c_reg (by kernel_rfl) rfl ?_
    refine s_p (by first | exact h_move (v := .s _) rfl | exact h_move (v := .agg _) rfl | exact h_move (v := .tup _) rfl) ?_
    refine s_p (by first | exact h_move (v := .s _) rfl | exact h_move (v := .agg _) rfl | exact h_move (v := .tup _) rfl) ?_
    refine s_p (by first | exact h_bin rfl rfl (b_mul (Go.IntWalk.i64_in _ (by omega))) | exact h_bin rfl rfl (b_mul rfl)) ?_
    refine s_p (by first | exact h_conv rfl Try.underlying3 Try.underlying5 (Go.IntWalk.i64_in _ (by omega)) | exact h_conv rfl Try.underlying3 Try.underlying5 (wrap_u8 (by omega) (by omega)) | exact h_conv rfl Try.underlying3 Try.underlying5 rfl) ?_
    refine s_p (by first | exact h_ix rfl rfl Try.underlying22 Try.sizeOf5 (by omega) | exact h_ixa rfl rfl Try.underlying22 Try.sizeOf5 (by omega) | exact h_ixl (Int.toNat _) rfl rfl (Int.toNat_of_nonneg (by omega)).symm Try.underlying22 Try.sizeOf5 (by omega)) ?_
    refine s_st (by first | exact m_store_int rfl rfl rfl rfl (by omega) (by (first | exact livA_len _ | exact livB_len _)) Try.sizeOf5 rfl | exact m_store_one rfl rfl (by simp) rfl rfl Try.sizeOf5 rfl) ?_
    refine s_nil ?_
    refine n_blo ?_
    refine n_wp ?_
    refine c_reg (by kernel_rfl) rfl ?_
    refine s_p (by first | exact h_move (v := .s _) rfl | exact h_move (v := .agg _) rfl | exact h_move (v := .tup _) rfl) ?_
    refine s_p (by first | exact h_bin rfl rfl (b_add (Go.IntWalk.i64_in _ (by omega))) | exact h_bin rfl rfl (b_add rfl)) ?_
    refine s_p (by first | exact h_assign (v := .s _) rfl | exact h_assign (v := .agg _) rfl | exact h_assign (v := .tup _) rfl) ?_
    refine s_nil ?_
    exact n_round (16 - (k + 1)) (by omega) ⟨k + 1, by omega, rfl, rfl, rfl⟩ (weak' (by repeat (first | exact trivial | refine ⟨rfl, ?_⟩)) rfl rfl (Nat.le_of_ble_eq_true rfl))
  · skip
    obtain rfl : k = 16 := by have := of_decide_eq_false hc_t6; omega
    rw [show livA 16 = LA from livA_eq, show livB 16 = LB from livB_eq]
    refine w_exit ?_
    refine x_thn ?_
    refine x_thn ?_
    refine x_eq ?_
    refine n_wp ?_
    refine w_seq ?_
    refine c_reg (by kernel_rfl) rfl ?_
    refine s_p (h_build_ints (l := [(0, 105), (1, 196), (2, 224), (3, 216), (4, 106), (5, 123), (6, 4), (7, 48), (8, 216), (9, 205), (10, 183), (11, 128), (12, 112), (13, 180), (14, 197), (15, 90)]) (xs := LW) rfl (fun w => by kernel_rfl) rfl) ?_
    refine s_a (h_alloc (segs := [.ints .u8 16 (z 16)]) Try.zeroValue22 (by kernel_rfl) rfl) rfl ?_
    refine s_st (by first | exact m_store_agg rfl rfl rfl (.whole (Nat.le_of_ble_eq_true rfl) rfl rfl) Try.sizeOf22 rfl | exact m_store_agg rfl rfl rfl (.seg (Nat.le_of_ble_eq_true rfl) rfl rfl rfl) Try.sizeOf22 rfl | exact m_store_agg rfl rfl rfl (.ints (Nat.le_of_ble_eq_true rfl) rfl (by omega)) Try.sizeOf22 rfl) ?_
    refine s_nil ?_
    refine n_wp ?_
    refine w_seq ?_
    refine c_any 15 mix (by kernel_rfl) (by kernel_rfl) rfl rfl rfl ?_
    refine t_p (by first | exact h_load_agg rfl rfl (.whole rfl) Try.isAgg22 Try.sizeOf22 | exact h_load_agg rfl rfl (.seg rfl rfl) Try.isAgg22 Try.sizeOf22 | exact h_load_agg rfl rfl (.ints rfl (by omega)) Try.isAgg22 Try.sizeOf22) ?_
    refine t_p (by first | exact h_load_agg rfl rfl (.whole rfl) Try.isAgg22 Try.sizeOf22 | exact h_load_agg rfl rfl (.seg rfl rfl) Try.isAgg22 Try.sizeOf22 | exact h_load_agg rfl rfl (.ints rfl (by omega)) Try.isAgg22 Try.sizeOf22) ?_
    refine t_p (h_call callable_21 rfl (Block_c LA LB rfl U8_LA rfl U8_LB _)) ?_
    refine t_p (by first | exact h_load_agg rfl rfl (.whole rfl) Try.isAgg22 Try.sizeOf22 | exact h_load_agg rfl rfl (.seg rfl rfl) Try.isAgg22 Try.sizeOf22 | exact h_load_agg rfl rfl (.ints rfl (by omega)) Try.isAgg22 Try.sizeOf22) ?_
    refine t_p (h_eql_ints (r := true) rfl rfl Try.underlying22 Try.underlying5 Try.sizeOf5 Try.isAgg5 Try.eqGuardType22 (decide_eq_true (fun i _ => by rw [live_block]))) ?_
    refine t_p (by first | exact h_move (v := .s _) rfl | exact h_move (v := .agg _) rfl | exact h_move (v := .tup _) rfl) ?_
    first | refine t_on rfl rfl (by first | rfl | assumption) (by first | exact h_load_agg rfl rfl (.whole rfl) Try.isAgg22 Try.sizeOf22 | exact h_load_agg rfl rfl (.seg rfl rfl) Try.isAgg22 Try.sizeOf22 | exact h_load_agg rfl rfl (.ints rfl (by omega)) Try.isAgg22 Try.sizeOf22) ?_ | refine t_off rfl rfl (by first | rfl | assumption) ?_
    first | refine t_on rfl rfl (by first | rfl | assumption) (by first | exact h_load_agg rfl rfl (.whole rfl) Try.isAgg22 Try.sizeOf22 | exact h_load_agg rfl rfl (.seg rfl rfl) Try.isAgg22 Try.sizeOf22 | exact h_load_agg rfl rfl (.ints rfl (by omega)) Try.isAgg22 Try.sizeOf22) ?_ | refine t_off rfl rfl (by first | rfl | assumption) ?_
    first | refine t_on rfl rfl (by first | rfl | assumption) (h_call callable_23 rfl (Back_c LA LW rfl U8_LA rfl U8_LW _)) ?_ | refine t_off rfl rfl (by first | rfl | assumption) ?_
    first | refine t_on rfl rfl (by first | rfl | assumption) (by first | exact h_load_agg rfl rfl (.whole rfl) Try.isAgg22 Try.sizeOf22 | exact h_load_agg rfl rfl (.seg rfl rfl) Try.isAgg22 Try.sizeOf22 | exact h_load_agg rfl rfl (.ints rfl (by omega)) Try.isAgg22 Try.sizeOf22) ?_ | refine t_off rfl rfl (by first | rfl | assumption) ?_
    first | refine t_on rfl rfl (by first | rfl | assumption) (h_eql_ints (r := true) rfl rfl Try.underlying22 Try.underlying5 Try.sizeOf5 Try.isAgg5 Try.eqGuardType22 (decide_eq_true (fun i _ => by rw [live_back]))) ?_ | refine t_off rfl rfl (by first | rfl | assumption) ?_
    refine t_p (by first | exact h_pick_t rfl (by first | rfl | assumption) rfl | exact h_pick_f rfl (by first | rfl | assumption) rfl) ?_
    refine t_p (by first | exact h_move (v := .s _) rfl | exact h_move (v := .agg _) rfl | exact h_move (v := .tup _) rfl) ?_
    first | refine t_on rfl rfl (by first | rfl | assumption) (by first | exact h_load_agg rfl rfl (.whole rfl) Try.isAgg22 Try.sizeOf22 | exact h_load_agg rfl rfl (.seg rfl rfl) Try.isAgg22 Try.sizeOf22 | exact h_load_agg rfl rfl (.ints rfl (by omega)) Try.isAgg22 Try.sizeOf22) ?_ | refine t_off rfl rfl (by first | rfl | assumption) ?_
    first | refine t_on rfl rfl (by first | rfl | assumption) (by first | exact h_load_agg rfl rfl (.whole rfl) Try.isAgg22 Try.sizeOf22 | exact h_load_agg rfl rfl (.seg rfl rfl) Try.isAgg22 Try.sizeOf22 | exact h_load_agg rfl rfl (.ints rfl (by omega)) Try.isAgg22 Try.sizeOf22) ?_ | refine t_off rfl rfl (by first | rfl | assumption) ?_
    refine t_nil ?_
    first | refine s_on rfl rfl (by first | rfl | assumption) (h_call callable_26 rfl (stream_nil LA LB _)) ?_ | refine s_off rfl rfl (by first | rfl | assumption) ?_
    first | refine s_on rfl rfl (by first | rfl | assumption) (by first | exact h_len rfl Try.underlying29 | exact h_len_slx rfl Try.underlying29 | exact h_len_nil rfl Try.underlying29) ?_ | refine s_off rfl rfl (by first | rfl | assumption) ?_
    first | refine s_on rfl rfl (by first | rfl | assumption) (h_bin rfl rfl (b_eql rfl)) ?_ | refine s_off rfl rfl (by first | rfl | assumption) ?_
    refine s_p (by first | exact h_pick_t rfl (by first | rfl | assumption) rfl | exact h_pick_f rfl (by first | rfl | assumption) rfl) ?_
    refine s_p (by first | exact h_assign (v := .s _) rfl | exact h_assign (v := .agg _) rfl | exact h_assign (v := .tup _) rfl) ?_
    refine s_nil ?_
    refine n_wp ?_
    refine w_ret ?_
    exact ⟨.inl rfl, ret_tmp Try.results25 rfl⟩

end Go.Proofs.X
end

section
open Go Go.Ab Go.Proofs
namespace Go.Proofs.X
set_option maxRecDepth 100000 in
theorem stream_e (key first : List Int) (a : Option Addr) (c : Nat) (H : Heap) : ACall Try.prog 26 H [.agg [.ints .u8 16 key], .agg [.ints .u8 16 first], .s (.val (.slice a 0 c))] (.s .nils) [] := by
  refine acall_free Try.func26 rfl Try.ntmps26 (by simp) rfl rfl (fun W w hW => ?_) H
  refine w_seq ?_
  refine c_reg (by kernel_rfl) rfl ?_
  refine s_a (by first | exact h_box_agg rfl rfl | exact h_box rfl (by simp) rfl) rfl ?_
  refine s_a (by first | exact h_box_agg rfl rfl | exact h_box rfl (by simp) rfl) rfl ?_
  refine s_p (by first | exact h_assign (v := .s _) rfl | exact h_assign (v := .agg _) rfl | exact h_assign (v := .tup _) rfl) ?_
  refine s_nil ?_
  refine n_wp ?_
  refine w_seq ?_
  refine w_seq ?_
  refine c_reg (by kernel_rfl) rfl ?_
  refine s_p (by first | exact h_move (v := .s _) rfl | exact h_move (v := .agg _) rfl | exact h_move (v := .tup _) rfl) ?_
  refine s_p (by first | exact h_len rfl Try.underlying29 | exact h_len_nil rfl Try.underlying29 | exact h_len_val rfl Try.underlying29) ?_
  refine s_p (h_bin rfl rfl (b_eql rfl)) ?_
  refine s_nil ?_
  refine n_wp ?_
  refine w_cond rfl (fun hc_t15 => ?_) (fun hc_t15 => ?_)
  rotate_left
  · exact absurd hc_t15 (by simp)
  refine w_seq ?_
  refine c_reg (by kernel_rfl) rfl ?_
  refine s_p (by first | exact h_assign (v := .s _) rfl | exact h_assign (v := .agg _) rfl | exact h_assign (v := .tup _) rfl) ?_
  refine s_nil ?_
  refine n_wp ?_
  refine w_ret ?_
  refine r_thn ?_
  exact ⟨.inl rfl, ret_tmp Try.results26 rfl⟩
def I7ss (len0 cap0 len1 cap1 : Nat) (key first B0 S0 B1 S1 : List Int) (n : Nat) (T : Tm) (H : Heap) : Prop := ∃ k : Nat, k ≤ len0 ∧ n = len0 - k ∧ T = [(5, .s (.ptr 4 0 0)), (7, .s (.slice 5 0 0 len0 len0)), (8, .s (.slice 6 0 0 len1 len1)), (9, .s (.int .i64 k))] ∧ H = [some ⟨false, [.ints .u8 len0 B0]⟩, some ⟨false, [.ints .u8 len1 B1]⟩, some ⟨true, [.ints .u8 16 key]⟩, some ⟨true, [.ints .u8 16 first]⟩, some ⟨true, [.one (.slice 0 0 0 len0 cap0), .one (.slice 1 0 0 len1 cap1)]⟩, some ⟨true, [.ints .u8 len0 S0]⟩, some ⟨true, [.ints .u8 len1 S1]⟩]
set_option maxRecDepth 100000 in
set_option maxHeartbeats 2000000 in
theorem against_ss (key first B0 S0 B1 S1 : List Int) (hk : key.length = 16) (huk : U8 key) (hf : first.length = 16) (huf : U8 first) (len0 cap0 len1 cap1 : Nat) (h0 : 0 < len0) (hl0 : len0 ≤ 3000) (hn0 : B0.length = len0) (hS0 : streamN key first B0 len0 = S0) (h1 : 0 < len1) (hl1 : len1 ≤ 3000) (hn1 : B1.length = len1) (hS1 : streamN key first B1 len1 = S1) (hp : ∀ k, k < len0 → k < len1 → xorK .u8 (S0.getD k 0) (S1.getD k 0) = xorK .u8 (B0.getD k 0) (B1.getD k 0))
    (c : Code) (hc : Try.f7.body = some c) (W : Nat → Prop) (w : World) (ρ0 : Rho) (hW : ∀ b, w.heap.size ≤ b → W b) (hdom : ∀ id, 2 ≤ id → ρ0 id = none) :
    Wp ⟨Try.prog, W, w, ρ0, 79, 2, hW, hdom⟩ c (argT 0 [.agg [.ints .u8 16 key], .agg [.ints .u8 16 first], .agg [.one (.slice 0 0 0 len0 cap0), .one (.slice 1 0 0 len1 cap1)]]) [some ⟨false, [.ints .u8 len0 B0]⟩, some ⟨false, [.ints .u8 len1 B1]⟩] (DoneF ⟨Try.prog, W, w, ρ0, 79, 2, hW, hdom⟩ Try.f7 (.s (.bool true))) := by
  cases hc
  have hB0 : B0 = (B0.drop 0).take len0 := by rw [← hn0]; simp
  have hA : decide ((len0 : Int) > 3000) = false := decide_eq_false (by omega)
  have hN0 : decide ((len0 : Int) ≠ (len0 : Int)) = false := decide_eq_false (by omega)
  have hB1 : B1 = (B1.drop 0).take len1 := by rw [← hn1]; simp
  have hB : decide ((len1 : Int) > 3000) = false := decide_eq_false (by omega)
  have hN1 : decide ((len1 : Int) ≠ (len1 : Int)) = false := decide_eq_false (by omega)
  refine w_seq ?_
  refine c_reg (by kernel_rfl) rfl ?_
  refine s_a (by first | exact h_box_agg rfl rfl | exact h_box rfl (by simp) rfl) rfl ?_
  refine s_a (by first | exact h_box_agg rfl rfl | exact h_box rfl (by simp) rfl) rfl ?_
  refine s_a (by first | exact h_box_agg rfl rfl | exact h_box rfl (by simp) rfl) rfl ?_
  refine s_p (by first | exact h_assign (v := .s _) rfl | exact h_assign (v := .agg _) rfl | exact h_assign (v := .tup _) rfl) ?_
  refine s_nil ?_
  refine n_wp ?_
  refine w_seq ?_
  refine w_seq ?_
  refine c_reg (by kernel_rfl) rfl ?_
  refine s_p (h_ixl 0 rfl rfl rfl Try.underlying38 Try.sizeOf29 (by omega)) ?_
  refine s_p (by first | exact h_load_one rfl rfl rfl Try.isAgg29 | exact h_load rfl rfl rfl Try.isAgg29) ?_
  refine s_p (by first | exact h_len rfl Try.underlying29 | exact h_len_nil rfl Try.underlying29 | exact h_len_val rfl Try.underlying29) ?_
  refine s_p (h_bin rfl rfl (b_gtr rfl)) ?_
  refine s_p (by first | exact h_move (v := .s _) rfl | exact h_move (v := .agg _) rfl | exact h_move (v := .tup _) rfl) ?_
  first | refine s_on rfl rfl (by first | rfl | assumption) (h_ixl 1 rfl rfl rfl Try.underlying38 Try.sizeOf29 (by omega)) ?_ | refine s_off rfl rfl (by first | rfl | assumption) ?_
  first | refine s_on rfl rfl (by first | rfl | assumption) (by first | exact h_load_one rfl rfl rfl Try.isAgg29 | exact h_load rfl rfl rfl Try.isAgg29) ?_ | refine s_off rfl rfl (by first | rfl | assumption) ?_
  first | refine s_on rfl rfl (by first | rfl | assumption) (by first | exact h_len rfl Try.underlying29 | exact h_len_nil rfl Try.underlying29 | exact h_len_val rfl Try.underlying29) ?_ | refine s_off rfl rfl (by first | rfl | assumption) ?_
  first | refine s_on rfl rfl (by first | rfl | assumption) (h_bin rfl rfl (b_gtr rfl)) ?_ | refine s_off rfl rfl (by first | rfl | assumption) ?_
  refine s_p (by first | exact h_pick_t rfl (by first | rfl | assumption) rfl | exact h_pick_f rfl (by first | rfl | assumption) rfl) ?_
  refine s_nil ?_
  refine n_wp ?_
  refine w_cond rfl (fun hc_t19 => ?_) (fun hc_t19 => ?_)
  · exact absurd hc_t19 (by first | exact fun h => Bool.false_ne_true (hB.symm.trans h) | exact fun h => Bool.false_ne_true (hN1.symm.trans h) | exact fun h => Bool.false_ne_true (hA.symm.trans h) | exact fun h => Bool.false_ne_true (hN0.symm.trans h) | simp)
  refine w_skip ?_
  refine n_wp ?_
  refine w_seq ?_
  refine c_reg (by kernel_rfl) rfl ?_
  refine s_p (by first | exact h_load_agg rfl rfl (.whole rfl) Try.isAgg22 Try.sizeOf22 | exact h_load_agg rfl rfl (.seg rfl rfl) Try.isAgg22 Try.sizeOf22 | exact h_load_agg rfl rfl (.ints rfl (by omega)) Try.isAgg22 Try.sizeOf22) ?_
  refine s_p (by first | exact h_load_agg rfl rfl (.whole rfl) Try.isAgg22 Try.sizeOf22 | exact h_load_agg rfl rfl (.seg rfl rfl) Try.isAgg22 Try.sizeOf22 | exact h_load_agg rfl rfl (.ints rfl (by omega)) Try.isAgg22 Try.sizeOf22) ?_
  refine s_p (h_ixl 0 rfl rfl rfl Try.underlying38 Try.sizeOf29 (by omega)) ?_
  refine s_p (by first | exact h_load_one rfl rfl rfl Try.isAgg29 | exact h_load rfl rfl rfl Try.isAgg29) ?_
  refine s_a (h_call callable_26 rfl (stream_c key first B0 hk huk hf huf len0 cap0 h0 (by omega) _ 0 0 0 len0 _ B0 rfl rfl (by omega) hB0)) rfl ?_
  refine s_p (by first | exact h_assign (v := .s _) rfl | exact h_assign (v := .agg _) rfl | exact h_assign (v := .tup _) rfl) ?_
  refine s_nil ?_
  refine n_wp ?_
  refine w_seq ?_
  refine c_reg (by kernel_rfl) rfl ?_
  refine s_p (by first | exact h_load_agg rfl rfl (.whole rfl) Try.isAgg22 Try.sizeOf22 | exact h_load_agg rfl rfl (.seg rfl rfl) Try.isAgg22 Try.sizeOf22 | exact h_load_agg rfl rfl (.ints rfl (by omega)) Try.isAgg22 Try.sizeOf22) ?_
  refine s_p (by first | exact h_load_agg rfl rfl (.whole rfl) Try.isAgg22 Try.sizeOf22 | exact h_load_agg rfl rfl (.seg rfl rfl) Try.isAgg22 Try.sizeOf22 | exact h_load_agg rfl rfl (.ints rfl (by omega)) Try.isAgg22 Try.sizeOf22) ?_
  refine s_p (h_ixl 1 rfl rfl rfl Try.underlying38 Try.sizeOf29 (by omega)) ?_
  refine s_p (by first | exact h_load_one rfl rfl rfl Try.isAgg29 | exact h_load rfl rfl rfl Try.isAgg29) ?_
  refine s_a (h_call callable_26 rfl (stream_c key first B1 hk huk hf huf len1 cap1 h1 (by omega) _ 1 0 0 len1 _ B1 rfl rfl (by omega) hB1)) rfl ?_
  refine s_p (by first | exact h_assign (v := .s _) rfl | exact h_assign (v := .agg _) rfl | exact h_assign (v := .tup _) rfl) ?_
  refine s_nil ?_
  rw [hS0]
  rw [hS1]
  refine n_wp ?_
  refine w_seq ?_
  refine w_seq ?_
  refine c_reg (by kernel_rfl) rfl ?_
  refine s_p (by first | exact h_move (v := .s _) rfl | exact h_move (v := .agg _) rfl | exact h_move (v := .tup _) rfl) ?_
  refine s_p (by first | exact h_len rfl Try.underlying29 | exact h_len_nil rfl Try.underlying29 | exact h_len_val rfl Try.underlying29) ?_
  refine s_p (h_ixl 0 rfl rfl rfl Try.underlying38 Try.sizeOf29 (by omega)) ?_
  refine s_p (by first | exact h_load_one rfl rfl rfl Try.isAgg29 | exact h_load rfl rfl rfl Try.isAgg29) ?_
  refine s_p (by first | exact h_len rfl Try.underlying29 | exact h_len_nil rfl Try.underlying29 | exact h_len_val rfl Try.underlying29) ?_
  refine s_p (h_bin rfl rfl (b_neq rfl)) ?_
  refine s_p (by first | exact h_move (v := .s _) rfl | exact h_move (v := .agg _) rfl | exact h_move (v := .tup _) rfl) ?_
  first | refine s_on rfl rfl (by first | rfl | assumption) (by first | exact h_move (v := .s _) rfl | exact h_move (v := .agg _) rfl | exact h_move (v := .tup _) rfl) ?_ | refine s_off rfl rfl (by first | rfl | assumption) ?_
  first | refine s_on rfl rfl (by first | rfl | assumption) (by first | exact h_len rfl Try.underlying29 | exact h_len_nil rfl Try.underlying29 | exact h_len_val rfl Try.underlying29) ?_ | refine s_off rfl rfl (by first | rfl | assumption) ?_
  first | refine s_on rfl rfl (by first | rfl | assumption) (h_ixl 1 rfl rfl rfl Try.underlying38 Try.sizeOf29 (by omega)) ?_ | refine s_off rfl rfl (by first | rfl | assumption) ?_
  first | refine s_on rfl rfl (by first | rfl | assumption) (by first | exact h_load_one rfl rfl rfl Try.isAgg29 | exact h_load rfl rfl rfl Try.isAgg29) ?_ | refine s_off rfl rfl (by first | rfl | assumption) ?_
  first | refine s_on rfl rfl (by first | rfl | assumption) (by first | exact h_len rfl Try.underlying29 | exact h_len_nil rfl Try.underlying29 | exact h_len_val rfl Try.underlying29) ?_ | refine s_off rfl rfl (by first | rfl | assumption) ?_
  first | refine s_on rfl rfl (by first | rfl | assumption) (h_bin rfl rfl (b_neq rfl)) ?_ | refine s_off rfl rfl (by first | rfl | assumption) ?_
  refine s_p (by first | exact h_pick_t rfl (by first | rfl | assumption) rfl | exact h_pick_f rfl (by first | rfl | assumption) rfl) ?_
  refine s_nil ?_
  refine n_wp ?_
  refine w_cond rfl (fun hc_t44 => ?_) (fun hc_t44 => ?_)
  · exact absurd hc_t44 (by first | exact fun h => Bool.false_ne_true (hB.symm.trans h) | exact fun h => Bool.false_ne_true (hN1.symm.trans h) | exact fun h => Bool.false_ne_true (hA.symm.trans h) | exact fun h => Bool.false_ne_true (hN0.symm.trans h) | simp)
  refine w_skip ?_
  refine n_wp ?_
  refine w_seq ?_
  refine w_seq ?_
  refine c_reg (by kernel_rfl) rfl ?_
  refine s_p (by first | exact h_assign (v := .s _) rfl | exact h_assign (v := .agg _) rfl | exact h_assign (v := .tup _) rfl) ?_
  refine s_nil ?_
  refine n_wp ?_
  refine w_block ?_
  refine c_loop (I7ss len0 cap0 len1 cap1  key first B0 S0 B1 S1) len0 ⟨0, by omega, rfl, rfl, rfl⟩ (weak' (by repeat (first | exact trivial | refine ⟨rfl, ?_⟩)) rfl rfl (Nat.le_of_ble_eq_true rfl)) ?_
  rintro n T H ⟨k, hk, rfl, rfl, rfl⟩
  refine w_seq ?_
  refine w_seq ?_
  rcases Nat.lt_or_ge k len0 with hk0 | hk0
  · have hg0 : decide ((k : Int) < (len0 : Int)) = true := decide_eq_true (by omega)
    refine c_reg (by kernel_rfl) rfl ?_
    refine s_p (by first | exact h_move (v := .s _) rfl | exact h_move (v := .agg _) rfl | exact h_move (v := .tup _) rfl) ?_
    refine s_p (by first | exact h_move (v := .s _) rfl | exact h_move (v := .agg _) rfl | exact h_move (v := .tup _) rfl) ?_
    refine s_p (by first | exact h_len rfl Try.underlying29 | exact h_len_nil rfl Try.underlying29 | exact h_len_val rfl Try.underlying29) ?_
    refine s_p (h_bin rfl rfl (b_lss rfl)) ?_
    refine s_p (by first | exact h_move (v := .s _) rfl | exact h_move (v := .agg _) rfl | exact h_move (v := .tup _) rfl) ?_
    first | refine s_on rfl rfl (by first | rfl | assumption) (by first | exact h_move (v := .s _) rfl | exact h_move (v := .agg _) rfl | exact h_move (v := .tup _) rfl) ?_ | refine s_off rfl rfl (by first | rfl | assumption) ?_
    first | refine s_on rfl rfl (by first | rfl | assumption) (by first | exact h_move (v := .s _) rfl | exact h_move (v := .agg _) rfl | exact h_move (v := .tup _) rfl) ?_ | refine s_off rfl rfl (by first | rfl | assumption) ?_
    first | refine s_on rfl rfl (by first | rfl | assumption) (by first | exact h_len rfl Try.underlying29 | exact h_len_nil rfl Try.underlying29 | exact h_len_val rfl Try.underlying29) ?_ | refine s_off rfl rfl (by first | rfl | assumption) ?_
    first | refine s_on rfl rfl (by first | rfl | assumption) (h_bin rfl rfl (b_lss rfl)) ?_ | refine s_off rfl rfl (by first | rfl | assumption) ?_
    refine s_p (by first | exact h_pick_t rfl (by first | rfl | assumption) rfl | exact h_pick_f rfl (by first | rfl | assumption) rfl) ?_
    refine s_nil ?_
    refine n_wp ?_
    refine w_cond rfl (fun hc_t54 => ?_) (fun hc_t54 => ?_)
    · skip
      have hlt : k < len1 := by have := of_decide_eq_true hc_t54; omega
      refine w_skip ?_
      refine n_wp ?_
      refine w_seq ?_
      refine w_block ?_
      refine w_seq ?_
      refine c_any 20 mix (by kernel_rfl) (by kernel_rfl) rfl rfl rfl ?_
      refine t_p (by first | exact h_move (v := .s _) rfl | exact h_move (v := .agg _) rfl | exact h_move (v := .tup _) rfl) ?_
      refine t_p (by first | exact h_move (v := .s _) rfl | exact h_move (v := .agg _) rfl | exact h_move (v := .tup _) rfl) ?_
      refine t_p (by first | exact h_ixs0 rfl rfl Try.underlying29 Try.sizeOf5 (by omega) | exact h_ixs rfl rfl Try.underlying29 Try.sizeOf5 (by omega) | exact h_ixsx rfl rfl Try.underlying29 Try.sizeOf5 (by omega)) ?_
      refine t_p (by first | exact h_load_ints rfl rfl rfl (by omega) rfl Try.isAgg5 | exact h_load_one rfl rfl rfl Try.isAgg5) ?_
      refine t_p (by first | exact h_move (v := .s _) rfl | exact h_move (v := .agg _) rfl | exact h_move (v := .tup _) rfl) ?_
      refine t_p (by first | exact h_move (v := .s _) rfl | exact h_move (v := .agg _) rfl | exact h_move (v := .tup _) rfl) ?_
      refine t_p (by first | exact h_ixs0 rfl rfl Try.underlying29 Try.sizeOf5 (by omega) | exact h_ixs rfl rfl Try.underlying29 Try.sizeOf5 (by omega) | exact h_ixsx rfl rfl Try.underlying29 Try.sizeOf5 (by omega)) ?_
      refine t_p (by first | exact h_load_ints rfl rfl rfl (by omega) rfl Try.isAgg5 | exact h_load_one rfl rfl rfl Try.isAgg5) ?_
      refine t_p (h_bin rfl rfl (b_xor rfl)) ?_
      refine t_p (h_ixl 0 rfl rfl rfl Try.underlying38 Try.sizeOf29 (by omega)) ?_
      refine t_p (by first | exact h_load_one rfl rfl rfl Try.isAgg29 | exact h_load rfl rfl rfl Try.isAgg29) ?_
      refine t_p (by first | exact h_move (v := .s _) rfl | exact h_move (v := .agg _) rfl | exact h_move (v := .tup _) rfl) ?_
      refine t_p (by first | exact h_ixs0 rfl rfl Try.underlying29 Try.sizeOf5 (by omega) | exact h_ixs rfl rfl Try.underlying29 Try.sizeOf5 (by omega) | exact h_ixsx rfl rfl Try.underlying29 Try.sizeOf5 (by omega)) ?_
      refine t_p (by first | exact h_load_ints rfl rfl rfl (by omega) rfl Try.isAgg5 | exact h_load_one rfl rfl rfl Try.isAgg5) ?_
      refine t_p (h_ixl 1 rfl rfl rfl Try.underlying38 Try.sizeOf29 (by omega)) ?_
      refine t_p (by first | exact h_load_one rfl rfl rfl Try.isAgg29 | exact h_load rfl rfl rfl Try.isAgg29) ?_
      refine t_p (by first | exact h_move (v := .s _) rfl | exact h_move (v := .agg _) rfl | exact h_move (v := .tup _) rfl) ?_
      refine t_p (by first | exact h_ixs0 rfl rfl Try.underlying29 Try.sizeOf5 (by omega) | exact h_ixs rfl rfl Try.underlying29 Try.sizeOf5 (by omega) | exact h_ixsx rfl rfl Try.underlying29 Try.sizeOf5 (by omega)) ?_
      refine t_p (by first | exact h_load_ints rfl rfl rfl (by omega) rfl Try.isAgg5 | exact h_load_one rfl rfl rfl Try.isAgg5) ?_
      refine t_p (h_bin rfl rfl (b_xor rfl)) ?_
      refine t_nil ?_
      refine s_p (h_bin rfl rfl (b_neq rfl)) ?_
      refine s_nil ?_
      refine n_wp ?_
      refine w_cond rfl (fun hc_t77 => ?_) (fun hc_t77 => ?_)
      · exact absurd hc_t77 (by exact fun h => of_decide_eq_true h (hp k (by omega) (by omega)))
      refine w_skip ?_
      refine n_blo ?_
      refine n_wp ?_
      refine c_reg (by kernel_rfl) rfl ?_
      refine s_p (by first | exact h_move (v := .s _) rfl | exact h_move (v := .agg _) rfl | exact h_move (v := .tup _) rfl) ?_
      refine s_p (by first | exact h_bin rfl rfl (b_add (Go.IntWalk.i64_in _ (by omega))) | exact h_bin rfl rfl (b_add rfl)) ?_
      refine s_p (by first | exact h_assign (v := .s _) rfl | exact h_assign (v := .agg _) rfl | exact h_assign (v := .tup _) rfl) ?_
      refine s_nil ?_
      exact n_round (len0 - (k + 1)) (by omega) ⟨k + 1, by omega, rfl, rfl, rfl⟩ (weak' (by repeat (first | exact trivial | refine ⟨rfl, ?_⟩)) rfl rfl (Nat.le_of_ble_eq_true rfl))
    · skip
      skip
      refine w_exit ?_
      refine x_thn ?_
      refine x_thn ?_
      refine x_eq ?_
      refine n_wp ?_
      refine w_seq ?_
      refine c_reg (by kernel_rfl) rfl ?_
      refine s_p (h_call callable_25 rfl (lives_c _)) ?_
      refine s_p (by first | exact h_assign (v := .s _) rfl | exact h_assign (v := .agg _) rfl | exact h_assign (v := .tup _) rfl) ?_
      refine s_nil ?_
      refine n_wp ?_
      refine w_ret ?_
      exact ⟨.inl rfl, ret_tmp Try.results7 rfl⟩
  · have hg0 : decide ((k : Int) < (len0 : Int)) = false := decide_eq_false (by omega)
    refine c_reg (by kernel_rfl) rfl ?_
    refine s_p (by first | exact h_move (v := .s _) rfl | exact h_move (v := .agg _) rfl | exact h_move (v := .tup _) rfl) ?_
    refine s_p (by first | exact h_move (v := .s _) rfl | exact h_move (v := .agg _) rfl | exact h_move (v := .tup _) rfl) ?_
    refine s_p (by first | exact h_len rfl Try.underlying29 | exact h_len_nil rfl Try.underlying29 | exact h_len_val rfl Try.underlying29) ?_
    refine s_p (h_bin rfl rfl (b_lss rfl)) ?_
    refine s_p (by first | exact h_move (v := .s _) rfl | exact h_move (v := .agg _) rfl | exact h_move (v := .tup _) rfl) ?_
    first | refine s_on rfl rfl (by first | rfl | assumption) (by first | exact h_move (v := .s _) rfl | exact h_move (v := .agg _) rfl | exact h_move (v := .tup _) rfl) ?_ | refine s_off rfl rfl (by first | rfl | assumption) ?_
    first | refine s_on rfl rfl (by first | rfl | assumption) (by first | exact h_move (v := .s _) rfl | exact h_move (v := .agg _) rfl | exact h_move (v := .tup _) rfl) ?_ | refine s_off rfl rfl (by first | rfl | assumption) ?_
    first | refine s_on rfl rfl (by first | rfl | assumption) (by first | exact h_len rfl Try.underlying29 | exact h_len_nil rfl Try.underlying29 | exact h_len_val rfl Try.underlying29) ?_ | refine s_off rfl rfl (by first | rfl | assumption) ?_
    first | refine s_on rfl rfl (by first | rfl | assumption) (h_bin rfl rfl (b_lss rfl)) ?_ | refine s_off rfl rfl (by first | rfl | assumption) ?_
    refine s_p (by first | exact h_pick_t rfl (by first | rfl | assumption) rfl | exact h_pick_f rfl (by first | rfl | assumption) rfl) ?_
    refine s_nil ?_
    refine n_wp ?_
    refine w_cond rfl (fun hc_t54 => ?_) (fun hc_t54 => ?_)
    · exact absurd hc_t54 (by first | exact fun h => Bool.false_ne_true (hg0.symm.trans h) | simp)
    refine w_exit ?_
    refine x_thn ?_
    refine x_thn ?_
    refine x_eq ?_
    refine n_wp ?_
    refine w_seq ?_
    refine c_reg (by kernel_rfl) rfl ?_
    refine s_p (h_call callable_25 rfl (lives_c _)) ?_
    refine s_p (by first | exact h_assign (v := .s _) rfl | exact h_assign (v := .agg _) rfl | exact h_assign (v := .tup _) rfl) ?_
    refine s_nil ?_
    refine n_wp ?_
    refine w_ret ?_
    exact ⟨.inl rfl, ret_tmp Try.results7 rfl⟩
def I7se (len0 cap0 cap1 : Nat) (a1 : Option Addr) (key first B0 S0 : List Int) (n : Nat) (T : Tm) (H : Heap) : Prop := ∃ k : Nat, k ≤ len0 ∧ n = len0 - k ∧ T = [(5, .s (.ptr 3 0 0)), (7, .s (.slice 4 0 0 len0 len0)), (8, .s (.nils)), (9, .s (.int .i64 k))] ∧ H = [some ⟨false, [.ints .u8 len0 B0]⟩, some ⟨true, [.ints .u8 16 key]⟩, some ⟨true, [.ints .u8 16 first]⟩, some ⟨true, [.one (.slice 0 0 0 len0 cap0), .one (.val (.slice a1 0 cap1))]⟩, some ⟨true, [.ints .u8 len0 S0]⟩]
set_option maxRecDepth 100000 in
set_option maxHeartbeats 2000000 in
theorem against_se (key first B0 S0 : List Int) (hk : key.length = 16) (huk : U8 key) (hf : first.length = 16) (huf : U8 first) (len0 cap0 cap1 : Nat) (a1 : Option Addr) (h0 : 0 < len0) (hl0 : len0 ≤ 3000) (hn0 : B0.length = len0) (hS0 : streamN key first B0 len0 = S0)
    (c : Code) (hc : Try.f7.body = some c) (W : Nat → Prop) (w : World) (ρ0 : Rho) (hW : ∀ b, w.heap.size ≤ b → W b) (hdom : ∀ id, 1 ≤ id → ρ0 id = none) :
    Wp ⟨Try.prog, W, w, ρ0, 79, 1, hW, hdom⟩ c (argT 0 [.agg [.ints .u8 16 key], .agg [.ints .u8 16 first], .agg [.one (.slice 0 0 0 len0 cap0), .one (.val (.slice a1 0 cap1))]]) [some ⟨false, [.ints .u8 len0 B0]⟩] (DoneF ⟨Try.prog, W, w, ρ0, 79, 1, hW, hdom⟩ Try.f7 (.s (.bool true))) := by
  cases hc
  have hB0 : B0 = (B0.drop 0).take len0 := by rw [← hn0]; simp
  have hA : decide ((len0 : Int) > 3000) = false := decide_eq_false (by omega)
  have hN0 : decide ((len0 : Int) ≠ (len0 : Int)) = false := decide_eq_false (by omega)
  refine w_seq ?_
  refine c_reg (by kernel_rfl) rfl ?_
  refine s_a (by first | exact h_box_agg rfl rfl | exact h_box rfl (by simp) rfl) rfl ?_
  refine s_a (by first | exact h_box_agg rfl rfl | exact h_box rfl (by simp) rfl) rfl ?_
  refine s_a (by first | exact h_box_agg rfl rfl | exact h_box rfl (by simp) rfl) rfl ?_
  refine s_p (by first | exact h_assign (v := .s _) rfl | exact h_assign (v := .agg _) rfl | exact h_assign (v := .tup _) rfl) ?_
  refine s_nil ?_
  refine n_wp ?_
  refine w_seq ?_
  refine w_seq ?_
  refine c_reg (by kernel_rfl) rfl ?_
  refine s_p (h_ixl 0 rfl rfl rfl Try.underlying38 Try.sizeOf29 (by omega)) ?_
  refine s_p (by first | exact h_load_one rfl rfl rfl Try.isAgg29 | exact h_load rfl rfl rfl Try.isAgg29) ?_
  refine s_p (by first | exact h_len rfl Try.underlying29 | exact h_len_nil rfl Try.underlying29 | exact h_len_val rfl Try.underlying29) ?_
  refine s_p (h_bin rfl rfl (b_gtr rfl)) ?_
  refine s_p (by first | exact h_move (v := .s _) rfl | exact h_move (v := .agg _) rfl | exact h_move (v := .tup _) rfl) ?_
  first | refine s_on rfl rfl (by first | rfl | assumption) (h_ixl 1 rfl rfl rfl Try.underlying38 Try.sizeOf29 (by omega)) ?_ | refine s_off rfl rfl (by first | rfl | assumption) ?_
  first | refine s_on rfl rfl (by first | rfl | assumption) (by first | exact h_load_one rfl rfl rfl Try.isAgg29 | exact h_load rfl rfl rfl Try.isAgg29) ?_ | refine s_off rfl rfl (by first | rfl | assumption) ?_
  first | refine s_on rfl rfl (by first | rfl | assumption) (by first | exact h_len rfl Try.underlying29 | exact h_len_nil rfl Try.underlying29 | exact h_len_val rfl Try.underlying29) ?_ | refine s_off rfl rfl (by first | rfl | assumption) ?_
  first | refine s_on rfl rfl (by first | rfl | assumption) (h_bin rfl rfl (b_gtr rfl)) ?_ | refine s_off rfl rfl (by first | rfl | assumption) ?_
  refine s_p (by first | exact h_pick_t rfl (by first | rfl | assumption) rfl | exact h_pick_f rfl (by first | rfl | assumption) rfl) ?_
  refine s_nil ?_
  refine n_wp ?_
  refine w_cond rfl (fun hc_t19 => ?_) (fun hc_t19 => ?_)
  · exact absurd hc_t19 (by first | exact fun h => Bool.false_ne_true (hB.symm.trans h) | exact fun h => Bool.false_ne_true (hN1.symm.trans h) | exact fun h => Bool.false_ne_true (hA.symm.trans h) | exact fun h => Bool.false_ne_true (hN0.symm.trans h) | simp)
  refine w_skip ?_
  refine n_wp ?_
  refine w_seq ?_
  refine c_reg (by kernel_rfl) rfl ?_
  refine s_p (by first | exact h_load_agg rfl rfl (.whole rfl) Try.isAgg22 Try.sizeOf22 | exact h_load_agg rfl rfl (.seg rfl rfl) Try.isAgg22 Try.sizeOf22 | exact h_load_agg rfl rfl (.ints rfl (by omega)) Try.isAgg22 Try.sizeOf22) ?_
  refine s_p (by first | exact h_load_agg rfl rfl (.whole rfl) Try.isAgg22 Try.sizeOf22 | exact h_load_agg rfl rfl (.seg rfl rfl) Try.isAgg22 Try.sizeOf22 | exact h_load_agg rfl rfl (.ints rfl (by omega)) Try.isAgg22 Try.sizeOf22) ?_
  refine s_p (h_ixl 0 rfl rfl rfl Try.underlying38 Try.sizeOf29 (by omega)) ?_
  refine s_p (by first | exact h_load_one rfl rfl rfl Try.isAgg29 | exact h_load rfl rfl rfl Try.isAgg29) ?_
  refine s_a (h_call callable_26 rfl (stream_c key first B0 hk huk hf huf len0 cap0 h0 (by omega) _ 0 0 0 len0 _ B0 rfl rfl (by omega) hB0)) rfl ?_
  refine s_p (by first | exact h_assign (v := .s _) rfl | exact h_assign (v := .agg _) rfl | exact h_assign (v := .tup _) rfl) ?_
  refine s_nil ?_
  refine n_wp ?_
  refine w_seq ?_
  refine c_reg (by kernel_rfl) rfl ?_
  refine s_p (by first | exact h_load_agg rfl rfl (.whole rfl) Try.isAgg22 Try.sizeOf22 | exact h_load_agg rfl rfl (.seg rfl rfl) Try.isAgg22 Try.sizeOf22 | exact h_load_agg rfl rfl (.ints rfl (by omega)) Try.isAgg22 Try.sizeOf22) ?_
  refine s_p (by first | exact h_load_agg rfl rfl (.whole rfl) Try.isAgg22 Try.sizeOf22 | exact h_load_agg rfl rfl (.seg rfl rfl) Try.isAgg22 Try.sizeOf22 | exact h_load_agg rfl rfl (.ints rfl (by omega)) Try.isAgg22 Try.sizeOf22) ?_
  refine s_p (h_ixl 1 rfl rfl rfl Try.underlying38 Try.sizeOf29 (by omega)) ?_
  refine s_p (by first | exact h_load_one rfl rfl rfl Try.isAgg29 | exact h_load rfl rfl rfl Try.isAgg29) ?_
  refine s_p (h_call callable_26 rfl (stream_e key first a1 cap1 _)) ?_
  refine s_p (by first | exact h_assign (v := .s _) rfl | exact h_assign (v := .agg _) rfl | exact h_assign (v := .tup _) rfl) ?_
  refine s_nil ?_
  rw [hS0]
  refine n_wp ?_
  refine w_seq ?_
  refine w_seq ?_
  refine c_reg (by kernel_rfl) rfl ?_
  refine s_p (by first | exact h_move (v := .s _) rfl | exact h_move (v := .agg _) rfl | exact h_move (v := .tup _) rfl) ?_
  refine s_p (by first | exact h_len rfl Try.underlying29 | exact h_len_nil rfl Try.underlying29 | exact h_len_val rfl Try.underlying29) ?_
  refine s_p (h_ixl 0 rfl rfl rfl Try.underlying38 Try.sizeOf29 (by omega)) ?_
  refine s_p (by first | exact h_load_one rfl rfl rfl Try.isAgg29 | exact h_load rfl rfl rfl Try.isAgg29) ?_
  refine s_p (by first | exact h_len rfl Try.underlying29 | exact h_len_nil rfl Try.underlying29 | exact h_len_val rfl Try.underlying29) ?_
  refine s_p (h_bin rfl rfl (b_neq rfl)) ?_
  refine s_p (by first | exact h_move (v := .s _) rfl | exact h_move (v := .agg _) rfl | exact h_move (v := .tup _) rfl) ?_
  first | refine s_on rfl rfl (by first | rfl | assumption) (by first | exact h_move (v := .s _) rfl | exact h_move (v := .agg _) rfl | exact h_move (v := .tup _) rfl) ?_ | refine s_off rfl rfl (by first | rfl | assumption) ?_
  first | refine s_on rfl rfl (by first | rfl | assumption) (by first | exact h_len rfl Try.underlying29 | exact h_len_nil rfl Try.underlying29 | exact h_len_val rfl Try.underlying29) ?_ | refine s_off rfl rfl (by first | rfl | assumption) ?_
  first | refine s_on rfl rfl (by first | rfl | assumption) (h_ixl 1 rfl rfl rfl Try.underlying38 Try.sizeOf29 (by omega)) ?_ | refine s_off rfl rfl (by first | rfl | assumption) ?_
  first | refine s_on rfl rfl (by first | rfl | assumption) (by first | exact h_load_one rfl rfl rfl Try.isAgg29 | exact h_load rfl rfl rfl Try.isAgg29) ?_ | refine s_off rfl rfl (by first | rfl | assumption) ?_
  first | refine s_on rfl rfl (by first | rfl | assumption) (by first | exact h_len rfl Try.underlying29 | exact h_len_nil rfl Try.underlying29 | exact h_len_val rfl Try.underlying29) ?_ | refine s_off rfl rfl (by first | rfl | assumption) ?_
  first | refine s_on rfl rfl (by first | rfl | assumption) (h_bin rfl rfl (b_neq rfl)) ?_ | refine s_off rfl rfl (by first | rfl | assumption) ?_
  refine s_p (by first | exact h_pick_t rfl (by first | rfl | assumption) rfl | exact h_pick_f rfl (by first | rfl | assumption) rfl) ?_
  refine s_nil ?_
  refine n_wp ?_
  refine w_cond rfl (fun hc_t44 => ?_) (fun hc_t44 => ?_)
  · exact absurd hc_t44 (by first | exact fun h => Bool.false_ne_true (hB.symm.trans h) | exact fun h => Bool.false_ne_true (hN1.symm.trans h) | exact fun h => Bool.false_ne_true (hA.symm.trans h) | exact fun h => Bool.false_ne_true (hN0.symm.trans h) | simp)
  refine w_skip ?_
  refine n_wp ?_
  refine w_seq ?_
  refine w_seq ?_
  refine c_reg (by kernel_rfl) rfl ?_
  refine s_p (by first | exact h_assign (v := .s _) rfl | exact h_assign (v := .agg _) rfl | exact h_assign (v := .tup _) rfl) ?_
  refine s_nil ?_
  refine n_wp ?_
  refine w_block ?_
  refine c_loop (I7se len0 cap0 cap1 a1 key first B0 S0) len0 ⟨0, by omega, rfl, rfl, rfl⟩ (weak' (by repeat (first | exact trivial | refine ⟨rfl, ?_⟩)) rfl rfl (Nat.le_of_ble_eq_true rfl)) ?_
  rintro n T H ⟨k, hk, rfl, rfl, rfl⟩
  refine w_seq ?_
  refine w_seq ?_
  rcases Nat.lt_or_ge k len0 with hk0 | hk0
  · have hg0 : decide ((k : Int) < (len0 : Int)) = true := decide_eq_true (by omega)
    refine c_reg (by kernel_rfl) rfl ?_
    refine s_p (by first | exact h_move (v := .s _) rfl | exact h_move (v := .agg _) rfl | exact h_move (v := .tup _) rfl) ?_
    refine s_p (by first | exact h_move (v := .s _) rfl | exact h_move (v := .agg _) rfl | exact h_move (v := .tup _) rfl) ?_
    refine s_p (by first | exact h_len rfl Try.underlying29 | exact h_len_nil rfl Try.underlying29 | exact h_len_val rfl Try.underlying29) ?_
    refine s_p (h_bin rfl rfl (b_lss rfl)) ?_
    refine s_p (by first | exact h_move (v := .s _) rfl | exact h_move (v := .agg _) rfl | exact h_move (v := .tup _) rfl) ?_
    first | refine s_on rfl rfl (by first | rfl | assumption) (by first | exact h_move (v := .s _) rfl | exact h_move (v := .agg _) rfl | exact h_move (v := .tup _) rfl) ?_ | refine s_off rfl rfl (by first | rfl | assumption) ?_
    first | refine s_on rfl rfl (by first | rfl | assumption) (by first | exact h_move (v := .s _) rfl | exact h_move (v := .agg _) rfl | exact h_move (v := .tup _) rfl) ?_ | refine s_off rfl rfl (by first | rfl | assumption) ?_
    first | refine s_on rfl rfl (by first | rfl | assumption) (by first | exact h_len rfl Try.underlying29 | exact h_len_nil rfl Try.underlying29 | exact h_len_val rfl Try.underlying29) ?_ | refine s_off rfl rfl (by first | rfl | assumption) ?_
    first | refine s_on rfl rfl (by first | rfl | assumption) (h_bin rfl rfl (b_lss rfl)) ?_ | refine s_off rfl rfl (by first | rfl | assumption) ?_
    refine s_p (by first | exact h_pick_t rfl (by first | rfl | assumption) rfl | exact h_pick_f rfl (by first | rfl | assumption) rfl) ?_
    refine s_nil ?_
    refine n_wp ?_
    refine w_cond rfl (fun hc_t54 => ?_) (fun hc_t54 => ?_)
    · exact absurd hc_t54 (by exact fun h => by have := of_decide_eq_true h; omega)
    refine w_exit ?_
    refine x_thn ?_
    refine x_thn ?_
    refine x_eq ?_
    refine n_wp ?_
    refine w_seq ?_
    refine c_reg (by kernel_rfl) rfl ?_
    refine s_p (h_call callable_25 rfl (lives_c _)) ?_
    refine s_p (by first | exact h_assign (v := .s _) rfl | exact h_assign (v := .agg _) rfl | exact h_assign (v := .tup _) rfl) ?_
    refine s_nil ?_
    refine n_wp ?_
    refine w_ret ?_
    exact ⟨.inl rfl, ret_tmp Try.results7 rfl⟩
  · have hg0 : decide ((k : Int) < (len0 : Int)) = false := decide_eq_false (by omega)
    refine c_reg (by kernel_rfl) rfl ?_
    refine s_p (by first | exact h_move (v := .s _) rfl | exact h_move (v := .agg _) rfl | exact h_move (v := .tup _) rfl) ?_
    refine s_p (by first | exact h_move (v := .s _) rfl | exact h_move (v := .agg _) rfl | exact h_move (v := .tup _) rfl) ?_
    refine s_p (by first | exact h_len rfl Try.underlying29 | exact h_len_nil rfl Try.underlying29 | exact h_len_val rfl Try.underlying29) ?_
    refine s_p (h_bin rfl rfl (b_lss rfl)) ?_
    refine s_p (by first | exact h_move (v := .s _) rfl | exact h_move (v := .agg _) rfl | exact h_move (v := .tup _) rfl) ?_
    first | refine s_on rfl rfl (by first | rfl | assumption) (by first | exact h_move (v := .s _) rfl | exact h_move (v := .agg _) rfl | exact h_move (v := .tup _) rfl) ?_ | refine s_off rfl rfl (by first | rfl | assumption) ?_
    first | refine s_on rfl rfl (by first | rfl | assumption) (by first | exact h_move (v := .s _) rfl | exact h_move (v := .agg _) rfl | exact h_move (v := .tup _) rfl) ?_ | refine s_off rfl rfl (by first | rfl | assumption) ?_
    first | refine s_on rfl rfl (by first | rfl | assumption) (by first | exact h_len rfl Try.underlying29 | exact h_len_nil rfl Try.underlying29 | exact h_len_val rfl Try.underlying29) ?_ | refine s_off rfl rfl (by first | rfl | assumption) ?_
    first | refine s_on rfl rfl (by first | rfl | assumption) (h_bin rfl rfl (b_lss rfl)) ?_ | refine s_off rfl rfl (by first | rfl | assumption) ?_
    refine s_p (by first | exact h_pick_t rfl (by first | rfl | assumption) rfl | exact h_pick_f rfl (by first | rfl | assumption) rfl) ?_
    refine s_nil ?_
    refine n_wp ?_
    refine w_cond rfl (fun hc_t54 => ?_) (fun hc_t54 => ?_)
    · exact absurd hc_t54 (by first | exact fun h => Bool.false_ne_true (hg0.symm.trans h) | simp)
    refine w_exit ?_
    refine x_thn ?_
    refine x_thn ?_
    refine x_eq ?_
    refine n_wp ?_
    refine w_seq ?_
    refine c_reg (by kernel_rfl) rfl ?_
    refine s_p (h_call callable_25 rfl (lives_c _)) ?_
    refine s_p (by first | exact h_assign (v := .s _) rfl | exact h_assign (v := .agg _) rfl | exact h_assign (v := .tup _) rfl) ?_
    refine s_nil ?_
    refine n_wp ?_
    refine w_ret ?_
    exact ⟨.inl rfl, ret_tmp Try.results7 rfl⟩
def I7es (cap0 len1 cap1 : Nat) (a0 : Option Addr) (key first B1 S1 : List Int) (n : Nat) (T : Tm) (H : Heap) : Prop := ∃ k : Nat, k ≤ 0 ∧ n = 0 - k ∧ T = [(5, .s (.ptr 3 0 0)), (7, .s (.nils)), (8, .s (.slice 4 0 0 len1 len1)), (9, .s (.int .i64 k))] ∧ H = [some ⟨false, [.ints .u8 len1 B1]⟩, some ⟨true, [.ints .u8 16 key]⟩, some ⟨true, [.ints .u8 16 first]⟩, some ⟨true, [.one (.val (.slice a0 0 cap0)), .one (.slice 0 0 0 len1 cap1)]⟩, some ⟨true, [.ints .u8 len1 S1]⟩]
set_option maxRecDepth 100000 in
set_option maxHeartbeats 2000000 in
theorem against_es (key first B1 S1 : List Int) (hk : key.length = 16) (huk : U8 key) (hf : first.length = 16) (huf : U8 first) (cap0 len1 cap1 : Nat) (a0 : Option Addr) (h1 : 0 < len1) (hl1 : len1 ≤ 3000) (hn1 : B1.length = len1) (hS1 : streamN key first B1 len1 = S1)
    (c : Code) (hc : Try.f7.body = some c) (W : Nat → Prop) (w : World) (ρ0 : Rho) (hW : ∀ b, w.heap.size ≤ b → W b) (hdom : ∀ id, 1 ≤ id → ρ0 id = none) :
    Wp ⟨Try.prog, W, w, ρ0, 79, 1, hW, hdom⟩ c (argT 0 [.agg [.ints .u8 16 key], .agg [.ints .u8 16 first], .agg [.one (.val (.slice a0 0 cap0)), .one (.slice 0 0 0 len1 cap1)]]) [some ⟨false, [.ints .u8 len1 B1]⟩] (DoneF ⟨Try.prog, W, w, ρ0, 79, 1, hW, hdom⟩ Try.f7 (.s (.bool true))) := by
  cases hc
  have hB1 : B1 = (B1.drop 0).take len1 := by rw [← hn1]; simp
  have hB : decide ((len1 : Int) > 3000) = false := decide_eq_false (by omega)
  have hN1 : decide ((len1 : Int) ≠ (len1 : Int)) = false := decide_eq_false (by omega)
  refine w_seq ?_
  refine c_reg (by kernel_rfl) rfl ?_
  refine s_a (by first | exact h_box_agg rfl rfl | exact h_box rfl (by simp) rfl) rfl ?_
  refine s_a (by first | exact h_box_agg rfl rfl | exact h_box rfl (by simp) rfl) rfl ?_
  refine s_a (by first | exact h_box_agg rfl rfl | exact h_box rfl (by simp) rfl) rfl ?_
  refine s_p (by first | exact h_assign (v := .s _) rfl | exact h_assign (v := .agg _) rfl | exact h_assign (v := .tup _) rfl) ?_
  refine s_nil ?_
  refine n_wp ?_
  refine w_seq ?_
  refine w_seq ?_
  refine c_reg (by kernel_rfl) rfl ?_
  refine s_p (h_ixl 0 rfl rfl rfl Try.underlying38 Try.sizeOf29 (by omega)) ?_
  refine s_p (by first | exact h_load_one rfl rfl rfl Try.isAgg29 | exact h_load rfl rfl rfl Try.isAgg29) ?_
  refine s_p (by first | exact h_len rfl Try.underlying29 | exact h_len_nil rfl Try.underlying29 | exact h_len_val rfl Try.underlying29) ?_
  refine s_p (h_bin rfl rfl (b_gtr rfl)) ?_
  refine s_p (by first | exact h_move (v := .s _) rfl | exact h_move (v := .agg _) rfl | exact h_move (v := .tup _) rfl) ?_
  first | refine s_on rfl rfl (by first | rfl | assumption) (h_ixl 1 rfl rfl rfl Try.underlying38 Try.sizeOf29 (by omega)) ?_ | refine s_off rfl rfl (by first | rfl | assumption) ?_
  first | refine s_on rfl rfl (by first | rfl | assumption) (by first | exact h_load_one rfl rfl rfl Try.isAgg29 | exact h_load rfl rfl rfl Try.isAgg29) ?_ | refine s_off rfl rfl (by first | rfl | assumption) ?_
  first | refine s_on rfl rfl (by first | rfl | assumption) (by first | exact h_len rfl Try.underlying29 | exact h_len_nil rfl Try.underlying29 | exact h_len_val rfl Try.underlying29) ?_ | refine s_off rfl rfl (by first | rfl | assumption) ?_
  first | refine s_on rfl rfl (by first | rfl | assumption) (h_bin rfl rfl (b_gtr rfl)) ?_ | refine s_off rfl rfl (by first | rfl | assumption) ?_
  refine s_p (by first | exact h_pick_t rfl (by first | rfl | assumption) rfl | exact h_pick_f rfl (by first | rfl | assumption) rfl) ?_
  refine s_nil ?_
  refine n_wp ?_
  refine w_cond rfl (fun hc_t19 => ?_) (fun hc_t19 => ?_)
  · exact absurd hc_t19 (by first | exact fun h => Bool.false_ne_true (hB.symm.trans h) | exact fun h => Bool.false_ne_true (hN1.symm.trans h) | exact fun h => Bool.false_ne_true (hA.symm.trans h) | exact fun h => Bool.false_ne_true (hN0.symm.trans h) | simp)
  refine w_skip ?_
  refine n_wp ?_
  refine w_seq ?_
  refine c_reg (by kernel_rfl) rfl ?_
  refine s_p (by first | exact h_load_agg rfl rfl (.whole rfl) Try.isAgg22 Try.sizeOf22 | exact h_load_agg rfl rfl (.seg rfl rfl) Try.isAgg22 Try.sizeOf22 | exact h_load_agg rfl rfl (.ints rfl (by omega)) Try.isAgg22 Try.sizeOf22) ?_
  refine s_p (by first | exact h_load_agg rfl rfl (.whole rfl) Try.isAgg22 Try.sizeOf22 | exact h_load_agg rfl rfl (.seg rfl rfl) Try.isAgg22 Try.sizeOf22 | exact h_load_agg rfl rfl (.ints rfl (by omega)) Try.isAgg22 Try.sizeOf22) ?_
  refine s_p (h_ixl 0 rfl rfl rfl Try.underlying38 Try.sizeOf29 (by omega)) ?_
  refine s_p (by first | exact h_load_one rfl rfl rfl Try.isAgg29 | exact h_load rfl rfl rfl Try.isAgg29) ?_
  refine s_p (h_call callable_26 rfl (stream_e key first a0 cap0 _)) ?_
  refine s_p (by first | exact h_assign (v := .s _) rfl | exact h_assign (v := .agg _) rfl | exact h_assign (v := .tup _) rfl) ?_
  refine s_nil ?_
  refine n_wp ?_
  refine w_seq ?_
  refine c_reg (by kernel_rfl) rfl ?_
  refine s_p (by first | exact h_load_agg rfl rfl (.whole rfl) Try.isAgg22 Try.sizeOf22 | exact h_load_agg rfl rfl (.seg rfl rfl) Try.isAgg22 Try.sizeOf22 | exact h_load_agg rfl rfl (.ints rfl (by omega)) Try.isAgg22 Try.sizeOf22) ?_
  refine s_p (by first | exact h_load_agg rfl rfl (.whole rfl) Try.isAgg22 Try.sizeOf22 | exact h_load_agg rfl rfl (.seg rfl rfl) Try.isAgg22 Try.sizeOf22 | exact h_load_agg rfl rfl (.ints rfl (by omega)) Try.isAgg22 Try.sizeOf22) ?_
  refine s_p (h_ixl 1 rfl rfl rfl Try.underlying38 Try.sizeOf29 (by omega)) ?_
  refine s_p (by first | exact h_load_one rfl rfl rfl Try.isAgg29 | exact h_load rfl rfl rfl Try.isAgg29) ?_
  refine s_a (h_call callable_26 rfl (stream_c key first B1 hk huk hf huf len1 cap1 h1 (by omega) _ 0 0 0 len1 _ B1 rfl rfl (by omega) hB1)) rfl ?_
  refine s_p (by first | exact h_assign (v := .s _) rfl | exact h_assign (v := .agg _) rfl | exact h_assign (v := .tup _) rfl) ?_
  refine s_nil ?_
  rw [hS1]
  refine n_wp ?_
  refine w_seq ?_
  refine w_seq ?_
  refine c_reg (by kernel_rfl) rfl ?_
  refine s_p (by first | exact h_move (v := .s _) rfl | exact h_move (v := .agg _) rfl | exact h_move (v := .tup _) rfl) ?_
  refine s_p (by first | exact h_len rfl Try.underlying29 | exact h_len_nil rfl Try.underlying29 | exact h_len_val rfl Try.underlying29) ?_
  refine s_p (h_ixl 0 rfl rfl rfl Try.underlying38 Try.sizeOf29 (by omega)) ?_
  refine s_p (by first | exact h_load_one rfl rfl rfl Try.isAgg29 | exact h_load rfl rfl rfl Try.isAgg29) ?_
  refine s_p (by first | exact h_len rfl Try.underlying29 | exact h_len_nil rfl Try.underlying29 | exact h_len_val rfl Try.underlying29) ?_
  refine s_p (h_bin rfl rfl (b_neq rfl)) ?_
  refine s_p (by first | exact h_move (v := .s _) rfl | exact h_move (v := .agg _) rfl | exact h_move (v := .tup _) rfl) ?_
  first | refine s_on rfl rfl (by first | rfl | assumption) (by first | exact h_move (v := .s _) rfl | exact h_move (v := .agg _) rfl | exact h_move (v := .tup _) rfl) ?_ | refine s_off rfl rfl (by first | rfl | assumption) ?_
  first | refine s_on rfl rfl (by first | rfl | assumption) (by first | exact h_len rfl Try.underlying29 | exact h_len_nil rfl Try.underlying29 | exact h_len_val rfl Try.underlying29) ?_ | refine s_off rfl rfl (by first | rfl | assumption) ?_
  first | refine s_on rfl rfl (by first | rfl | assumption) (h_ixl 1 rfl rfl rfl Try.underlying38 Try.sizeOf29 (by omega)) ?_ | refine s_off rfl rfl (by first | rfl | assumption) ?_
  first | refine s_on rfl rfl (by first | rfl | assumption) (by first | exact h_load_one rfl rfl rfl Try.isAgg29 | exact h_load rfl rfl rfl Try.isAgg29) ?_ | refine s_off rfl rfl (by first | rfl | assumption) ?_
  first | refine s_on rfl rfl (by first | rfl | assumption) (by first | exact h_len rfl Try.underlying29 | exact h_len_nil rfl Try.underlying29 | exact h_len_val rfl Try.underlying29) ?_ | refine s_off rfl rfl (by first | rfl | assumption) ?_
  first | refine s_on rfl rfl (by first | rfl | assumption) (h_bin rfl rfl (b_neq rfl)) ?_ | refine s_off rfl rfl (by first | rfl | assumption) ?_
  refine s_p (by first | exact h_pick_t rfl (by first | rfl | assumption) rfl | exact h_pick_f rfl (by first | rfl | assumption) rfl) ?_
  refine s_nil ?_
  refine n_wp ?_
  refine w_cond rfl (fun hc_t44 => ?_) (fun hc_t44 => ?_)
  · exact absurd hc_t44 (by first | exact fun h => Bool.false_ne_true (hB.symm.trans h) | exact fun h => Bool.false_ne_true (hN1.symm.trans h) | exact fun h => Bool.false_ne_true (hA.symm.trans h) | exact fun h => Bool.false_ne_true (hN0.symm.trans h) | simp)
  refine w_skip ?_
  refine n_wp ?_
  refine w_seq ?_
  refine w_seq ?_
  refine c_reg (by kernel_rfl) rfl ?_
  refine s_p (by first | exact h_assign (v := .s _) rfl | exact h_assign (v := .agg _) rfl | exact h_assign (v := .tup _) rfl) ?_
  refine s_nil ?_
  refine n_wp ?_
  refine w_block ?_
  refine c_loop (I7es cap0 len1 cap1 a0 key first B1 S1) 0 ⟨0, by omega, rfl, rfl, rfl⟩ (weak' (by repeat (first | exact trivial | refine ⟨rfl, ?_⟩)) rfl rfl (Nat.le_of_ble_eq_true rfl)) ?_
  rintro n T H ⟨k, hk, rfl, rfl, rfl⟩
  refine w_seq ?_
  refine w_seq ?_
  have hg0 : decide ((k : Int) < 0) = false := decide_eq_false (by omega)
  refine c_reg (by kernel_rfl) rfl ?_
  refine s_p (by first | exact h_move (v := .s _) rfl | exact h_move (v := .agg _) rfl | exact h_move (v := .tup _) rfl) ?_
  refine s_p (by first | exact h_move (v := .s _) rfl | exact h_move (v := .agg _) rfl | exact h_move (v := .tup _) rfl) ?_
  refine s_p (by first | exact h_len rfl Try.underlying29 | exact h_len_nil rfl Try.underlying29 | exact h_len_val rfl Try.underlying29) ?_
  refine s_p (h_bin rfl rfl (b_lss rfl)) ?_
  refine s_p (by first | exact h_move (v := .s _) rfl | exact h_move (v := .agg _) rfl | exact h_move (v := .tup _) rfl) ?_
  first | refine s_on rfl rfl (by first | rfl | assumption) (by first | exact h_move (v := .s _) rfl | exact h_move (v := .agg _) rfl | exact h_move (v := .tup _) rfl) ?_ | refine s_off rfl rfl (by first | rfl | assumption) ?_
  first | refine s_on rfl rfl (by first | rfl | assumption) (by first | exact h_move (v := .s _) rfl | exact h_move (v := .agg _) rfl | exact h_move (v := .tup _) rfl) ?_ | refine s_off rfl rfl (by first | rfl | assumption) ?_
  first | refine s_on rfl rfl (by first | rfl | assumption) (by first | exact h_len rfl Try.underlying29 | exact h_len_nil rfl Try.underlying29 | exact h_len_val rfl Try.underlying29) ?_ | refine s_off rfl rfl (by first | rfl | assumption) ?_
  first | refine s_on rfl rfl (by first | rfl | assumption) (h_bin rfl rfl (b_lss rfl)) ?_ | refine s_off rfl rfl (by first | rfl | assumption) ?_
  refine s_p (by first | exact h_pick_t rfl (by first | rfl | assumption) rfl | exact h_pick_f rfl (by first | rfl | assumption) rfl) ?_
  refine s_nil ?_
  refine n_wp ?_
  refine w_cond rfl (fun hc_t54 => ?_) (fun hc_t54 => ?_)
  · exact absurd hc_t54 (by first | exact fun h => Bool.false_ne_true (hg0.symm.trans h) | simp)
  refine w_exit ?_
  refine x_thn ?_
  refine x_thn ?_
  refine x_eq ?_
  refine n_wp ?_
  refine w_seq ?_
  refine c_reg (by kernel_rfl) rfl ?_
  refine s_p (h_call callable_25 rfl (lives_c _)) ?_
  refine s_p (by first | exact h_assign (v := .s _) rfl | exact h_assign (v := .agg _) rfl | exact h_assign (v := .tup _) rfl) ?_
  refine s_nil ?_
  refine n_wp ?_
  refine w_ret ?_
  exact ⟨.inl rfl, ret_tmp Try.results7 rfl⟩
def I7ee (cap0 cap1 : Nat) (a0 a1 : Option Addr) (key first : List Int) (n : Nat) (T : Tm) (H : Heap) : Prop := ∃ k : Nat, k ≤ 0 ∧ n = 0 - k ∧ T = [(5, .s (.ptr 2 0 0)), (7, .s (.nils)), (8, .s (.nils)), (9, .s (.int .i64 k))] ∧ H = [some ⟨true, [.ints .u8 16 key]⟩, some ⟨true, [.ints .u8 16 first]⟩, some ⟨true, [.one (.val (.slice a0 0 cap0)), .one (.val (.slice a1 0 cap1))]⟩]
set_option maxRecDepth 100000 in
set_option maxHeartbeats 2000000 in
theorem against_ee (key first : List Int) (hk : key.length = 16) (huk : U8 key) (hf : first.length = 16) (huf : U8 first) (cap0 cap1 : Nat) (a0 a1 : Option Addr)
    (c : Code) (hc : Try.f7.body = some c) (W : Nat → Prop) (w : World) (ρ0 : Rho) (hW : ∀ b, w.heap.size ≤ b → W b) (hdom : ∀ id, 0 ≤ id → ρ0 id = none) :
    Wp ⟨Try.prog, W, w, ρ0, 79, 0, hW, hdom⟩ c (argT 0 [.agg [.ints .u8 16 key], .agg [.ints .u8 16 first], .agg [.one (.val (.slice a0 0 cap0)), .one (.val (.slice a1 0 cap1))]]) [] (DoneF ⟨Try.prog, W, w, ρ0, 79, 0, hW, hdom⟩ Try.f7 (.s (.bool true))) := by
  cases hc
  refine w_seq ?_
  refine c_reg (by kernel_rfl) rfl ?_
  refine s_a (by first | exact h_box_agg rfl rfl | exact h_box rfl (by simp) rfl) rfl ?_
  refine s_a (by first | exact h_box_agg rfl rfl | exact h_box rfl (by simp) rfl) rfl ?_
  refine s_a (by first | exact h_box_agg rfl rfl | exact h_box rfl (by simp) rfl) rfl ?_
  refine s_p (by first | exact h_assign (v := .s _) rfl | exact h_assign (v := .agg _) rfl | exact h_assign (v := .tup _) rfl) ?_
  refine s_nil ?_
  refine n_wp ?_
  refine w_seq ?_
  refine w_seq ?_
  refine c_reg (by kernel_rfl) rfl ?_
  refine s_p (h_ixl 0 rfl rfl rfl Try.underlying38 Try.sizeOf29 (by omega)) ?_
  refine s_p (by first | exact h_load_one rfl rfl rfl Try.isAgg29 | exact h_load rfl rfl rfl Try.isAgg29) ?_
  refine s_p (by first | exact h_len rfl Try.underlying29 | exact h_len_nil rfl Try.underlying29 | exact h_len_val rfl Try.underlying29) ?_
  refine s_p (h_bin rfl rfl (b_gtr rfl)) ?_
  refine s_p (by first | exact h_move (v := .s _) rfl | exact h_move (v := .agg _) rfl | exact h_move (v := .tup _) rfl) ?_
  first | refine s_on rfl rfl (by first | rfl | assumption) (h_ixl 1 rfl rfl rfl Try.underlying38 Try.sizeOf29 (by omega)) ?_ | refine s_off rfl rfl (by first | rfl | assumption) ?_
  first | refine s_on rfl rfl (by first | rfl | assumption) (by first | exact h_load_one rfl rfl rfl Try.isAgg29 | exact h_load rfl rfl rfl Try.isAgg29) ?_ | refine s_off rfl rfl (by first | rfl | assumption) ?_
  first | refine s_on rfl rfl (by first | rfl | assumption) (by first | exact h_len rfl Try.underlying29 | exact h_len_nil rfl Try.underlying29 | exact h_len_val rfl Try.underlying29) ?_ | refine s_off rfl rfl (by first | rfl | assumption) ?_
  first | refine s_on rfl rfl (by first | rfl | assumption) (h_bin rfl rfl (b_gtr rfl)) ?_ | refine s_off rfl rfl (by first | rfl | assumption) ?_
  refine s_p (by first | exact h_pick_t rfl (by first | rfl | assumption) rfl | exact h_pick_f rfl (by first | rfl | assumption) rfl) ?_
  refine s_nil ?_
  refine n_wp ?_
  refine w_cond rfl (fun hc_t19 => ?_) (fun hc_t19 => ?_)
  · exact absurd hc_t19 (by first | exact fun h => Bool.false_ne_true (hB.symm.trans h) | exact fun h => Bool.false_ne_true (hN1.symm.trans h) | exact fun h => Bool.false_ne_true (hA.symm.trans h) | exact fun h => Bool.false_ne_true (hN0.symm.trans h) | simp)
  refine w_skip ?_
  refine n_wp ?_
  refine w_seq ?_
  refine c_reg (by kernel_rfl) rfl ?_
  refine s_p (by first | exact h_load_agg rfl rfl (.whole rfl) Try.isAgg22 Try.sizeOf22 | exact h_load_agg rfl rfl (.seg rfl rfl) Try.isAgg22 Try.sizeOf22 | exact h_load_agg rfl rfl (.ints rfl (by omega)) Try.isAgg22 Try.sizeOf22) ?_
  refine s_p (by first | exact h_load_agg rfl rfl (.whole rfl) Try.isAgg22 Try.sizeOf22 | exact h_load_agg rfl rfl (.seg rfl rfl) Try.isAgg22 Try.sizeOf22 | exact h_load_agg rfl rfl (.ints rfl (by omega)) Try.isAgg22 Try.sizeOf22) ?_
  refine s_p (h_ixl 0 rfl rfl rfl Try.underlying38 Try.sizeOf29 (by omega)) ?_
  refine s_p (by first | exact h_load_one rfl rfl rfl Try.isAgg29 | exact h_load rfl rfl rfl Try.isAgg29) ?_
  refine s_p (h_call callable_26 rfl (stream_e key first a0 cap0 _)) ?_
  refine s_p (by first | exact h_assign (v := .s _) rfl | exact h_assign (v := .agg _) rfl | exact h_assign (v := .tup _) rfl) ?_
  refine s_nil ?_
  refine n_wp ?_
  refine w_seq ?_
  refine c_reg (by kernel_rfl) rfl ?_
  refine s_p (by first | exact h_load_agg rfl rfl (.whole rfl) Try.isAgg22 Try.sizeOf22 | exact h_load_agg rfl rfl (.seg rfl rfl) Try.isAgg22 Try.sizeOf22 | exact h_load_agg rfl rfl (.ints rfl (by omega)) Try.isAgg22 Try.sizeOf22) ?_
  refine s_p (by first | exact h_load_agg rfl rfl (.whole rfl) Try.isAgg22 Try.sizeOf22 | exact h_load_agg rfl rfl (.seg rfl rfl) Try.isAgg22 Try.sizeOf22 | exact h_load_agg rfl rfl (.ints rfl (by omega)) Try.isAgg22 Try.sizeOf22) ?_
  refine s_p (h_ixl 1 rfl rfl rfl Try.underlying38 Try.sizeOf29 (by omega)) ?_
  refine s_p (by first | exact h_load_one rfl rfl rfl Try.isAgg29 | exact h_load rfl rfl rfl Try.isAgg29) ?_
  refine s_p (h_call callable_26 rfl (stream_e key first a1 cap1 _)) ?_
  refine s_p (by first | exact h_assign (v := .s _) rfl | exact h_assign (v := .agg _) rfl | exact h_assign (v := .tup _) rfl) ?_
  refine s_nil ?_
  refine n_wp ?_
  refine w_seq ?_
  refine w_seq ?_
  refine c_reg (by kernel_rfl) rfl ?_
  refine s_p (by first | exact h_move (v := .s _) rfl | exact h_move (v := .agg _) rfl | exact h_move (v := .tup _) rfl) ?_
  refine s_p (by first | exact h_len rfl Try.underlying29 | exact h_len_nil rfl Try.underlying29 | exact h_len_val rfl Try.underlying29) ?_
  refine s_p (h_ixl 0 rfl rfl rfl Try.underlying38 Try.sizeOf29 (by omega)) ?_
  refine s_p (by first | exact h_load_one rfl rfl rfl Try.isAgg29 | exact h_load rfl rfl rfl Try.isAgg29) ?_
  refine s_p (by first | exact h_len rfl Try.underlying29 | exact h_len_nil rfl Try.underlying29 | exact h_len_val rfl Try.underlying29) ?_
  refine s_p (h_bin rfl rfl (b_neq rfl)) ?_
  refine s_p (by first | exact h_move (v := .s _) rfl | exact h_move (v := .agg _) rfl | exact h_move (v := .tup _) rfl) ?_
  first | refine s_on rfl rfl (by first | rfl | assumption) (by first | exact h_move (v := .s _) rfl | exact h_move (v := .agg _) rfl | exact h_move (v := .tup _) rfl) ?_ | refine s_off rfl rfl (by first | rfl | assumption) ?_
  first | refine s_on rfl rfl (by first | rfl | assumption) (by first | exact h_len rfl Try.underlying29 | exact h_len_nil rfl Try.underlying29 | exact h_len_val rfl Try.underlying29) ?_ | refine s_off rfl rfl (by first | rfl | assumption) ?_
  first | refine s_on rfl rfl (by first | rfl | assumption) (h_ixl 1 rfl rfl rfl Try.underlying38 Try.sizeOf29 (by omega)) ?_ | refine s_off rfl rfl (by first | rfl | assumption) ?_
  first | refine s_on rfl rfl (by first | rfl | assumption) (by first | exact h_load_one rfl rfl rfl Try.isAgg29 | exact h_load rfl rfl rfl Try.isAgg29) ?_ | refine s_off rfl rfl (by first | rfl | assumption) ?_
  first | refine s_on rfl rfl (by first | rfl | assumption) (by first | exact h_len rfl Try.underlying29 | exact h_len_nil rfl Try.underlying29 | exact h_len_val rfl Try.underlying29) ?_ | refine s_off rfl rfl (by first | rfl | assumption) ?_
  first | refine s_on rfl rfl (by first | rfl | assumption) (h_bin rfl rfl (b_neq rfl)) ?_ | refine s_off rfl rfl (by first | rfl | assumption) ?_
  refine s_p (by first | exact h_pick_t rfl (by first | rfl | assumption) rfl | exact h_pick_f rfl (by first | rfl | assumption) rfl) ?_
  refine s_nil ?_
  refine n_wp ?_
  refine w_cond rfl (fun hc_t44 => ?_) (fun hc_t44 => ?_)
  · exact absurd hc_t44 (by first | exact fun h => Bool.false_ne_true (hB.symm.trans h) | exact fun h => Bool.false_ne_true (hN1.symm.trans h) | exact fun h => Bool.false_ne_true (hA.symm.trans h) | exact fun h => Bool.false_ne_true (hN0.symm.trans h) | simp)
  refine w_skip ?_
  refine n_wp ?_
  refine w_seq ?_
  refine w_seq ?_
  refine c_reg (by kernel_rfl) rfl ?_
  refine s_p (by first | exact h_assign (v := .s _) rfl | exact h_assign (v := .agg _) rfl | exact h_assign (v := .tup _) rfl) ?_
  refine s_nil ?_
  refine n_wp ?_
  refine w_block ?_
  refine c_loop (I7ee cap0 cap1 a0 a1 key first ) 0 ⟨0, by omega, rfl, rfl, rfl⟩ (weak' (by repeat (first | exact trivial | refine ⟨rfl, ?_⟩)) rfl rfl (Nat.le_of_ble_eq_true rfl)) ?_
  rintro n T H ⟨k, hk, rfl, rfl, rfl⟩
  refine w_seq ?_
  refine w_seq ?_
  have hg0 : decide ((k : Int) < 0) = false := decide_eq_false (by omega)
  refine c_reg (by kernel_rfl) rfl ?_
  refine s_p (by first | exact h_move (v := .s _) rfl | exact h_move (v := .agg _) rfl | exact h_move (v := .tup _) rfl) ?_
  refine s_p (by first | exact h_move (v := .s _) rfl | exact h_move (v := .agg _) rfl | exact h_move (v := .tup _) rfl) ?_
  refine s_p (by first | exact h_len rfl Try.underlying29 | exact h_len_nil rfl Try.underlying29 | exact h_len_val rfl Try.underlying29) ?_
  refine s_p (h_bin rfl rfl (b_lss rfl)) ?_
  refine s_p (by first | exact h_move (v := .s _) rfl | exact h_move (v := .agg _) rfl | exact h_move (v := .tup _) rfl) ?_
  first | refine s_on rfl rfl (by first | rfl | assumption) (by first | exact h_move (v := .s _) rfl | exact h_move (v := .agg _) rfl | exact h_move (v := .tup _) rfl) ?_ | refine s_off rfl rfl (by first | rfl | assumption) ?_
  first | refine s_on rfl rfl (by first | rfl | assumption) (by first | exact h_move (v := .s _) rfl | exact h_move (v := .agg _) rfl | exact h_move (v := .tup _) rfl) ?_ | refine s_off rfl rfl (by first | rfl | assumption) ?_
  first | refine s_on rfl rfl (by first | rfl | assumption) (by first | exact h_len rfl Try.underlying29 | exact h_len_nil rfl Try.underlying29 | exact h_len_val rfl Try.underlying29) ?_ | refine s_off rfl rfl (by first | rfl | assumption) ?_
  first | refine s_on rfl rfl (by first | rfl | assumption) (h_bin rfl rfl (b_lss rfl)) ?_ | refine s_off rfl rfl (by first | rfl | assumption) ?_
  refine s_p (by first | exact h_pick_t rfl (by first | rfl | assumption) rfl | exact h_pick_f rfl (by first | rfl | assumption) rfl) ?_
  refine s_nil ?_
  refine n_wp ?_
  refine w_cond rfl (fun hc_t54 => ?_) (fun hc_t54 => ?_)
  · exact absurd hc_t54 (by first | exact fun h => Bool.false_ne_true (hg0.symm.trans h) | simp)
  refine w_exit ?_
  refine x_thn ?_
  refine x_thn ?_
  refine x_eq ?_
  refine n_wp ?_
  refine w_seq ?_
  refine c_reg (by kernel_rfl) rfl ?_
  refine s_p (h_call callable_25 rfl (lives_c _)) ?_
  refine s_p (by first | exact h_assign (v := .s _) rfl | exact h_assign (v := .agg _) rfl | exact h_assign (v := .tup _) rfl) ?_
  refine s_nil ?_
  refine n_wp ?_
  refine w_ret ?_
  exact ⟨.inl rfl, ret_tmp Try.results7 rfl⟩
set_option maxRecDepth 100000 in
theorem against_long0 (key first : List Int) (a0 a1 : Option Addr) (n0 c0 n1 c1 : Nat) (hl : 3000 < n0) (H : Heap) : ACall Try.prog 7 H [.agg [.ints .u8 16 key], .agg [.ints .u8 16 first], .agg [.one (.val (.slice a0 n0 c0)), .one (.val (.slice a1 n1 c1))]] (.s (.bool true)) [] := by
  have hA : decide ((n0 : Int) > 3000) = true := decide_eq_true (by omega)
  refine acall_free Try.func7 rfl Try.ntmps7 (by simp) rfl rfl (fun W w hW => ?_) H
  refine w_seq ?_
  refine c_reg (by kernel_rfl) rfl ?_
  refine s_a (by first | exact h_box_agg rfl rfl | exact h_box rfl (by simp) rfl) rfl ?_
  refine s_a (by first | exact h_box_agg rfl rfl | exact h_box rfl (by simp) rfl) rfl ?_
  refine s_a (by first | exact h_box_agg rfl rfl | exact h_box rfl (by simp) rfl) rfl ?_
  refine s_p (by first | exact h_assign (v := .s _) rfl | exact h_assign (v := .agg _) rfl | exact h_assign (v := .tup _) rfl) ?_
  refine s_nil ?_
  refine n_wp ?_
  refine w_seq ?_
  refine w_seq ?_
  refine c_reg (by kernel_rfl) rfl ?_
  refine s_p (h_ixl 0 rfl rfl rfl Try.underlying38 Try.sizeOf29 (by omega)) ?_
  refine s_p (by first | exact h_load_one rfl rfl rfl Try.isAgg29 | exact h_load rfl rfl rfl Try.isAgg29) ?_
  refine s_p (by first | exact h_len rfl Try.underlying29 | exact h_len_nil rfl Try.underlying29 | exact h_len_val rfl Try.underlying29) ?_
  refine s_p (h_bin rfl rfl (b_gtr rfl)) ?_
  refine s_p (by first | exact h_move (v := .s _) rfl | exact h_move (v := .agg _) rfl | exact h_move (v := .tup _) rfl) ?_
  first | refine s_on rfl rfl (by first | rfl | assumption) (h_ixl 1 rfl rfl rfl Try.underlying38 Try.sizeOf29 (by omega)) ?_ | refine s_off rfl rfl (by first | rfl | assumption) ?_
  first | refine s_on rfl rfl (by first | rfl | assumption) (by first | exact h_load_one rfl rfl rfl Try.isAgg29 | exact h_load rfl rfl rfl Try.isAgg29) ?_ | refine s_off rfl rfl (by first | rfl | assumption) ?_
  first | refine s_on rfl rfl (by first | rfl | assumption) (by first | exact h_len rfl Try.underlying29 | exact h_len_nil rfl Try.underlying29 | exact h_len_val rfl Try.underlying29) ?_ | refine s_off rfl rfl (by first | rfl | assumption) ?_
  first | refine s_on rfl rfl (by first | rfl | assumption) (h_bin rfl rfl (b_gtr rfl)) ?_ | refine s_off rfl rfl (by first | rfl | assumption) ?_
  refine s_p (by first | exact h_pick_t rfl (by first | rfl | assumption) rfl | exact h_pick_f rfl (by first | rfl | assumption) rfl) ?_
  refine s_nil ?_
  refine n_wp ?_
  refine w_cond rfl (fun hc_t19 => ?_) (fun hc_t19 => ?_)
  rotate_left
  · exact absurd hc_t19 (by first | exact fun h => Bool.false_ne_true (h.symm.trans hA) | exact fun h => Bool.false_ne_true (h.symm.trans hB) | simp)
  refine w_seq ?_
  refine c_reg (by kernel_rfl) rfl ?_
  refine s_p (h_call callable_25 rfl (lives_c _)) ?_
  refine s_p (by first | exact h_assign (v := .s _) rfl | exact h_assign (v := .agg _) rfl | exact h_assign (v := .tup _) rfl) ?_
  refine s_nil ?_
  refine n_wp ?_
  refine w_ret ?_
  refine r_thn ?_
  exact ⟨.inl rfl, ret_tmp Try.results7 rfl⟩
set_option maxRecDepth 100000 in
theorem against_long1 (key first : List Int) (a0 a1 : Option Addr) (n0 c0 n1 c1 : Nat) (hl0 : n0 ≤ 3000) (hl : 3000 < n1) (H : Heap) : ACall Try.prog 7 H [.agg [.ints .u8 16 key], .agg [.ints .u8 16 first], .agg [.one (.val (.slice a0 n0 c0)), .one (.val (.slice a1 n1 c1))]] (.s (.bool true)) [] := by
  have hA : decide ((n0 : Int) > 3000) = false := decide_eq_false (by omega)
  have hB : decide ((n1 : Int) > 3000) = true := decide_eq_true (by omega)
  refine acall_free Try.func7 rfl Try.ntmps7 (by simp) rfl rfl (fun W w hW => ?_) H
  refine w_seq ?_
  refine c_reg (by kernel_rfl) rfl ?_
  refine s_a (by first | exact h_box_agg rfl rfl | exact h_box rfl (by simp) rfl) rfl ?_
  refine s_a (by first | exact h_box_agg rfl rfl | exact h_box rfl (by simp) rfl) rfl ?_
  refine s_a (by first | exact h_box_agg rfl rfl | exact h_box rfl (by simp) rfl) rfl ?_
  refine s_p (by first | exact h_assign (v := .s _) rfl | exact h_assign (v := .agg _) rfl | exact h_assign (v := .tup _) rfl) ?_
  refine s_nil ?_
  refine n_wp ?_
  refine w_seq ?_
  refine w_seq ?_
  refine c_reg (by kernel_rfl) rfl ?_
  refine s_p (h_ixl 0 rfl rfl rfl Try.underlying38 Try.sizeOf29 (by omega)) ?_
  refine s_p (by first | exact h_load_one rfl rfl rfl Try.isAgg29 | exact h_load rfl rfl rfl Try.isAgg29) ?_
  refine s_p (by first | exact h_len rfl Try.underlying29 | exact h_len_nil rfl Try.underlying29 | exact h_len_val rfl Try.underlying29) ?_
  refine s_p (h_bin rfl rfl (b_gtr rfl)) ?_
  refine s_p (by first | exact h_move (v := .s _) rfl | exact h_move (v := .agg _) rfl | exact h_move (v := .tup _) rfl) ?_
  first | refine s_on rfl rfl (by first | rfl | assumption) (h_ixl 1 rfl rfl rfl Try.underlying38 Try.sizeOf29 (by omega)) ?_ | refine s_off rfl rfl (by first | rfl | assumption) ?_
  first | refine s_on rfl rfl (by first | rfl | assumption) (by first | exact h_load_one rfl rfl rfl Try.isAgg29 | exact h_load rfl rfl rfl Try.isAgg29) ?_ | refine s_off rfl rfl (by first | rfl | assumption) ?_
  first | refine s_on rfl rfl (by first | rfl | assumption) (by first | exact h_len rfl Try.underlying29 | exact h_len_nil rfl Try.underlying29 | exact h_len_val rfl Try.underlying29) ?_ | refine s_off rfl rfl (by first | rfl | assumption) ?_
  first | refine s_on rfl rfl (by first | rfl | assumption) (h_bin rfl rfl (b_gtr rfl)) ?_ | refine s_off rfl rfl (by first | rfl | assumption) ?_
  refine s_p (by first | exact h_pick_t rfl (by first | rfl | assumption) rfl | exact h_pick_f rfl (by first | rfl | assumption) rfl) ?_
  refine s_nil ?_
  refine n_wp ?_
  refine w_cond rfl (fun hc_t19 => ?_) (fun hc_t19 => ?_)
  rotate_left
  · exact absurd hc_t19 (by first | exact fun h => Bool.false_ne_true (h.symm.trans hA) | exact fun h => Bool.false_ne_true (h.symm.trans hB) | simp)
  refine w_seq ?_
  refine c_reg (by kernel_rfl) rfl ?_
  refine s_p (h_call callable_25 rfl (lives_c _)) ?_
  refine s_p (by first | exact h_assign (v := .s _) rfl | exact h_assign (v := .agg _) rfl | exact h_assign (v := .tup _) rfl) ?_
  refine s_nil ?_
  refine n_wp ?_
  refine w_ret ?_
  refine r_thn ?_
  exact ⟨.inl rfl, ret_tmp Try.results7 rfl⟩
end Go.Proofs.X
end
