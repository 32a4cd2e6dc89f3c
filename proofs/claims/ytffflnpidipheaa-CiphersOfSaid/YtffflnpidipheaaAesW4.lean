/- A part of the proofs of this claim: AesW4. No conditions. -/
import Derived.Test.YtffflnpidipheaaAesW3
open Go Go.Ab Go.Proofs
namespace Go.Proofs.X
def I50 (K b : List Int) (n : Nat) (T : Tm) (H : Heap) : Prop := ∃ r : Nat, r ≤ 9 ∧ n = 9 - r ∧
  T = [(0, .s (.ptr 0 0 0)), (3, .s (.ptr 1 0 0)), (4, .s (.ptr 2 0 0)), (5, .s (.int .i64 (r + 1)))] ∧
  H = [some ⟨false, [.ints .u8 256 SB, .ints .u8 256 BK, .ints .u8 176 K]⟩, some ⟨true, [.ints .u8 16 (enc SB K b r)]⟩, some ⟨true, [.ints .u8 16 (z 16)]⟩]
def I50b (K x : List Int) (r : Nat) (n : Nat) (T : Tm) (H : Heap) : Prop := ∃ i : Nat, i ≤ 16 ∧ n = 16 - i ∧
  T = [(0, .s (.ptr 0 0 0)), (3, .s (.ptr 1 0 0)), (4, .s (.ptr 2 0 0)), (5, .s (.int .i64 (r + 1))), (6, .s (.ptr 3 0 0)), (15, .s (.int .i64 i))] ∧
  H = [some ⟨false, [.ints .u8 256 SB, .ints .u8 256 BK, .ints .u8 176 K]⟩, some ⟨true, [.ints .u8 16 x]⟩, some ⟨true, [.ints .u8 16 (z 16)]⟩, some ⟨true, [.ints .u8 16 (subTo SB x i)]⟩]
set_option maxRecDepth 100000 in
set_option maxHeartbeats 2000000 in
theorem block_c (K b : List Int) (hb : b.length = 16) (hu : U8 b) (H : Heap) (id : Nat) (bk : Blk) (hid : H[id]? = some (some bk)) (hm : bk.segs = (mblk K).segs) : ACall Try.prog 50 H [.s (.ptr id 0 0), .agg [.ints .u8 16 b]] (.agg [.ints .u8 16 (blockL SB K b)]) [] := by
  refine acall_gen (args0 := [.s (.ptr 0 0 0), .agg [.ints .u8 16 b]]) (H0 := [some ⟨false, [.ints .u8 256 SB, .ints .u8 256 BK, .ints .u8 176 K]⟩]) (vf := (fun _ => .agg [.ints .u8 16 (blockL SB K b)])) [(id, 0)] Try.func50 rfl Try.ntmps50 (by simp) rfl (foot1 rfl hid (fun i x h => by rw [hm, Nat.zero_add]; exact h) rfl) rfl (fun i x0 x h0 h1 ρ u hr => by match i, h0, h1 with | 0, h0, h1 => (simp at h0 h1; subst h0; subst h1; exact arg_ptr (by rfl) hr) | 1, h0, h1 => (simp at h0 h1; subst h0; subst h1; exact arg_free rfl hr) | i + 2, h0, _ => simp at h0) rfl (ren_free rfl) (fun W w ρ0 hW hdom => ?_)
  refine w_seq ?_
  refine c_reg (by kernel_rfl) rfl ?_
  refine s_a (by first | exact h_box_agg rfl rfl | exact h_box rfl (by simp) rfl) rfl ?_
  refine s_a (h_alloc (segs := [.ints .u8 16 (z 16)]) Try.zeroValue22 (by kernel_rfl) rfl) rfl ?_
  refine s_nil ?_
  refine n_wp ?_
  refine w_scope ?_
  refine w_seq ?_
  refine c_any 6 mix (by kernel_rfl) (by kernel_rfl) rfl rfl rfl ?_
  refine t_p (by first | exact h_load_agg rfl rfl (.whole rfl) Try.isAgg22 Try.sizeOf22 | exact h_load_agg rfl rfl (.seg rfl rfl) Try.isAgg22 Try.sizeOf22 | exact h_load_agg rfl rfl (.ints rfl (by omega)) Try.isAgg22 Try.sizeOf22) ?_
  refine t_p (by first | exact h_move (v := .s _) rfl | exact h_move (v := .agg _) rfl | exact h_move (v := .tup _) rfl) ?_
  refine t_p (h_nilCheck rfl) ?_
  refine t_p (h_field rfl Try.underlying130 rfl Try.sizeOf128 (by decide)) ?_
  refine t_p (by first | exact h_ixwl 0 rfl rfl rfl Try.underlying128 Try.sizeOf22 (by omega) | exact h_ixgl 0 rfl rfl rfl Try.underlying128 Try.sizeOf22 (by omega)) ?_
  refine t_p (by first | exact h_load_agg rfl rfl (.whole rfl) Try.isAgg22 Try.sizeOf22 | exact h_load_agg rfl rfl (.seg rfl rfl) Try.isAgg22 Try.sizeOf22 | exact h_load_agg rfl rfl (.ints rfl (by omega)) Try.isAgg22 Try.sizeOf22) ?_
  refine t_nil ?_
  refine s_p (h_call callable_71 rfl (against_c _ _ (by first | assumption | exact enc_len _ _ _ hb _ | exact subTo_len _ _ _ | exact (mixI_len _).trans (by assumption) | exact xor16_len _ _) _)) ?_
  refine s_st (by first | exact m_store_agg rfl rfl rfl (.whole (Nat.le_of_ble_eq_true rfl) rfl rfl) Try.sizeOf22 rfl | exact m_store_agg rfl rfl rfl (.seg (Nat.le_of_ble_eq_true rfl) rfl rfl rfl) Try.sizeOf22 rfl | exact m_store_agg rfl rfl rfl (.ints (Nat.le_of_ble_eq_true rfl) rfl (by omega)) Try.sizeOf22 rfl) ?_
  refine s_nil ?_
  refine n_wp ?_
  refine w_seq ?_
  refine c_reg (by kernel_rfl) rfl ?_
  refine s_p (by first | exact h_assign (v := .s _) rfl | exact h_assign (v := .agg _) rfl | exact h_assign (v := .tup _) rfl) ?_
  refine s_nil ?_
  refine n_wp ?_
  refine w_seq ?_
  refine w_label ?_
  refine n_wp ?_
  refine w_seq ?_
  refine w_block ?_
  refine c_loop (I50 K b) 9 ⟨0, by omega, rfl, rfl, rfl⟩ (weak' (by repeat (first | exact trivial | refine ⟨rfl, ?_⟩)) rfl rfl (Nat.le_of_ble_eq_true rfl)) ?_
  rintro n T H ⟨r, hr, rfl, rfl, rfl⟩
  refine w_block ?_
  refine w_seq ?_
  refine c_reg (by kernel_rfl) rfl ?_
  refine s_a (h_alloc (segs := [.ints .u8 16 (z 16)]) Try.zeroValue22 (by kernel_rfl) rfl) rfl ?_
  refine s_nil ?_
  refine n_wp ?_
  refine w_seq ?_
  refine w_seq ?_
  refine c_reg (by kernel_rfl) rfl ?_
  refine s_p (by first | exact h_move (v := .s _) rfl | exact h_move (v := .agg _) rfl | exact h_move (v := .tup _) rfl) ?_
  refine s_nil ?_
  refine n_wp ?_
  refine w_block ?_
  refine c_loop (I50b K (enc SB K b r) r) 16 ⟨0, by omega, rfl, rfl, rfl⟩ (weak' (by repeat (first | exact trivial | refine ⟨rfl, ?_⟩)) rfl rfl (Nat.le_of_ble_eq_true rfl)) ?_
  rintro n T H ⟨i, hi, rfl, rfl, rfl⟩
  refine w_seq ?_
  refine c_reg (by kernel_rfl) rfl ?_
  refine s_p (h_bin rfl rfl (b_lss rfl)) ?_
  refine s_nil ?_
  refine n_wp ?_
  refine w_seq ?_
  refine w_cond rfl (fun hc_t16 => ?_) (fun hc_t16 => ?_)
  · skip
    have hlt : i < 16 := by have := of_decide_eq_true hc_t16; omega
    refine w_skip ?_
    refine n_wp ?_
    refine w_seq ?_
    refine w_block ?_
    refine w_seq ?_
    refine c_reg (by kernel_rfl) rfl ?_
    refine s_p (by first | exact h_move (v := .s _) rfl | exact h_move (v := .agg _) rfl | exact h_move (v := .tup _) rfl) ?_
    refine s_p (by first | exact h_assign (v := .s _) rfl | exact h_assign (v := .agg _) rfl | exact h_assign (v := .tup _) rfl) ?_
    refine s_nil ?_
    refine n_wp ?_
    have hx := U8_enc (K := K) U8_SB hu r
    have e1 := (hx ((i + 4 * (i % 4)) % 16)).1
    have e2 := (hx ((i + 4 * (i % 4)) % 16)).2
    refine c_any 10 mix (by kernel_rfl) (by kernel_rfl) rfl rfl rfl ?_
    refine t_p (by first | exact h_move (v := .s _) rfl | exact h_move (v := .agg _) rfl | exact h_move (v := .tup _) rfl) ?_
    refine t_p (by first | exact h_move (v := .s _) rfl | exact h_move (v := .agg _) rfl | exact h_move (v := .tup _) rfl) ?_
    refine t_p (by first | exact h_move (v := .s _) rfl | exact h_move (v := .agg _) rfl | exact h_move (v := .tup _) rfl) ?_
    refine t_p (h_call callable_72 rfl (place_c i (by omega) _)) ?_
    refine t_p (by first | exact h_ix rfl rfl Try.underlying22 Try.sizeOf5 (by omega) | exact h_ixa rfl rfl Try.underlying22 Try.sizeOf5 (by omega) | exact h_ixl (Int.toNat _) rfl rfl (Int.toNat_of_nonneg (by omega)).symm Try.underlying22 Try.sizeOf5 (by omega)) ?_
    refine t_p (by first | exact h_load_ints rfl rfl rfl (by omega) rfl Try.isAgg5 | exact h_load_one rfl rfl rfl Try.isAgg5) ?_
    refine t_p (h_nilCheck rfl) ?_
    refine t_p (h_field rfl Try.underlying130 rfl Try.sizeOf102 (by decide)) ?_
    refine t_p (by first | exact h_ix rfl rfl Try.underlying102 Try.sizeOf5 (by omega) | exact h_ixa rfl rfl Try.underlying102 Try.sizeOf5 (by omega) | exact h_ixl (Int.toNat _) rfl rfl (Int.toNat_of_nonneg (by omega)).symm Try.underlying102 Try.sizeOf5 (by omega)) ?_
    refine t_p (by first | exact h_load_ints rfl rfl rfl (by omega) rfl Try.isAgg5 | exact h_load_one rfl rfl rfl Try.isAgg5) ?_
    refine t_nil ?_
    refine s_p (by first | exact h_ix rfl rfl Try.underlying22 Try.sizeOf5 (by omega) | exact h_ixa rfl rfl Try.underlying22 Try.sizeOf5 (by omega) | exact h_ixl (Int.toNat _) rfl rfl (Int.toNat_of_nonneg (by omega)).symm Try.underlying22 Try.sizeOf5 (by omega)) ?_
    refine s_st (by first | exact m_store_int rfl rfl rfl rfl (by omega) (by (exact subTo_len _ _ _)) Try.sizeOf5 rfl | exact m_store_one rfl rfl (by simp) rfl rfl Try.sizeOf5 rfl) ?_
    refine s_nil ?_
    refine n_blo ?_
    refine n_wp ?_
    refine c_reg (by kernel_rfl) rfl ?_
    refine s_p (by first | exact h_bin rfl rfl (b_add (Go.IntWalk.i64_in _ (by omega))) | exact h_bin rfl rfl (b_add rfl)) ?_
    refine s_p (by first | exact h_move (v := .s _) rfl | exact h_move (v := .agg _) rfl | exact h_move (v := .tup _) rfl) ?_
    refine s_nil ?_
    exact n_round (16 - (i + 1)) (by omega) ⟨i + 1, by omega, rfl, rfl, rfl⟩ (weak' (by repeat (first | exact trivial | refine ⟨rfl, ?_⟩)) rfl rfl (Nat.le_of_ble_eq_true rfl))
  · skip
    obtain rfl : i = 16 := by have := of_decide_eq_false hc_t16; omega
    have hen : enc SB K b (r + 1) = xor16 (mixI (subTo SB (enc SB K b r) 16)) (kwas K (r + 1)) := rfl
    have hfin : r = 9 → blockL SB K b = xor16 (subTo SB (enc SB K b r) 16) (kwas K (r + 1)) := fun e => by rw [e]; exact blockL_def _ _ _
    have hsl := subTo_len SB (enc SB K b r) 16
    generalize subTo SB (enc SB K b r) 16 = q at *
    unfold kwas at hen hfin
    refine w_exit ?_
    refine x_thn ?_
    refine x_thn ?_
    refine x_eq ?_
    refine n_wp ?_
    refine w_seq ?_
    refine w_seq ?_
    refine c_reg (by kernel_rfl) rfl ?_
    refine s_p (by first | exact h_move (v := .s _) rfl | exact h_move (v := .agg _) rfl | exact h_move (v := .tup _) rfl) ?_
    refine s_p (h_bin rfl rfl (b_eql rfl)) ?_
    refine s_nil ?_
    refine n_wp ?_
    refine w_cond rfl (fun hc_t31 => ?_) (fun hc_t31 => ?_)
    · skip
      have hr9 : r = 9 := by have := of_decide_eq_true hc_t31; omega
      rw [hfin hr9]
      refine w_seq ?_
      refine c_any 7 mix (by kernel_rfl) (by kernel_rfl) rfl rfl rfl ?_
      refine t_p (by first | exact h_load_agg rfl rfl (.whole rfl) Try.isAgg22 Try.sizeOf22 | exact h_load_agg rfl rfl (.seg rfl rfl) Try.isAgg22 Try.sizeOf22 | exact h_load_agg rfl rfl (.ints rfl (by omega)) Try.isAgg22 Try.sizeOf22) ?_
      refine t_p (by first | exact h_move (v := .s _) rfl | exact h_move (v := .agg _) rfl | exact h_move (v := .tup _) rfl) ?_
      refine t_p (by first | exact h_move (v := .s _) rfl | exact h_move (v := .agg _) rfl | exact h_move (v := .tup _) rfl) ?_
      refine t_p (h_nilCheck rfl) ?_
      refine t_p (h_field rfl Try.underlying130 rfl Try.sizeOf128 (by decide)) ?_
      refine t_p (h_ixwl (r + 1) rfl rfl (by omega) Try.underlying128 Try.sizeOf22 (by omega)) ?_
      refine t_p (by first | exact h_load_agg rfl rfl (.whole rfl) Try.isAgg22 Try.sizeOf22 | exact h_load_agg rfl rfl (.seg rfl rfl) Try.isAgg22 Try.sizeOf22 | exact h_load_agg rfl rfl (.ints rfl (by omega)) Try.isAgg22 Try.sizeOf22) ?_
      refine t_nil ?_
      refine s_p (h_call callable_71 rfl (against_c _ _ (by first | assumption | exact enc_len _ _ _ hb _ | exact subTo_len _ _ _ | exact (mixI_len _).trans (by assumption) | exact xor16_len _ _) _)) ?_
      refine s_st (by first | exact m_store_agg rfl rfl rfl (.whole (Nat.le_of_ble_eq_true rfl) rfl rfl) Try.sizeOf22 rfl | exact m_store_agg rfl rfl rfl (.seg (Nat.le_of_ble_eq_true rfl) rfl rfl rfl) Try.sizeOf22 rfl | exact m_store_agg rfl rfl rfl (.ints (Nat.le_of_ble_eq_true rfl) rfl (by omega)) Try.sizeOf22 rfl) ?_
      refine s_nil ?_
      refine n_wp ?_
      refine w_exit ?_
      refine x_thn ?_
      refine x_ne rfl ?_
      refine x_thn ?_
      refine x_eq ?_
      refine n_wp ?_
      refine w_seq ?_
      refine c_reg (by kernel_rfl) rfl ?_
      refine s_p (by first | exact h_load_agg rfl rfl (.whole rfl) Try.isAgg22 Try.sizeOf22 | exact h_load_agg rfl rfl (.seg rfl rfl) Try.isAgg22 Try.sizeOf22 | exact h_load_agg rfl rfl (.ints rfl (by omega)) Try.isAgg22 Try.sizeOf22) ?_
      refine s_st (by first | exact m_store_agg rfl rfl rfl (.whole (Nat.le_of_ble_eq_true rfl) rfl rfl) Try.sizeOf22 rfl | exact m_store_agg rfl rfl rfl (.seg (Nat.le_of_ble_eq_true rfl) rfl rfl rfl) Try.sizeOf22 rfl | exact m_store_agg rfl rfl rfl (.ints (Nat.le_of_ble_eq_true rfl) rfl (by omega)) Try.sizeOf22 rfl) ?_
      refine s_nil ?_
      refine n_wp ?_
      refine w_ret ?_
      refine r_sco ?_
      refine done0 ?_
      exact ret_cell_agg Try.results50 rfl rfl (.whole rfl) Try.isAgg22 Try.sizeOf22
    · skip
      have hr9 : r < 9 := by have := of_decide_eq_false hc_t31; omega
      refine w_skip ?_
      refine n_wp ?_
      refine w_seq ?_
      refine c_any 8 mix (by kernel_rfl) (by kernel_rfl) rfl rfl rfl ?_
      refine t_p (by first | exact h_load_agg rfl rfl (.whole rfl) Try.isAgg22 Try.sizeOf22 | exact h_load_agg rfl rfl (.seg rfl rfl) Try.isAgg22 Try.sizeOf22 | exact h_load_agg rfl rfl (.ints rfl (by omega)) Try.isAgg22 Try.sizeOf22) ?_
      refine t_p (h_call callable_73 rfl (mixed_c _ (by first | assumption | exact enc_len _ _ _ hb _ | exact subTo_len _ _ _ | exact (mixI_len _).trans (by assumption) | exact xor16_len _ _) _)) ?_
      refine t_p (by first | exact h_move (v := .s _) rfl | exact h_move (v := .agg _) rfl | exact h_move (v := .tup _) rfl) ?_
      refine t_p (by first | exact h_move (v := .s _) rfl | exact h_move (v := .agg _) rfl | exact h_move (v := .tup _) rfl) ?_
      refine t_p (h_nilCheck rfl) ?_
      refine t_p (h_field rfl Try.underlying130 rfl Try.sizeOf128 (by decide)) ?_
      refine t_p (h_ixwl (r + 1) rfl rfl (by omega) Try.underlying128 Try.sizeOf22 (by omega)) ?_
      refine t_p (by first | exact h_load_agg rfl rfl (.whole rfl) Try.isAgg22 Try.sizeOf22 | exact h_load_agg rfl rfl (.seg rfl rfl) Try.isAgg22 Try.sizeOf22 | exact h_load_agg rfl rfl (.ints rfl (by omega)) Try.isAgg22 Try.sizeOf22) ?_
      refine t_nil ?_
      refine s_p (h_call callable_71 rfl (against_c _ _ (by first | assumption | exact enc_len _ _ _ hb _ | exact subTo_len _ _ _ | exact (mixI_len _).trans (by assumption) | exact xor16_len _ _) _)) ?_
      refine s_st (by first | exact m_store_agg rfl rfl rfl (.whole (Nat.le_of_ble_eq_true rfl) rfl rfl) Try.sizeOf22 rfl | exact m_store_agg rfl rfl rfl (.seg (Nat.le_of_ble_eq_true rfl) rfl rfl rfl) Try.sizeOf22 rfl | exact m_store_agg rfl rfl rfl (.ints (Nat.le_of_ble_eq_true rfl) rfl (by omega)) Try.sizeOf22 rfl) ?_
      refine s_nil ?_
      refine n_wp ?_
      refine c_reg (by kernel_rfl) rfl ?_
      refine s_p (by first | exact h_move (v := .s _) rfl | exact h_move (v := .agg _) rfl | exact h_move (v := .tup _) rfl) ?_
      refine s_p (by first | exact h_bin rfl rfl (b_add (Go.IntWalk.i64_in _ (by omega))) | exact h_bin rfl rfl (b_add rfl)) ?_
      refine s_p (by first | exact h_assign (v := .s _) rfl | exact h_assign (v := .agg _) rfl | exact h_assign (v := .tup _) rfl) ?_
      refine s_nil ?_
      refine n_blo ?_
      exact n_round (9 - (r + 1)) (by omega) ⟨r + 1, by omega, rfl, rfl, by rw [hen]⟩ (weak' (by repeat (first | exact trivial | refine ⟨rfl, ?_⟩)) rfl rfl (Nat.le_of_ble_eq_true rfl))

set_option maxRecDepth 100000 in
set_option maxHeartbeats 1000000 in
theorem Block_c (key b : List Int) (hk : key.length = 16) (huk : U8 key) (hb : b.length = 16) (hub : U8 b) (H : Heap) : ACall Try.prog 21 H [.agg [.ints .u8 16 key], .agg [.ints .u8 16 b]] (.agg [.ints .u8 16 (blockI key b)]) [] := by
  refine acall_free Try.func21 rfl Try.ntmps21 (by simp) rfl rfl (fun W w hW => ?_) H
  refine w_seq ?_
  refine c_reg (by kernel_rfl) rfl ?_
  refine s_a (by first | exact h_box_agg rfl rfl | exact h_box rfl (by simp) rfl) rfl ?_
  refine s_a (by first | exact h_box_agg rfl rfl | exact h_box rfl (by simp) rfl) rfl ?_
  refine s_a (h_alloc (segs := [.ints .u8 16 (z 16)]) Try.zeroValue22 (by kernel_rfl) rfl) rfl ?_
  refine s_nil ?_
  refine n_wp ?_
  refine w_seq ?_
  refine c_any 3 mix (by kernel_rfl) (by kernel_rfl) rfl rfl rfl ?_
  refine t_p (by first | exact h_load_agg rfl rfl (.whole rfl) Try.isAgg22 Try.sizeOf22 | exact h_load_agg rfl rfl (.seg rfl rfl) Try.isAgg22 Try.sizeOf22 | exact h_load_agg rfl rfl (.ints rfl (by omega)) Try.isAgg22 Try.sizeOf22) ?_
  refine t_a (h_call callable_49 rfl (newMachine_c _ (by assumption) (by assumption) _)) rfl ?_
  refine t_p (by first | exact h_load_agg rfl rfl (.whole rfl) Try.isAgg22 Try.sizeOf22 | exact h_load_agg rfl rfl (.seg rfl rfl) Try.isAgg22 Try.sizeOf22 | exact h_load_agg rfl rfl (.ints rfl (by omega)) Try.isAgg22 Try.sizeOf22) ?_
  refine t_nil ?_
  refine s_p (h_call callable_50 rfl (block_c _ _ (by assumption) (by assumption) _ _ _ rfl rfl)) ?_
  refine s_st (by first | exact m_store_agg rfl rfl rfl (.whole (Nat.le_of_ble_eq_true rfl) rfl rfl) Try.sizeOf22 rfl | exact m_store_agg rfl rfl rfl (.seg (Nat.le_of_ble_eq_true rfl) rfl rfl rfl) Try.sizeOf22 rfl | exact m_store_agg rfl rfl rfl (.ints (Nat.le_of_ble_eq_true rfl) rfl (by omega)) Try.sizeOf22 rfl) ?_
  refine s_nil ?_
  refine n_wp ?_
  refine w_ret ?_
  exact ⟨.inl rfl, ret_cell_agg Try.results21 rfl rfl (.whole rfl) Try.isAgg22 Try.sizeOf22⟩

end Go.Proofs.X
