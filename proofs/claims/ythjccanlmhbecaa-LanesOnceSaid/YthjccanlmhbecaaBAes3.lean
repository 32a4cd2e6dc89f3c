/- A part of the proofs of this claim: BAes3 (BAes3). No conditions. -/
import Derived.Test.YthjccanlmhbecaaBAes2
set_option linter.unusedVariables false
set_option linter.unusedSimpArgs false
open Go Go.Bx Go.Proofs
namespace Go.Proofs.X
attribute [local irreducible] SB BK ks
set_option maxRecDepth 100000 in
set_option maxHeartbeats 4000000 in
theorem block_c (key b : List Int) (hb : b.length = 16) (hb8 : U8 b) : Con Try.prog 31 [.s (.fptr 688 (cellsF [.ints .u8 256 SB, .ints .u8 256 BK, .ints .u8 176 (keysOf key)]) 0 0), .agg [.ints .u8 16 b]] [] (.agg [.ints .u8 16 (blockI key b)]) [] := by
 refine con_in 52 Try.func31 rfl rfl (m := 0) rfl ?_
 intro E hP hn hE
 refine w_seq ?_
 refine g_reg hP hn ?_
 refine s_op k_bx ?_
 refine s_op k_al ?_
 refine s_nil trivial ?_
 refine n_wp ?_
 refine w_scope ?_
 refine w_seq ?_
 refine g_any hP hn ?_
 refine s_op k_ld ?_
 refine s_op k_mv ?_
 refine s_op k_nc ?_
 refine s_op k_fa ?_
 refine s_op k_ix ?_
 refine s_op (k_ld (by exact a_loadf_aggI rfl rfl (by omega) (by omega))) ?_
 refine s_op (k_call [] (con := against_c _ _ hb)) ?_
 refine s_st k_st ?_
 refine s_nil (by kernel_rfl) ?_
 refine n_wp ?_
 refine w_seq ?_
 refine g_reg hP hn ?_
 refine s_op k_as ?_
 refine s_nil trivial ?_
 refine n_wp ?_
 refine w_seq ?_
 refine w_label ?_
 refine n_wp ?_
 refine w_seq ?_
 refine w_block ?_
 refine c_loop (fun m T H => ∃ k, k ≤ 9 ∧ m = 9 - k ∧ T = [(0, .s (.fptr 688 (cellsF [.ints .u8 256 SB, .ints .u8 256 BK, .ints .u8 176 (keysOf key)]) 0 0)), (3, .s (.ptr 0 0 0)), (4, .s (.ptr 1 0 0)), (5, .s (.int .i64 ((k + 1 : Nat) : Int)))] ∧ H = [some ⟨true, [.ints .u8 16 (enc SB (keysOf key) b k)]⟩, some ⟨true, [.ints .u8 16 (z 16)]⟩]) (9) ⟨0, by omega, rfl, rfl, rfl⟩ (wk hE []) ?_
 rintro n_ T_ H_ ⟨k, hk, rfl, rfl, rfl⟩
 have hel := enc_len SB (keysOf key) b hb k
 have hEn : U8 (enc SB (keysOf key) b k) := U8_enc U8_SB hb8 k
 refine w_block ?_
 refine w_seq ?_
 refine g_reg hP hn ?_
 refine s_op k_al ?_
 refine s_nil trivial ?_
 refine n_wp ?_
 refine w_seq ?_
 refine w_seq ?_
 refine g_reg hP hn ?_
 refine s_op k_mv ?_
 refine s_nil trivial ?_
 refine n_wp ?_
 refine w_block ?_
 refine c_loop (fun m T H => ∃ i, i ≤ 16 ∧ m = 16 - i ∧ T = [(0, .s (.fptr 688 (cellsF [.ints .u8 256 SB, .ints .u8 256 BK, .ints .u8 176 (keysOf key)]) 0 0)), (3, .s (.ptr 0 0 0)), (4, .s (.ptr 1 0 0)), (5, .s (.int .i64 ((k + 1 : Nat) : Int))), (6, .s (.ptr 2 0 0)), (15, .s (.int .i64 ((i : Nat) : Int)))] ∧ H = [some ⟨true, [.ints .u8 16 (enc SB (keysOf key) b k)]⟩, some ⟨true, [.ints .u8 16 (z 16)]⟩, some ⟨true, [.ints .u8 16 (subTo SB (enc SB (keysOf key) b k) i)]⟩]) (16) ⟨0, by omega, rfl, rfl, rfl⟩ (wk hE []) ?_
 rintro n_ T_ H_ ⟨i, hi, rfl, rfl, rfl⟩
 have hsu := subTo_len SB (enc SB (keysOf key) b k) i
 have ue := hEn ((i + 4 * (i % 4)) % 16)
 refine w_seq ?_
 refine g_reg hP hn ?_
 refine s_op k_lss ?_
 refine s_nil trivial ?_
 refine n_wp ?_
 refine w_seq ?_
 refine w_if rfl (fun h_t16 => ?_) (fun h_t16 => ?_)
 · skip
   refine w_skip ?_
   refine n_wp ?_
   refine w_seq ?_
   refine w_block ?_
   refine w_seq ?_
   refine g_reg hP hn ?_
   refine s_op k_mv ?_
   refine s_op k_as ?_
   refine s_nil trivial ?_
   refine n_wp ?_
   refine g_any hP hn ?_
   refine s_op k_mv ?_
   refine s_op k_mv ?_
   refine s_op k_mv ?_
   refine s_op (k_call [] (con := place_c i (by omega))) ?_
   refine s_op k_ix ?_
   refine s_op k_ld ?_
   refine s_op k_nc ?_
   refine s_op k_fa ?_
   refine s_op (k_ix (by exact a_ixf (hj := ⟨(Int.toNat_of_nonneg ue.1).symm⟩) rfl rfl (by omega))) ?_
   refine s_op k_ld ?_
   refine s_op k_ix ?_
   refine s_st k_st ?_
   refine s_nil (by kernel_rfl) ?_
   refine n_blo ?_
   refine n_wp ?_
   refine g_reg hP hn ?_
   refine s_op k_add ?_
   refine s_op k_mv ?_
   refine s_nil trivial ?_
   exact n_round (16 - (i + 1)) (by omega) ⟨i + 1, by omega, rfl, rfl, rfl⟩ (wk hE [])
 · skip
   have hi16 : i = 16 := by omega
   obtain ⟨SX, hSX⟩ : ∃ SX, SX = subTo SB (enc SB (keysOf key) b k) i := ⟨_, rfl⟩
   have hsl : SX.length = 16 := hSX ▸ hsu
   rw [← hSX]
   rw [hi16] at hSX
   refine w_exit ?_
   refine x_thn ?_
   refine x_thn ?_
   refine x_eq ?_
   refine n_wp ?_
   refine w_seq ?_
   refine w_seq ?_
   refine g_reg hP hn ?_
   refine s_op k_mv ?_
   refine s_op k_eql ?_
   refine s_nil trivial ?_
   refine n_wp ?_
   refine w_if rfl (fun h_t31 => ?_) (fun h_t31 => ?_)
   · skip
     have hk9 : k = 9 := by omega
     refine w_seq ?_
     refine g_any hP hn ?_
     refine s_op k_ld ?_
     refine s_op k_mv ?_
     refine s_op k_mv ?_
     refine s_op k_nc ?_
     refine s_op k_fa ?_
     refine s_op k_ix ?_
     refine s_op (k_ld (by exact a_loadf_aggI rfl rfl (by omega) (by omega))) ?_
     refine s_op (k_call [] (con := against_c _ _ hsl)) ?_
     refine s_st k_st ?_
     refine s_nil (by kernel_rfl) ?_
     refine n_wp ?_
     refine w_exit ?_
     refine x_thn ?_
     refine x_ne rfl ?_
     refine x_thn ?_
     refine x_eq ?_
     refine n_wp ?_
     refine w_seq ?_
     rw [show xor16 SX ((((keysOf key)).drop ((k + 1) * 16)).take 16) = blockI key b by subst hk9; rw [hSX]; simp only [blockI, blockL_def, kwas, Nat.reduceAdd, Nat.reduceMul]]
     refine g_reg hP hn ?_
     refine s_op k_ld ?_
     refine s_st k_st ?_
     refine s_nil trivial ?_
     refine n_wp ?_
     refine w_ret ?_
     refine r_sco ?_
     exact d_ret hP hn hE [] (r_cell Try.results31)
   · skip
     refine w_skip ?_
     refine n_wp ?_
     refine w_seq ?_
     refine g_any hP hn ?_
     refine s_op k_ld ?_
     refine s_op (k_call [] (con := mixed_c _ hsl)) ?_
     refine s_op k_mv ?_
     refine s_op k_mv ?_
     refine s_op k_nc ?_
     refine s_op k_fa ?_
     refine s_op k_ix ?_
     refine s_op (k_ld (by exact a_loadf_aggI rfl rfl (by omega) (by omega))) ?_
     refine s_op (k_call [] (con := against_c _ _ ((mixI_len _).trans hsl))) ?_
     refine s_st k_st ?_
     refine s_nil (by kernel_rfl) ?_
     refine n_wp ?_
     refine g_reg hP hn ?_
     refine s_op k_mv ?_
     refine s_op k_add ?_
     refine s_op k_as ?_
     refine s_nil trivial ?_
     refine n_blo ?_
     exact n_round (9 - (k + 1)) (by omega) ⟨k + 1, by omega, rfl, rfl, by rw [enc, ← hSX, rk, kwas]⟩ (wk hE [])

end Go.Proofs.X
