/- A part of the proofs of this claim: BSha1 (BSha1). No conditions. -/
import Derived.Test.YthjccanlmhbecaaBShaT
set_option linter.unusedVariables false
set_option linter.unusedSimpArgs false
open Go Go.Bx Go.Proofs
namespace Go.Proofs.X
set_option maxRecDepth 100000 in
set_option maxHeartbeats 4000000 in
theorem rot_c (x k : Int) : Con Try.prog 50 [.s (.int .u32 x), .s (.int .i64 k)] [] (.s (.int .u32 (rotI x k))) [] := by
 refine con_in 17 Try.func50 rfl rfl (m := 0) rfl ?_
 intro E hP hn hE
 refine w_seq ?_
 refine g_reg hP hn ?_
 refine s_op k_as ?_
 refine s_nil trivial ?_
 refine n_wp ?_
 refine w_seq ?_
 refine g_reg hP hn ?_
 refine s_op k_mv ?_
 refine s_op (k_cv (by exact a_conv rfl rfl)) ?_
 refine s_op (k_and (by exact l_bin rfl rfl (b_and rfl))) ?_
 refine s_op k_as ?_
 refine s_nil trivial ?_
 refine n_wp ?_
 refine w_seq ?_
 refine g_reg hP hn ?_
 refine s_op k_mv ?_
 refine s_op k_mv ?_
 refine s_op (k_shl (by exact l_bin rfl rfl (b_shl (rs_nonneg _) rfl))) ?_
 refine s_op k_mv ?_
 refine s_op k_mv ?_
 refine s_op (k_sub (by exact l_bin rfl rfl (b_sub rfl))) ?_
 refine s_op (k_shr (by exact l_bin rfl rfl (b_shr (wrap_u64_nonneg _) rfl))) ?_
 refine s_op k_or ?_
 refine s_op k_as ?_
 refine s_nil trivial ?_
 refine n_wp ?_
 refine w_ret ?_
 exact d_ret hP hn hE [] (by first | exact r_tmp Try.results50 | exact r_tmpa Try.results50)

set_option maxRecDepth 100000 in
set_option maxHeartbeats 4000000 in
theorem down_c (x : Int) (ps : List Int) (hl : ps.length ≤ 64) : Con Try.prog 48 [.s (.int .u32 x), .s (.fzi .i64 ps)] [] (.s (.int .u32 (dnI x ps ps.length))) [] := by
 refine con_in 22 Try.func48 rfl rfl (m := 0) rfl ?_
 intro E hP hn hE
 refine w_seq ?_
 refine g_reg hP hn ?_
 refine s_op k_as ?_
 refine s_nil trivial ?_
 refine n_wp ?_
 refine w_seq ?_
 refine g_reg hP hn ?_
 refine s_op k_as ?_
 refine s_nil trivial ?_
 refine n_wp ?_
 refine w_seq ?_
 refine w_seq ?_
 refine g_reg hP hn ?_
 refine s_op k_mv ?_
 refine s_op k_len ?_
 refine s_op k_mv ?_
 refine s_nil trivial ?_
 refine n_wp ?_
 refine w_block ?_
 refine c_loop (fun m T H => ∃ i, i ≤ ps.length ∧ m = ps.length - i ∧ T = [(0, .s (.int .u32 x)), (5, .s (.int .u32 (dnI x ps i))), (8, .s (.fzi .i64 ps)), (9, .s (.int .i64 ((ps.length : Nat) : Int))), (10, .s (.int .i64 ((i : Nat) : Int)))] ∧ H = []) (ps.length) ⟨0, by omega, rfl, rfl, rfl⟩ (wk hE []) ?_
 rintro n_ T_ H_ ⟨i, hi, rfl, rfl, rfl⟩
 refine w_seq ?_
 refine g_reg hP hn ?_
 refine s_op k_lss ?_
 refine s_nil trivial ?_
 refine n_wp ?_
 refine w_seq ?_
 refine w_if rfl (fun h_t11 => ?_) (fun h_t11 => ?_)
 · skip
   refine w_skip ?_
   refine n_wp ?_
   refine w_seq ?_
   refine w_block ?_
   refine w_seq ?_
   refine g_reg hP hn ?_
   refine s_op k_ix ?_
   refine s_op k_ld ?_
   refine s_op k_as ?_
   refine s_nil trivial ?_
   refine n_wp ?_
   refine g_reg hP hn ?_
   refine s_op k_mv ?_
   refine s_op k_mv ?_
   refine s_op k_mv ?_
   refine s_op k_neg ?_
   refine s_op (k_call [] (con := rot_c _ _)) ?_
   refine s_op k_xor ?_
   refine s_op k_as ?_
   refine s_nil trivial ?_
   refine n_blo ?_
   refine n_wp ?_
   refine g_reg hP hn ?_
   refine s_op k_add ?_
   refine s_op k_mv ?_
   refine s_nil trivial ?_
   exact n_round (ps.length - (i + 1)) (by omega) ⟨i + 1, by omega, rfl, rfl, rfl⟩ (wk hE [])
 · skip
   have hi : i = ps.length := by omega
   subst hi
   refine w_exit ?_
   refine x_thn ?_
   refine x_thn ?_
   refine x_eq ?_
   refine n_wp ?_
   refine w_seq ?_
   refine g_reg hP hn ?_
   refine s_op k_mv ?_
   refine s_op k_as ?_
   refine s_nil trivial ?_
   refine n_wp ?_
   refine w_ret ?_
   exact d_ret hP hn hE [] (by first | exact r_tmp Try.results48 | exact r_tmpa Try.results48)

set_option maxRecDepth 100000 in
set_option maxHeartbeats 4000000 in
theorem get_c (B : List Int) (m : Nat) (h0 : 0 < m) (h8 : m ≤ 8) (hm : m ≤ B.length) : Con Try.prog 25 [.s (.fzi .u8 B), .s (.int .i64 ((m : Nat) : Int))] [] (.tup [.s (.int .u64 (getI B m)), .s (.int .i64 0)]) [] := by
 refine con_in 35 Try.func25 rfl rfl (m := 0) rfl ?_
 intro E hP hn hE
 refine w_seq ?_
 refine g_reg hP hn ?_
 refine s_op k_as ?_
 refine s_op k_as ?_
 refine s_nil trivial ?_
 refine n_wp ?_
 refine w_seq ?_
 refine w_seq ?_
 refine g_reg hP hn ?_
 refine s_op k_mv ?_
 refine s_op k_lss ?_
 refine s_op k_mv ?_
 first | refine s_on rfl rfl rfl k_mv ?_ | refine s_off rfl rfl rfl ?_ | refine s_opf rfl rfl (fun hB => by rw [hB]; try (have hB' := of_decide_eq_true hB); exact k_mv) ?_
 first | refine s_on rfl rfl rfl k_gtr ?_ | refine s_off rfl rfl rfl ?_ | refine s_opf rfl rfl (fun hB => by rw [hB]; try (have hB' := of_decide_eq_true hB); exact k_gtr) ?_
 refine s_op k_pk ?_
 refine s_nil trivial ?_
 refine n_wp ?_
 refine w_F rfl ?_ 
 refine w_skip ?_
 refine n_wp ?_
 refine w_seq ?_
 refine w_seq ?_
 refine g_reg hP hn ?_
 refine s_op k_mv ?_
 refine s_op k_len ?_
 refine s_op k_mv ?_
 refine s_op k_lss ?_
 refine s_nil trivial ?_
 refine n_wp ?_
 refine w_F rfl ?_ 
 refine w_skip ?_
 refine n_wp ?_
 refine w_seq ?_
 refine g_reg hP hn ?_
 refine s_op k_al ?_
 refine s_nil trivial ?_
 refine n_wp ?_
 refine w_seq ?_
 refine g_reg hP hn ?_
 refine s_op k_mv ?_
 refine s_op k_sub ?_
 refine s_op k_sl ?_
 refine s_op k_mv ?_
 refine s_op (k_cpn m) ?_
 refine s_nil trivial ?_
 refine n_wp ?_
 refine w_seq ?_
 refine w_seq ?_
 refine g_reg hP hn ?_
 refine s_op k_mv ?_
 refine s_nil trivial ?_
 refine n_wp ?_
 refine w_block ?_
 refine c_loop (fun q T H => ∃ i, i ≤ 8 ∧ q = 8 - i ∧ T = [(4, .s (.int .u64 (gI (spl (z 8) (B.take m) (8 - m) m 8) i))), (6, .s (.ptr 0 0 0)), (23, .s (.int .i64 ((i : Nat) : Int)))] ∧ H = [some ⟨true, [.ints .u8 8 (spl (z 8) (B.take m) (8 - m) m 8)]⟩]) (8) ⟨0, by omega, rfl, rfl, rfl⟩ (wk hE []) ?_
 rintro n_ T_ H_ ⟨i, hi, rfl, rfl, rfl⟩
 refine w_seq ?_
 refine g_reg hP hn ?_
 refine s_op k_lss ?_
 refine s_nil trivial ?_
 refine n_wp ?_
 refine w_seq ?_
 refine w_if rfl (fun h_t24 => ?_) (fun h_t24 => ?_)
 · skip
   refine w_skip ?_
   refine n_wp ?_
   refine w_seq ?_
   refine w_block ?_
   refine w_seq ?_
   refine g_reg hP hn ?_
   refine s_op k_mv ?_
   refine s_op k_as ?_
   refine s_nil trivial ?_
   refine n_wp ?_
   refine g_reg hP hn ?_
   refine s_op k_mv ?_
   refine s_op k_mul ?_
   refine s_op k_mv ?_
   refine s_op k_ix ?_
   refine s_op k_ld ?_
   refine s_op k_cv ?_
   refine s_op k_add ?_
   refine s_op k_as ?_
   refine s_nil trivial ?_
   refine n_blo ?_
   refine n_wp ?_
   refine g_reg hP hn ?_
   refine s_op k_add ?_
   refine s_op k_mv ?_
   refine s_nil trivial ?_
   exact n_round (8 - (i + 1)) (by omega) ⟨i + 1, by omega, rfl, rfl, rfl⟩ (wk hE [])
 · skip
   have hi : i = 8 := by omega
   subst hi
   refine w_exit ?_
   refine x_thn ?_
   refine x_thn ?_
   refine x_eq ?_
   refine n_wp ?_
   refine w_seq ?_
   refine g_reg hP hn ?_
   refine s_op k_mv ?_
   refine s_op k_as ?_
   refine s_op k_as ?_
   refine s_nil trivial ?_
   refine n_wp ?_
   refine w_ret ?_
   exact d_ret hP hn hE [] (ret2 Try.results25 (by first | exact ri_tmp rfl | exact ri_tmpa rfl) (by first | exact ri_tmp rfl | exact ri_tmpa rfl))

set_option maxRecDepth 100000 in
set_option maxHeartbeats 4000000 in
theorem adds_c  : Con Try.prog 47 [] [] (.agg [.ints .u32 64 KS]) [] := by
 refine con_in 2 Try.func47 rfl rfl (m := 0) rfl ?_
 intro E hP hn hE
 refine w_seq ?_
 refine g_reg hP hn ?_
 refine s_op k_al ?_
 refine s_nil trivial ?_
 refine n_wp ?_
 refine w_seq ?_
 refine g_reg hP hn ?_
 refine s_op (k_bd (by exact a_buildK KS (by kernel_rfl) (by kernel_rfl) rfl)) ?_
 refine s_st k_st ?_
 refine s_nil trivial ?_
 refine n_wp ?_
 refine w_ret ?_
 exact d_ret hP hn hE [] (r_cell Try.results47)

end Go.Proofs.X
