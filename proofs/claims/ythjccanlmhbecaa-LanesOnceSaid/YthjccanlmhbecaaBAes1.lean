/- A part of the proofs of this claim: BAes1 (BAes1). No conditions. -/
import Derived.Test.YthjccanlmhbecaaBAesT
set_option linter.unusedVariables false
set_option linter.unusedSimpArgs false
open Go Go.Bx Go.Proofs
namespace Go.Proofs.X
set_option maxRecDepth 100000 in
set_option maxHeartbeats 4000000 in
theorem twiceA_c (x : Int) (h : shrK .u8 x 7 = 1) : Con Try.prog 39 [.s (.int .u8 x)] [] (.s (.int .u8 (xorK .u8 (shlK .u8 x 1) 27))) [] := by
 refine con_in 11 Try.func39 rfl rfl (m := 0) rfl ?_
 intro E hP hn hE
 refine w_seq ?_
 refine g_reg hP hn ?_
 refine s_op k_as ?_
 refine s_nil trivial ?_
 refine n_wp ?_
 refine w_seq ?_
 refine w_seq ?_
 refine g_reg hP hn ?_
 refine s_op k_mv ?_
 refine s_op k_shr ?_
 refine s_op k_eql ?_
 refine s_nil trivial ?_
 refine n_wp ?_
 refine w_T rfl ?_ (decide_eq_true h)
 refine w_seq ?_
 refine g_reg hP hn ?_
 refine s_op k_mv ?_
 refine s_op k_shl ?_
 refine s_op k_xor ?_
 refine s_op k_as ?_
 refine s_nil trivial ?_
 refine n_wp ?_
 refine w_ret ?_
 refine r_thn ?_
 exact d_ret hP hn hE [] (by first | exact r_tmp Try.results39 | exact r_tmpa Try.results39)

set_option maxRecDepth 100000 in
set_option maxHeartbeats 4000000 in
theorem twiceB_c (x : Int) (h : ¬ shrK .u8 x 7 = 1) : Con Try.prog 39 [.s (.int .u8 x)] [] (.s (.int .u8 (shlK .u8 x 1))) [] := by
 refine con_in 11 Try.func39 rfl rfl (m := 0) rfl ?_
 intro E hP hn hE
 refine w_seq ?_
 refine g_reg hP hn ?_
 refine s_op k_as ?_
 refine s_nil trivial ?_
 refine n_wp ?_
 refine w_seq ?_
 refine w_seq ?_
 refine g_reg hP hn ?_
 refine s_op k_mv ?_
 refine s_op k_shr ?_
 refine s_op k_eql ?_
 refine s_nil trivial ?_
 refine n_wp ?_
 refine w_F rfl ?_ (decide_eq_false h)
 refine w_skip ?_
 refine n_wp ?_
 refine w_seq ?_
 refine g_reg hP hn ?_
 refine s_op k_mv ?_
 refine s_op k_shl ?_
 refine s_op k_as ?_
 refine s_nil trivial ?_
 refine n_wp ?_
 refine w_ret ?_
 exact d_ret hP hn hE [] (by first | exact r_tmp Try.results39 | exact r_tmpa Try.results39)

theorem twice_c (x : Int) : Con Try.prog 39 [.s (.int .u8 x)] [] (.s (.int .u8 (twiceI x))) [] := by
 unfold twiceI; split
 · exact twiceA_c x ‹_›
 · exact twiceB_c x ‹_›

set_option maxRecDepth 100000 in
set_option maxHeartbeats 4000000 in
theorem place_c (i : Nat) (hi : i < 1000) : Con Try.prog 41 [.s (.int .i64 ((i : Nat) : Int))] [] (.s (.int .i64 (((i + 4 * (i % 4)) % 16 : Nat) : Int))) [] := by
 refine con_in 9 Try.func41 rfl rfl (m := 0) rfl ?_
 intro E hP hn hE
 refine w_seq ?_
 refine g_reg hP hn ?_
 refine s_op k_as ?_
 refine s_nil trivial ?_
 refine n_wp ?_
 refine w_seq ?_
 refine g_reg hP hn ?_
 refine s_op k_mv ?_
 refine s_op k_mv ?_
 refine s_op k_rem ?_
 refine s_op k_mul ?_
 refine s_op k_add ?_
 refine s_op k_rem ?_
 refine s_op k_as ?_
 refine s_nil trivial ?_
 refine n_wp ?_
 refine w_ret ?_
 exact d_ret hP hn hE [] (by first | exact r_tmp Try.results41 | exact r_tmpa Try.results41)

set_option maxRecDepth 100000 in
set_option maxHeartbeats 4000000 in
theorem against_c (a b : List Int) (ha : a.length = 16) : Con Try.prog 40 [.agg [.ints .u8 16 a], .agg [.ints .u8 16 b]] [] (.agg [.ints .u8 16 (xor16 a b)]) [] := by
 refine con_in 19 Try.func40 rfl rfl (m := 0) rfl ?_
 intro E hP hn hE
 refine w_seq ?_
 refine g_reg hP hn ?_
 refine s_op k_bx ?_
 refine s_op k_bx ?_
 refine s_op k_al ?_
 refine s_nil trivial ?_
 refine n_wp ?_
 refine w_seq ?_
 refine w_seq ?_
 refine g_reg hP hn ?_
 refine s_op k_mv ?_
 refine s_nil trivial ?_
 refine n_wp ?_
 refine w_block ?_
 refine c_loop (fun m T H => ∃ i, i ≤ 16 ∧ m = 16 - i ∧ T = [(2, .s (.ptr 0 0 0)), (3, .s (.ptr 1 0 0)), (4, .s (.ptr 2 0 0)), (6, .s (.int .i64 ((i : Nat) : Int)))] ∧ H = [some ⟨true, [.ints .u8 16 (xorTo a b i)]⟩, some ⟨true, [.ints .u8 16 b]⟩, some ⟨true, [.ints .u8 16 (z 16)]⟩]) (16) ⟨0, by omega, rfl, rfl, rfl⟩ (wk hE []) ?_
 rintro n_ T_ H_ ⟨i, hi, rfl, rfl, rfl⟩
 have hx := (xorTo_len a b i).trans ha
 refine w_seq ?_
 refine g_reg hP hn ?_
 refine s_op k_lss ?_
 refine s_nil trivial ?_
 refine n_wp ?_
 refine w_seq ?_
 refine w_if rfl (fun h_t7 => ?_) (fun h_t7 => ?_)
 · skip
   refine w_skip ?_
   refine n_wp ?_
   refine w_seq ?_
   refine w_block ?_
   refine w_seq ?_
   refine g_reg hP hn ?_
   refine s_op k_mv ?_
   refine s_op k_as ?_
   refine s_nil trivial ?_
   refine n_wp ?_
   refine g_any hP hn ?_
   refine s_op k_mv ?_
   refine s_op k_ix ?_
   refine s_op k_ld ?_
   refine s_op k_mv ?_
   refine s_op k_ix ?_
   refine s_op k_ld ?_
   refine s_op k_xor ?_
   refine s_op k_ix ?_
   refine s_st k_st ?_
   refine s_nil (by kernel_rfl) ?_
   refine n_blo ?_
   refine n_wp ?_
   refine g_reg hP hn ?_
   refine s_op k_add ?_
   refine s_op k_mv ?_
   refine s_nil trivial ?_
   exact n_round (16 - (i + 1)) (by omega) ⟨i + 1, by omega, rfl, rfl, rfl⟩ (wk hE [])
 · skip
   have hi : i = 16 := by omega
   rw [show xorTo a b i = xor16 a b by rw [hi, xor16]]
   refine w_exit ?_
   refine x_thn ?_
   refine x_thn ?_
   refine x_eq ?_
   refine n_wp ?_
   refine w_seq ?_
   refine g_reg hP hn ?_
   refine s_op k_ld ?_
   refine s_st k_st ?_
   refine s_nil trivial ?_
   refine n_wp ?_
   refine w_ret ?_
   exact d_ret hP hn hE [] (r_cell Try.results40)

set_option maxRecDepth 100000 in
set_option maxHeartbeats 4000000 in
theorem mixed_c (b : List Int) (hb : b.length = 16) : Con Try.prog 42 [.agg [.ints .u8 16 b]] [] (.agg [.ints .u8 16 (mixI b)]) [] := by
 refine con_in 64 Try.func42 rfl rfl (m := 0) rfl ?_
 intro E hP hn hE
 refine w_seq ?_
 refine g_reg hP hn ?_
 refine s_op k_bx ?_
 refine s_op k_al ?_
 refine s_nil trivial ?_
 refine n_wp ?_
 refine w_seq ?_
 refine w_seq ?_
 refine g_reg hP hn ?_
 refine s_op k_as ?_
 refine s_nil trivial ?_
 refine n_wp ?_
 refine w_block ?_
 refine c_loop (fun m T H => ∃ j, j ≤ 4 ∧ m = 4 - j ∧ T = [(1, .s (.ptr 0 0 0)), (2, .s (.ptr 1 0 0)), (3, .s (.int .i64 ((4 * j : Nat) : Int)))] ∧ H = [some ⟨true, [.ints .u8 16 (mixN b j)]⟩, some ⟨true, [.ints .u8 16 (z 16)]⟩]) (4) ⟨0, by omega, rfl, rfl, rfl⟩ (wk hE []) ?_
 rintro n_ T_ H_ ⟨j, hj, rfl, rfl, rfl⟩
 have hx := (mixN_len b j).trans hb
 refine w_seq ?_
 refine w_seq ?_
 refine g_reg hP hn ?_
 refine s_op k_mv ?_
 refine s_op k_lss ?_
 refine s_nil trivial ?_
 refine n_wp ?_
 refine w_if rfl (fun h_t9 => ?_) (fun h_t9 => ?_)
 · skip
   refine w_skip ?_
   refine n_wp ?_
   refine w_seq ?_
   refine w_block ?_
   refine w_seq ?_
   refine g_any hP hn ?_
   refine s_op k_mv ?_
   refine s_op k_ix ?_
   refine s_op k_ld ?_
   refine s_op k_mv ?_
   refine s_op k_add ?_
   refine s_op k_ix ?_
   refine s_op k_ld ?_
   refine s_op k_xor ?_
   refine s_op k_mv ?_
   refine s_op k_add ?_
   refine s_op k_ix ?_
   refine s_op k_ld ?_
   refine s_op k_xor ?_
   refine s_op k_mv ?_
   refine s_op k_add ?_
   refine s_op k_ix ?_
   refine s_op k_ld ?_
   refine s_op k_xor ?_
   refine s_op k_as ?_
   refine s_nil (by kernel_rfl) ?_
   refine n_wp ?_
   refine w_seq ?_
   refine g_reg hP hn ?_
   refine s_op k_mv ?_
   refine s_op k_ix ?_
   refine s_op k_ld ?_
   refine s_op k_as ?_
   refine s_nil trivial ?_
   refine n_wp ?_
   refine w_seq ?_
   refine g_reg hP hn ?_
   refine s_op k_mv ?_
   refine s_nil trivial ?_
   refine n_wp ?_
   refine w_block ?_
   refine c_loop (fun m T H => ∃ i, i ≤ 4 ∧ m = 4 - i ∧ T = [(1, .s (.ptr 0 0 0)), (2, .s (.ptr 1 0 0)), (3, .s (.int .i64 ((4 * j : Nat) : Int))), (4, .s (.int .u8 (xorK .u8 (xorK .u8 (xorK .u8 ((mixN b j).getD (4 * j) 0) ((mixN b j).getD (4 * j + 1) 0)) ((mixN b j).getD (4 * j + 2) 0)) ((mixN b j).getD (4 * j + 3) 0)))), (5, .s (.int .u8 ((mixN b j).getD (4 * j) 0))), (33, .s (.int .i64 ((i : Nat) : Int)))] ∧ H = [some ⟨true, [.ints .u8 16 (mixR (mixN b j) (4 * j) (xorK .u8 (xorK .u8 (xorK .u8 ((mixN b j).getD (4 * j) 0) ((mixN b j).getD (4 * j + 1) 0)) ((mixN b j).getD (4 * j + 2) 0)) ((mixN b j).getD (4 * j + 3) 0)) ((mixN b j).getD (4 * j) 0) i)]⟩, some ⟨true, [.ints .u8 16 (z 16)]⟩]) (4) ⟨0, by omega, rfl, rfl, rfl⟩ (wk hE []) ?_
   rintro n_ T_ H_ ⟨i, hi, rfl, rfl, rfl⟩
   have hy := (mixR_len (mixN b j) (4 * j) (xorK .u8 (xorK .u8 (xorK .u8 ((mixN b j).getD (4 * j) 0) ((mixN b j).getD (4 * j + 1) 0)) ((mixN b j).getD (4 * j + 2) 0)) ((mixN b j).getD (4 * j + 3) 0)) ((mixN b j).getD (4 * j) 0) i).trans hx
   refine w_seq ?_
   refine g_reg hP hn ?_
   refine s_op k_lss ?_
   refine s_nil trivial ?_
   refine n_wp ?_
   refine w_seq ?_
   refine w_if rfl (fun h_t34 => ?_) (fun h_t34 => ?_)
   · skip
     refine w_skip ?_
     refine n_wp ?_
     refine w_seq ?_
     refine w_block ?_
     refine w_seq ?_
     refine g_reg hP hn ?_
     refine s_op k_mv ?_
     refine s_op k_as ?_
     refine s_nil trivial ?_
     refine n_wp ?_
     refine w_seq ?_
     refine g_reg hP hn ?_
     refine s_op k_mv ?_
     refine s_op k_as ?_
     refine s_nil trivial ?_
     refine n_wp ?_
     refine w_seq ?_
     refine w_seq ?_
     refine g_reg hP hn ?_
     refine s_op k_mv ?_
     refine s_op k_lss ?_
     refine s_nil trivial ?_
     refine n_wp ?_
     refine w_if rfl (fun h_t38 => ?_) (fun h_t38 => ?_)
     · skip
       have hsel : ∀ x y : Int, (if i < 3 then x else y) = x := fun x y => if_pos h_t38
       refine g_reg hP hn ?_
       refine s_op k_mv ?_
       refine s_op k_mv ?_
       refine s_op k_add ?_
       refine s_op k_add ?_
       refine s_op k_ix ?_
       refine s_op k_ld ?_
       refine s_op k_as ?_
       refine s_nil trivial ?_
       refine n_wp ?_
       refine g_any hP hn ?_
       refine s_op k_mv ?_
       refine s_op k_mv ?_
       refine s_op k_add ?_
       refine s_op k_ix ?_
       refine s_op k_ld ?_
       refine s_op k_mv ?_
       refine s_op k_mv ?_
       refine s_op k_mv ?_
       refine s_op k_add ?_
       refine s_op k_ix ?_
       refine s_op k_ld ?_
       refine s_op k_mv ?_
       refine s_op k_xor ?_
       refine s_op (k_call [] (con := twice_c _)) ?_
       refine s_op k_xor ?_
       refine s_op k_xor ?_
       refine s_op k_ix ?_
       refine s_st k_st ?_
       refine s_nil (by kernel_rfl) ?_
       refine n_blo ?_
       refine n_wp ?_
       refine g_reg hP hn ?_
       refine s_op k_add ?_
       refine s_op k_mv ?_
       refine s_nil trivial ?_
       exact n_round (4 - (i + 1)) (by omega) ⟨i + 1, by omega, rfl, rfl, by rw [mixR, hsel]⟩ (wk hE [])
     · skip
       have hsel : ∀ x y : Int, (if i < 3 then x else y) = y := fun x y => if_neg h_t38
       refine w_skip ?_
       refine n_wp ?_
       refine g_any hP hn ?_
       refine s_op k_mv ?_
       refine s_op k_mv ?_
       refine s_op k_add ?_
       refine s_op k_ix ?_
       refine s_op k_ld ?_
       refine s_op k_mv ?_
       refine s_op k_mv ?_
       refine s_op k_mv ?_
       refine s_op k_add ?_
       refine s_op k_ix ?_
       refine s_op k_ld ?_
       refine s_op k_mv ?_
       refine s_op k_xor ?_
       refine s_op (k_call [] (con := twice_c _)) ?_
       refine s_op k_xor ?_
       refine s_op k_xor ?_
       refine s_op k_ix ?_
       refine s_st k_st ?_
       refine s_nil (by kernel_rfl) ?_
       refine n_blo ?_
       refine n_wp ?_
       refine g_reg hP hn ?_
       refine s_op k_add ?_
       refine s_op k_mv ?_
       refine s_nil trivial ?_
       exact n_round (4 - (i + 1)) (by omega) ⟨i + 1, by omega, rfl, rfl, by rw [mixR, hsel]⟩ (wk hE [])
   · skip
     have hi4 : i = 4 := by omega
     rw [show mixR (mixN b j) (4 * j) _ _ i = mixN b (j + 1) by rw [hi4, mixN, mixC]]
     refine w_exit ?_
     refine x_thn ?_
     refine x_thn ?_
     refine x_eq ?_
     refine n_blo ?_
     refine n_wp ?_
     refine g_reg hP hn ?_
     refine s_op k_mv ?_
     refine s_op k_add ?_
     refine s_op k_as ?_
     refine s_nil trivial ?_
     exact n_round (4 - (j + 1)) (by omega) ⟨j + 1, by omega, rfl, rfl, rfl⟩ (wk hE [])
 · skip
   have hj4 : j = 4 := by omega
   rw [show mixN b j = mixI b by rw [hj4, mixI]]
   refine w_exit ?_
   refine x_thn ?_
   refine x_thn ?_
   refine x_eq ?_
   refine n_wp ?_
   refine w_seq ?_
   refine g_reg hP hn ?_
   refine s_op k_ld ?_
   refine s_st k_st ?_
   refine s_nil trivial ?_
   refine n_wp ?_
   refine w_ret ?_
   exact d_ret hP hn hE [] (r_cell Try.results42)

end Go.Proofs.X
