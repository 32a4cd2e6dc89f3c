/- A part of the proofs of this claim: BSeal1 (BSeal1). No conditions. -/
import Derived.Test.YthjccanlmhbecaaBByte1
set_option linter.unusedVariables false
set_option linter.unusedSimpArgs false
open Go Go.Bx Go.Proofs
namespace Go.Proofs.X
attribute [local irreducible] hmB streamI seal1 sealB ahB be fiB hmO tk
set_option maxRecDepth 100000 in
set_option maxHeartbeats 4000000 in
theorem same_c (A B : List Int) (h : A.length = B.length) (hA : A.length ≤ 140737488355000) : Con Try.prog 26 [.s (.fzi .u8 A), .s (.fzi .u8 B)] [] (.s (.bool (decide (mo A B A.length = 0)))) [] := by
 refine con_in 31 Try.func26 rfl rfl (m := 0) rfl ?_
 intro E hP hn hE
 refine w_seq ?_
 refine g_reg hP hn ?_
 refine s_op k_as ?_
 refine s_nil trivial ?_
 refine n_wp ?_
 refine w_seq ?_
 refine w_seq ?_
 refine g_reg hP hn ?_
 refine s_op k_mv ?_
 refine s_op k_len ?_
 refine s_op k_mv ?_
 refine s_op k_len ?_
 refine s_op k_neq ?_
 refine s_nil trivial ?_
 refine n_wp ?_
 refine w_F rfl ?_ (by rw [h]; simp)
 refine w_skip ?_
 refine n_wp ?_
 refine w_seq ?_
 refine g_reg hP hn ?_
 refine s_op k_as ?_
 refine s_nil trivial ?_
 refine n_wp ?_
 refine w_seq ?_
 refine w_seq ?_
 refine g_reg hP hn ?_
 refine s_op k_mv ?_
 refine s_op k_len ?_
 refine s_op k_mv ?_
 refine s_nil trivial ?_
 refine n_wp ?_
 refine w_block ?_
 refine c_loop (fun m T H => ∃ i, i ≤ A.length ∧ m = A.length - i ∧ T = [(0, .s (.fzi .u8 A)), (1, .s (.fzi .u8 B)), (5, .s (.int .u8 (mo A B i))), (13, .s (.int .i64 ((A.length : Nat) : Int))), (14, .s (.int .i64 ((i : Nat) : Int)))] ∧ H = []) (A.length) ⟨0, by omega, rfl, rfl, rfl⟩ (wk hE []) ?_
 rintro n_ T_ H_ ⟨i, hi, rfl, rfl, rfl⟩
 refine w_seq ?_
 refine g_reg hP hn ?_
 refine s_op k_lss ?_
 refine s_nil trivial ?_
 refine n_wp ?_
 refine w_seq ?_
 refine w_if rfl (fun h_t15 => ?_) (fun h_t15 => ?_)
 · skip
   refine w_skip ?_
   refine n_wp ?_
   refine w_seq ?_
   refine w_block ?_
   refine w_seq ?_
   refine g_reg hP hn ?_
   refine s_op k_mv ?_
   refine s_op k_as ?_
   refine s_nil trivial ?_
   refine n_wp ?_
   refine g_any hP hn ?_
   refine s_op k_mv ?_
   refine s_op k_mv ?_
   refine s_op k_mv ?_
   refine s_op k_ix ?_
   refine s_op k_ld ?_
   refine s_op k_mv ?_
   refine s_op k_mv ?_
   refine s_op k_ix ?_
   refine s_op k_ld ?_
   refine s_op k_xor ?_
   refine s_op k_or ?_
   refine s_op k_as ?_
   refine s_nil (by kernel_rfl) ?_
   refine n_blo ?_
   refine n_wp ?_
   refine g_reg hP hn ?_
   refine s_op k_add ?_
   refine s_op k_mv ?_
   refine s_nil trivial ?_
   exact n_round (A.length - (i + 1)) (by omega) ⟨i + 1, by omega, rfl, rfl, rfl⟩ (wk hE [])
 · skip
   have hi : i = A.length := by omega
   rw [hi]
   refine w_exit ?_
   refine x_thn ?_
   refine x_thn ?_
   refine x_eq ?_
   refine n_wp ?_
   refine w_seq ?_
   refine g_reg hP hn ?_
   refine s_op k_mv ?_
   refine s_op k_eql ?_
   refine s_op k_as ?_
   refine s_nil trivial ?_
   refine n_wp ?_
   refine w_ret ?_
   exact d_ret hP hn hE [] (by first | exact r_tmp Try.results26 | exact r_tmpa Try.results26)

set_option maxRecDepth 100000 in
set_option maxHeartbeats 4000000 in
theorem lane_long_c (B : List Int) (h : 2048 < B.length) : Con Try.prog 17 [.s (.fzi .u8 B)] [] (.tup [.s (.int .u32 0), .s (.int .i64 3)]) [] := by
 refine con_in 27 Try.func17 rfl rfl (m := 0) rfl ?_
 intro E hP hn hE
 refine w_seq ?_
 refine g_reg hP hn ?_
 refine s_op k_as ?_
 refine s_op k_as ?_
 refine s_nil trivial ?_
 refine n_wp ?_
 refine w_seq ?_
 refine w_block ?_
 refine w_seq ?_
 refine g_reg hP hn ?_
 refine s_op k_mv ?_
 refine s_op k_len ?_
 refine s_op k_gtr ?_
 refine s_op k_as ?_
 refine s_nil trivial ?_
 refine n_wp ?_
 refine w_T rfl ?_ 
 refine w_seq ?_
 refine g_reg hP hn ?_
 refine s_op k_as ?_
 refine s_op k_as ?_
 refine s_nil trivial ?_
 refine n_wp ?_
 refine w_ret ?_
 refine r_blo ?_
 refine r_thn ?_
 exact d_ret hP hn hE [] (ret2 Try.results17 (by first | exact ri_tmp rfl | exact ri_tmpa rfl) (by first | exact ri_tmp rfl | exact ri_tmpa rfl))

set_option maxRecDepth 100000 in
set_option maxHeartbeats 4000000 in
theorem lane_short_c (B : List Int) (h : B.length < 29) : Con Try.prog 17 [.s (.fzi .u8 B)] [] (.tup [.s (.int .u32 0), .s (.int .i64 5)]) [] := by
 refine con_in 27 Try.func17 rfl rfl (m := 0) rfl ?_
 intro E hP hn hE
 refine w_seq ?_
 refine g_reg hP hn ?_
 refine s_op k_as ?_
 refine s_op k_as ?_
 refine s_nil trivial ?_
 refine n_wp ?_
 refine w_seq ?_
 refine w_block ?_
 refine w_seq ?_
 refine g_reg hP hn ?_
 refine s_op k_mv ?_
 refine s_op k_len ?_
 refine s_op k_gtr ?_
 refine s_op k_as ?_
 refine s_nil trivial ?_
 refine n_wp ?_
 refine w_F rfl ?_ 
 refine w_seq ?_
 refine g_reg hP hn ?_
 refine s_op k_mv ?_
 refine s_op k_len ?_
 refine s_op k_lss ?_
 refine s_op k_as ?_
 refine s_nil trivial ?_
 refine n_wp ?_
 refine w_T rfl ?_ 
 refine w_seq ?_
 refine g_reg hP hn ?_
 refine s_op k_as ?_
 refine s_op k_as ?_
 refine s_nil trivial ?_
 refine n_wp ?_
 refine w_ret ?_
 refine r_blo ?_
 refine r_thn ?_
 exact d_ret hP hn hE [] (ret2 Try.results17 (by first | exact ri_tmp rfl | exact ri_tmpa rfl) (by first | exact ri_tmp rfl | exact ri_tmpa rfl))

set_option maxRecDepth 100000 in
set_option maxHeartbeats 4000000 in
theorem lane_form_c (B : List Int) (h : 29 ≤ B.length) (h2 : B.length ≤ 2048) (h9 : B.getD 0 0 ≠ 9) : Con Try.prog 17 [.s (.fzi .u8 B)] [] (.tup [.s (.int .u32 0), .s (.int .i64 4)]) [] := by
 refine con_in 27 Try.func17 rfl rfl (m := 0) rfl ?_
 intro E hP hn hE
 refine w_seq ?_
 refine g_reg hP hn ?_
 refine s_op k_as ?_
 refine s_op k_as ?_
 refine s_nil trivial ?_
 refine n_wp ?_
 refine w_seq ?_
 refine w_block ?_
 refine w_seq ?_
 refine g_reg hP hn ?_
 refine s_op k_mv ?_
 refine s_op k_len ?_
 refine s_op k_gtr ?_
 refine s_op k_as ?_
 refine s_nil trivial ?_
 refine n_wp ?_
 refine w_F rfl ?_ 
 refine w_seq ?_
 refine g_reg hP hn ?_
 refine s_op k_mv ?_
 refine s_op k_len ?_
 refine s_op k_lss ?_
 refine s_op k_as ?_
 refine s_nil trivial ?_
 refine n_wp ?_
 refine w_F rfl ?_ 
 refine w_seq ?_
 refine g_reg hP hn ?_
 refine s_op k_mv ?_
 refine s_op k_ix ?_
 refine s_op k_ld ?_
 refine s_op k_neq ?_
 refine s_op k_as ?_
 refine s_nil trivial ?_
 refine n_wp ?_
 refine w_T rfl ?_ (decide_eq_true h9)
 refine w_seq ?_
 refine g_reg hP hn ?_
 refine s_op k_as ?_
 refine s_op k_as ?_
 refine s_nil trivial ?_
 refine n_wp ?_
 refine w_ret ?_
 refine r_blo ?_
 refine r_thn ?_
 exact d_ret hP hn hE [] (ret2 Try.results17 (by first | exact ri_tmp rfl | exact ri_tmpa rfl) (by first | exact ri_tmp rfl | exact ri_tmpa rfl))

set_option maxRecDepth 100000 in
set_option maxHeartbeats 4000000 in
theorem lane_ok_c (B : List Int) (h : 29 ≤ B.length) (h2 : B.length ≤ 2048) (h9 : B.getD 0 0 = 9) : Con Try.prog 17 [.s (.fzi .u8 B)] [] (.tup [.s (.int .u32 (IntKind.u32.wrap (getI ((B.drop 1).take (B.length - 1)) 4))), .s (.int .i64 0)]) [] := by
 refine con_in 27 Try.func17 rfl rfl (m := 0) rfl ?_
 intro E hP hn hE
 refine w_seq ?_
 refine g_reg hP hn ?_
 refine s_op k_as ?_
 refine s_op k_as ?_
 refine s_nil trivial ?_
 refine n_wp ?_
 refine w_seq ?_
 refine w_block ?_
 refine w_seq ?_
 refine g_reg hP hn ?_
 refine s_op k_mv ?_
 refine s_op k_len ?_
 refine s_op k_gtr ?_
 refine s_op k_as ?_
 refine s_nil trivial ?_
 refine n_wp ?_
 refine w_F rfl ?_ 
 refine w_seq ?_
 refine g_reg hP hn ?_
 refine s_op k_mv ?_
 refine s_op k_len ?_
 refine s_op k_lss ?_
 refine s_op k_as ?_
 refine s_nil trivial ?_
 refine n_wp ?_
 refine w_F rfl ?_ 
 refine w_seq ?_
 refine g_reg hP hn ?_
 refine s_op k_mv ?_
 refine s_op k_ix ?_
 refine s_op k_ld ?_
 refine s_op k_neq ?_
 refine s_op k_as ?_
 refine s_nil trivial ?_
 refine n_wp ?_
 refine w_F rfl ?_ (decide_eq_false (fun k => k h9))
 refine w_skip ?_
 refine n_blo ?_
 refine n_wp ?_
 refine w_seq ?_
 refine g_reg hP hn ?_
 refine s_op k_mv ?_
 refine s_op k_sl ?_
 refine s_op (k_call [] (con := get_c ((B.drop 1).take (B.length - 1)) 4 (by decide) (by decide) (by simp; omega))) ?_
 refine s_op k_mv ?_
 refine s_op k_ex ?_
 refine s_op k_ex ?_
 refine s_op k_as ?_
 refine s_op k_as ?_
 refine s_nil trivial ?_
 refine n_wp ?_
 refine w_seq ?_
 refine g_reg hP hn ?_
 refine s_op k_mv ?_
 refine s_op k_cv ?_
 refine s_op k_as ?_
 refine s_op k_as ?_
 refine s_nil trivial ?_
 refine n_wp ?_
 refine w_ret ?_
 exact d_ret hP hn hE [] (ret2 Try.results17 (by first | exact ri_tmp rfl | exact ri_tmpa rfl) (by first | exact ri_tmp rfl | exact ri_tmpa rfl))

set_option maxRecDepth 100000 in
set_option maxHeartbeats 4000000 in
theorem seal_long_c (M C B : List Int) (l n : Int) (h : 2019 < B.length) : Con Try.prog 16 [.agg [.ints .u8 32 M, .ints .u8 16 C], .s (.int .u32 l), .s (.int .u64 n), .s (.fzi .u8 B)] [] (.tup [.s .nils, .s (.int .i64 3)]) [] := by
 refine con_in 58 Try.func16 rfl rfl (m := 0) rfl ?_
 intro E hP hn hE
 refine w_seq ?_
 refine g_reg hP hn ?_
 refine s_op k_bxf ?_
 refine s_op k_as ?_
 refine s_op k_as ?_
 refine s_nil trivial ?_
 refine n_wp ?_
 refine w_seq ?_
 refine w_seq ?_
 refine g_reg hP hn ?_
 refine s_op k_mv ?_
 refine s_op k_len ?_
 refine s_op k_gtr ?_
 refine s_nil trivial ?_
 refine n_wp ?_
 refine w_T rfl ?_ 
 refine w_seq ?_
 refine g_reg hP hn ?_
 refine s_op k_as ?_
 refine s_op k_as ?_
 refine s_nil trivial ?_
 refine n_wp ?_
 refine w_ret ?_
 refine r_thn ?_
 exact d_ret hP hn hE [] (ret2 Try.results16 (by first | exact ri_tmp rfl | exact ri_tmpa rfl) (by first | exact ri_tmp rfl | exact ri_tmpa rfl))

set_option maxRecDepth 100000 in
set_option maxHeartbeats 4000000 in
theorem seal_c (M C B : List Int) (l n : Nat) (hM : M.length = 32) (hC : C.length = 16) (hC8 : U8 C) (hl : l < 4294967296) (hn64 : n < 18446744073709551616) (h : B.length ≤ 2019) : Con Try.prog 16 [.agg [.ints .u8 32 M, .ints .u8 16 C], .s (.int .u32 ((l : Nat) : Int)), .s (.int .u64 ((n : Nat) : Int)), .s (.fzi .u8 B)] [] (.tup [.s (.fzi .u8 (sealB M C l n B)), .s (.int .i64 0)]) [] := by
 refine con_in 58 Try.func16 rfl rfl (m := 0) rfl ?_
 intro E hP hn hE
 refine w_seq ?_
 refine g_reg hP hn ?_
 refine s_op k_bxf ?_
 refine s_op k_as ?_
 refine s_op k_as ?_
 refine s_nil trivial ?_
 refine n_wp ?_
 refine w_seq ?_
 refine w_seq ?_
 refine g_reg hP hn ?_
 refine s_op k_mv ?_
 refine s_op k_len ?_
 refine s_op k_gtr ?_
 refine s_nil trivial ?_
 refine n_wp ?_
 refine w_F rfl ?_ 
 refine w_skip ?_
 refine n_wp ?_
 refine w_seq ?_
 refine g_reg hP hn ?_
 refine s_op k_bsf ?_
 refine s_op k_mv ?_
 refine s_op k_cv ?_
 refine s_op (k_call [] (con := put_n [9] l 4 (by decide) (by decide) (by omega) (by decide))) ?_
 refine s_op k_mv ?_
 refine s_op (k_call [] (con := put_n ([9] ++ be 4 l) n 8 (by decide) (by decide) hn64 (by simp [be_len]))) ?_
 refine s_op k_as ?_
 refine s_nil trivial ?_
 refine n_wp ?_
 refine w_seq ?_
 refine g_reg hP hn ?_
 refine s_op k_mv ?_
 refine s_op k_len ?_
 refine s_op k_add ?_
 refine s_op k_mk ?_
 refine s_op k_as ?_
 refine s_nil trivial ?_
 refine n_wp ?_
 refine w_seq ?_
 refine g_reg hP hn ?_
 refine s_op k_mv ?_
 refine s_op k_mv ?_
 refine s_op (k_cpg 13 (hn := by simp [be_len]; omega)) ?_
 refine s_nil trivial ?_
 refine n_wp ?_
 refine w_seq ?_
 rw [ahB_def, so1_eq l n B]
 refine g_any hP hn ?_
 refine s_op k_mv ?_
 refine s_op k_sl ?_
 refine s_op k_fa ?_
 refine s_op k_ld ?_
 refine s_op k_mv ?_
 refine s_op (k_call [] (con := first_b (ahB l n) (by rw [ahB_len]; omega))) ?_
 refine s_op k_mv ?_
 refine s_op (k_call [] (con := stream_c C (fiB (ahB l n)) B hC8 (fiB_len _) (U8_fiB (U8_ahB _ _)) (by omega))) ?_
 refine s_op (k_cpg B.length (hn := by rw [streamI_len]; omega) (hxl := by simp [ahB_len]; omega)) ?_
 refine s_nil (by kernel_rfl) ?_
 refine n_wp ?_
 refine w_seq ?_
 rw [so2_eq C l n B]
 refine g_any hP hn ?_
 refine s_op k_fa ?_
 refine s_op k_slp ?_
 refine s_op k_mv ?_
 refine s_op k_mv ?_
 refine s_op k_len ?_
 refine s_op k_add ?_
 refine s_op k_mv ?_
 refine s_op k_len ?_
 refine s_op k_add ?_
 refine s_op k_sl ?_
 refine s_op (k_bsS [.slice 2 0 0 (13 + B.length) (13 + B.length)]) ?_
 have hcv : AConv [3, 2] [none, none, some ⟨false, [.ints .u8 (29 + B.length) (seal1 C l n B ++ List.replicate 16 0)]⟩, some ⟨false, [.one (.slice 2 0 0 (13 + B.length) (13 + B.length))]⟩] (.s (.slice 3 0 0 1 1)) (.s (ROWS [seal1 C l n B])) := conv_rows1 rfl rfl rfl (conv_sl (l' := seal1 C l n B) rfl rfl rfl (by omega) (by omega) (by simp [seal1_len]; omega) (so_take C l n B)) rfl rfl
 refine s_op (k_tmp 2 (h := k_tmp 3 (h := k_call [] (R := [3, 2]) (hargs := by exact .cons (R1 := []) (R2 := [3, 2]) rfl .same (.cons (R1 := [3, 2]) (R2 := []) rfl hcv .nil)) (con := mac_1 M (seal1 C l n B) hM (by rw [seal1_len]; omega))))) ?_
 refine s_op k_al ?_
 refine s_st k_st ?_
 refine s_nil (by kernel_rfl) ?_
 refine n_wp ?_
 refine w_seq ?_
 refine w_weak (frz_ptr 12 32) ?_
 refine g_any hP hn ?_
 refine s_op k_mv ?_
 refine s_op k_mv ?_
 refine s_op k_len ?_
 refine s_op k_add ?_
 refine s_op k_sl ?_
 refine s_op (k_slph 16 (hxl := hmB_len _ _)) ?_
 refine s_op (k_cpg 16 (hn := by simp [hmB_len]; omega) (hxl := by simp [seal1_len]; omega)) ?_
 refine s_nil (by kernel_rfl) ?_
 refine n_wp ?_
 refine w_seq ?_
 rw [so3_eq C l n B _ (hmB_len _ _)]
 refine g_reg hP hn ?_
 refine s_op k_mv ?_
 refine s_op k_as ?_
 refine s_op k_as ?_
 refine s_nil trivial ?_
 refine n_wp ?_
 refine w_weak (frz_sl 8 (l' := sealB M C l n B) (hl := by simp [seal1_len, hmB_len]; omega) (hl' := by rw [List.drop_zero, sealB_def]; exact List.take_of_length_le (by rw [List.length_append, seal1_len, List.length_take, hmB_len]; omega))) ?_
 refine w_ret ?_
 exact d_ret hP hn hE [] (ret2 Try.results16 (by first | exact ri_tmp rfl | exact ri_tmpa rfl) (by first | exact ri_tmp rfl | exact ri_tmpa rfl))

theorem same_ok (A B : List Int) (h : A = B) (hA : A.length ≤ 140737488355000) : Con Try.prog 26 [.s (.fzi .u8 A), .s (.fzi .u8 B)] [] (.s (.bool true)) [] := by
 subst h
 have h := same_c A A rfl hA
 rwa [show decide (mo A A A.length = 0) = true from decide_eq_true (mo_self A _)] at h
theorem same_no (A B : List Int) (hl : A.length = B.length) (hA : A.length ≤ 140737488355000) (hne : mo A B A.length ≠ 0) : Con Try.prog 26 [.s (.fzi .u8 A), .s (.fzi .u8 B)] [] (.s (.bool false)) [] := by
 have h := same_c A B hl hA
 rwa [show decide (mo A B A.length = 0) = false from decide_eq_false hne] at h
theorem lane_n (B : List Int) (h : 29 ≤ B.length) (h2 : B.length ≤ 2048) (h9 : B.getD 0 0 = 9) (hU : U8' B) : Con Try.prog 17 [.s (.fzi .u8 B)] [] (.tup [.s (.int .u32 ((laneB B : Nat) : Int)), .s (.int .i64 0)]) [] := by
 have h1 := lane_ok_c B h h2 h9
 rwa [lane_form hU h] at h1

set_option maxRecDepth 100000 in
set_option maxHeartbeats 4000000 in
theorem open_c (M C B : List Int) (hM : M.length = 32) (hC : C.length = 16) (hC8 : U8 C) (hU : U8' B) (h29 : 29 ≤ B.length) (h2 : B.length ≤ 2048) (h9 : B.getD 0 0 = 9) (hmac : (hmB M (B.take (B.length - 16))).take 16 = B.drop (B.length - 16)) : Con Try.prog 18 [.agg [.ints .u8 32 M, .ints .u8 16 C], .s (.fzi .u8 B)] [] (.tup [.s (.int .u32 ((laneB B : Nat) : Int)), .s (.int .u64 ((numB B : Nat) : Int)), .s (.fzi .u8 (streamI C (fiB B) (bodyB B))), .s (.int .i64 0)]) [] := by
 refine con_in 52 Try.func18 rfl rfl (m := 0) rfl ?_
 intro E hP hn hE
 have hmac1 := mac_form M B hmac
 have hget8 := get_n ((B.drop 5).take (B.length - 5)) 8 (by decide) (by decide) (by simp; omega) (U8'_take (U8'_drop hU 5) _)
 rw [show gN ((B.drop 5).take (B.length - 5)) 8 = numB B by rw [List.take_of_length_le (by simp)]; rfl] at hget8
 refine w_seq ?_
 refine g_reg hP hn ?_
 refine s_op k_bxf ?_
 refine s_op k_as ?_
 refine s_op k_as ?_
 refine s_op k_as ?_
 refine s_op k_as ?_
 refine s_nil trivial ?_
 refine n_wp ?_
 refine w_seq ?_
 refine w_seq ?_
 refine g_reg hP hn ?_
 refine s_op k_mv ?_
 refine s_op (k_call [] (con := lane_n B h29 h2 h9 hU)) ?_
 refine s_op k_mv ?_
 refine s_op k_ex ?_
 refine s_op k_ex ?_
 refine s_op k_as ?_
 refine s_op k_as ?_
 refine s_nil trivial ?_
 refine n_wp ?_
 refine w_seq ?_
 refine g_reg hP hn ?_
 refine s_op k_mv ?_
 refine s_op k_neq ?_
 refine s_nil trivial ?_
 refine n_wp ?_
 refine w_F rfl ?_ 
 refine w_skip ?_
 refine n_wp ?_
 refine w_seq ?_
 refine g_reg hP hn ?_
 refine s_op k_mv ?_
 refine s_op k_len ?_
 refine s_op k_sub ?_
 refine s_op k_as ?_
 refine s_nil trivial ?_
 refine n_wp ?_
 refine w_seq ?_
 refine g_any hP hn ?_
 refine s_op k_fa ?_
 refine s_op k_slp ?_
 refine s_op k_mv ?_
 refine s_op k_mv ?_
 refine s_op k_mv ?_
 refine s_op k_sl ?_
 refine s_op (k_bsz [.fzi .u8 ((B.drop 0).take (B.length - 16))]) ?_
 refine s_op (k_call [] (con := mac_1 M ((B.drop 0).take (B.length - 16)) hM (by simp; omega))) ?_
 refine s_op k_al ?_
 refine s_st k_st ?_
 refine s_nil (by kernel_rfl) ?_
 refine n_wp ?_
 refine w_seq ?_
 refine w_seq ?_
 refine w_weak (frz_ptr 9 32) ?_
 refine g_any hP hn ?_
 refine s_op (k_slph 16 (hxl := hmB_len _ _)) ?_
 refine s_op k_mv ?_
 refine s_op k_mv ?_
 refine s_op k_sl ?_
 refine s_op (k_call [] (con := same_ok _ _ hmac1 (by rw [List.length_take, hmB_len]; omega))) ?_
 refine s_op k_not ?_
 refine s_nil (by kernel_rfl) ?_
 refine n_wp ?_
 refine w_F rfl ?_ 
 refine w_skip ?_
 refine n_wp ?_
 refine w_seq ?_
 refine g_reg hP hn ?_
 refine s_op k_mv ?_
 refine s_op k_sl ?_
 refine s_op (k_call [] (con := hget8)) ?_
 refine s_op k_mv ?_
 refine s_op k_ex ?_
 refine s_op k_ex ?_
 refine s_op k_as ?_
 refine s_nil trivial ?_
 refine n_wp ?_
 refine w_seq ?_
 refine g_any hP hn ?_
 refine s_op k_mv ?_
 refine s_op k_mv ?_
 refine s_op k_fa ?_
 refine s_op k_ld ?_
 refine s_op k_mv ?_
 refine s_op (k_call [] (con := first_b B (by omega))) ?_
 refine s_op k_mv ?_
 refine s_op k_mv ?_
 refine s_op k_mv ?_
 refine s_op k_sl ?_
 refine s_op (k_call [] (con := stream_c C (fiB B) (bodyB B) hC8 (fiB_len _) (U8_fiB hU) (by simp [bodyB]; omega))) ?_
 refine s_op k_as ?_
 refine s_op k_as ?_
 refine s_op k_as ?_
 refine s_op k_as ?_
 refine s_nil (by kernel_rfl) ?_
 refine n_wp ?_
 refine w_ret ?_
 exact d_ret hP hn hE [] (ret4 Try.results18 (by first | exact ri_tmp rfl | exact ri_tmpa rfl) (by first | exact ri_tmp rfl | exact ri_tmpa rfl) (by first | exact ri_tmp rfl | exact ri_tmpa rfl) (by first | exact ri_tmp rfl | exact ri_tmpa rfl))

end Go.Proofs.X
