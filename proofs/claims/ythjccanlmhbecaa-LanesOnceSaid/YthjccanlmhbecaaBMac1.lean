/- A part of the proofs of this claim: BMac1 (BMac1). No conditions. -/
import Derived.Test.YthjccanlmhbecaaBRow1
import Derived.Test.YthjccanlmhbecaaBSha3
import Derived.Test.YthjccanlmhbecaaBMacT
set_option linter.unusedVariables false
set_option linter.unusedSimpArgs false
open Go Go.Bx Go.Proofs
namespace Go.Proofs.X
attribute [local irreducible] tk rr ws ls dnI gI
set_option maxRecDepth 100000 in
set_option maxHeartbeats 4000000 in
theorem new_c  : Con Try.prog 34 [] [] (.s (.ptr 0 0 0)) [some (RQ run0 0)] := by
 refine con_in 5 Try.func34 rfl rfl (m := 0) rfl ?_
 intro E hP hn hE
 refine w_seq ?_
 refine g_reg hP hn ?_
 refine s_op k_as ?_
 refine s_nil trivial ?_
 refine n_wp ?_
 refine w_seq ?_
 refine g_reg hP hn ?_
 refine s_op (k_bd (by exact a_buildK S0 (by kernel_rfl) (by kernel_rfl) rfl)) ?_
 refine s_op k_bxf ?_
 refine s_op k_bd ?_
 refine s_op k_bx ?_
 refine s_op k_as ?_
 refine s_nil trivial ?_
 refine n_wp ?_
 refine w_ret ?_
 exact d_ret hP hn hE [1] (by first | exact r_tmp Try.results34 | exact r_tmpa Try.results34)

theorem takes1_c (a : List Int) (q : Run) (tot : Nat) (hq : RunOk q) (hl : tot + a.length < 4611686018427387904) : Con Try.prog 43 [.s (.ptr 0 0 0), .s (ROWS [a])] [some (RQ q tot)] (.tup []) [some (RQ (tk q a) (tot + a.length))] := by
 have h := takes_c [a] q tot hq (Nat.le_of_ble_eq_true rfl) (by simp; omega) (fun i => by match i with | 0 => (show a.length ≤ _; omega) | _ + 1 => simp)
 rw [show [a].flatten = a by simp] at h
 exact h
theorem takes3_c (a b c : List Int) (q : Run) (tot : Nat) (hq : RunOk q) (hl : tot + (a.length + (b.length + c.length)) < 4611686018427387904) : Con Try.prog 43 [.s (.ptr 0 0 0), .s (ROWS [a, b, c])] [some (RQ q tot)] (.tup []) [some (RQ (tk (tk (tk q a) b) c) (tot + (a.length + (b.length + c.length))))] := by
 have h := takes_c [a, b, c] q tot hq (Nat.le_of_ble_eq_true rfl) (by simp; omega) (fun i => by match i with | 0 => (show a.length ≤ _; omega) | 1 => (show b.length ≤ _; omega) | 2 => (show c.length ≤ _; omega) | _ + 3 => simp)
 rw [show [a, b, c].flatten = a ++ (b ++ c) by simp, tk_append, tk_append, List.length_append, List.length_append] at h
 exact h

set_option maxRecDepth 100000 in
set_option maxHeartbeats 4000000 in
theorem write_c (B : List Int) (q : Run) (tot : Nat) (hq : RunOk q) (hl : tot + B.length < 4611686018427387904) : Con Try.prog 35 [.s (.ptr 0 0 0), .s (.fzi .u8 B)] [some (RQ q tot)] (.s (.int .i64 0)) [some (RQ (tk q B) (tot + B.length))] := by
 refine con_in 18 Try.func35 rfl rfl (m := 1) rfl ?_
 intro E hP hn hE
 refine w_seq ?_
 refine g_reg hP hn ?_
 refine s_op k_as ?_
 refine s_nil trivial ?_
 refine n_wp ?_
 refine w_seq ?_
 refine w_seq ?_
 refine g_reg hP hn ?_
 refine s_op k_mv ?_
 refine s_op k_eql ?_
 refine s_op k_mv ?_
 first | refine s_on rfl rfl rfl k_mv ?_ | refine s_off rfl rfl rfl ?_ | refine s_opf rfl rfl (fun hB => by rw [hB]; try (have hB' := of_decide_eq_true hB); exact k_mv) ?_
 first | refine s_on rfl rfl rfl k_nc ?_ | refine s_off rfl rfl rfl ?_ | refine s_opf rfl rfl (fun hB => by rw [hB]; try (have hB' := of_decide_eq_true hB); exact k_nc) ?_
 first | refine s_on rfl rfl rfl k_fa ?_ | refine s_off rfl rfl rfl ?_ | refine s_opf rfl rfl (fun hB => by rw [hB]; try (have hB' := of_decide_eq_true hB); exact k_fa) ?_
 first | refine s_on rfl rfl rfl k_ld ?_ | refine s_off rfl rfl rfl ?_ | refine s_opf rfl rfl (fun hB => by rw [hB]; try (have hB' := of_decide_eq_true hB); exact k_ld) ?_
 first | refine s_on rfl rfl rfl k_eql ?_ | refine s_off rfl rfl rfl ?_ | refine s_opf rfl rfl (fun hB => by rw [hB]; try (have hB' := of_decide_eq_true hB); exact k_eql) ?_
 refine s_op k_pk ?_
 refine s_nil trivial ?_
 refine n_wp ?_
 refine w_F rfl ?_ 
 refine w_skip ?_
 refine n_wp ?_
 refine w_seq ?_
 refine g_reg hP hn ?_
 refine s_op k_mv ?_
 refine s_op k_mv ?_
 refine s_op (k_bsz [.fzi .u8 B]) ?_
 refine s_op (k_call [0] (con := takes1_c B q tot hq hl)) ?_
 refine s_nil trivial ?_
 refine n_wp ?_
 refine w_seq ?_
 refine g_reg hP hn ?_
 refine s_op k_as ?_
 refine s_nil trivial ?_
 refine n_wp ?_
 refine w_ret ?_
 exact d_ret hP hn hE [] (by first | exact r_tmp Try.results35 | exact r_tmpa Try.results35)

theorem put8_c (v : Int) : Con Try.prog 21 [.s (.fzi .u8 []), .s (.int .u64 v), .s (.int .i64 ((8 : Nat) : Int))] [] (.s (.fzi .u8 (rr 8 8 1 [v] 1))) [] := put_c [] v 8 (Nat.le_refl _) (Nat.le_of_ble_eq_true rfl)
theorem putob_c (s : List Int) (i : Nat) (hi : i < 8) : Con Try.prog 21 [.s (.fzi .u8 (ob s i)), .s (.int .u64 (IntKind.u64.wrap (s.getD i 0))), .s (.int .i64 ((4 : Nat) : Int))] [] (.s (.fzi .u8 (ob s (i + 1)))) [] := by
 have h := put_c (ob s i) (IntKind.u64.wrap (s.getD i 0)) 4 (by omega) (by rw [ob_len]; omega)
 rw [ob_len] at h
 exact h

set_option maxRecDepth 100000 in
set_option maxHeartbeats 4000000 in
theorem sum_c (q : Run) (tot : Nat) (hq : RunOk q) (hl : tot < 4611686018427387000) : Con Try.prog 36 [.s (.ptr 0 0 0)] [some (RQ q tot)] (.agg [.ints .u8 32 (sumL q tot)]) [some (RQ q tot)] := by
 refine con_in 56 Try.func36 rfl rfl (m := 1) rfl ?_
 intro E hP hn hE
 refine w_seq ?_
 refine g_reg hP hn ?_
 refine s_op k_al ?_
 refine s_nil trivial ?_
 refine n_wp ?_
 refine w_seq ?_
 refine w_seq ?_
 refine g_reg hP hn ?_
 refine s_op k_mv ?_
 refine s_op k_eql ?_
 refine s_op k_mv ?_
 first | refine s_on rfl rfl rfl k_mv ?_ | refine s_off rfl rfl rfl ?_ | refine s_opf rfl rfl (fun hB => by rw [hB]; try (have hB' := of_decide_eq_true hB); exact k_mv) ?_
 first | refine s_on rfl rfl rfl k_nc ?_ | refine s_off rfl rfl rfl ?_ | refine s_opf rfl rfl (fun hB => by rw [hB]; try (have hB' := of_decide_eq_true hB); exact k_nc) ?_
 first | refine s_on rfl rfl rfl k_fa ?_ | refine s_off rfl rfl rfl ?_ | refine s_opf rfl rfl (fun hB => by rw [hB]; try (have hB' := of_decide_eq_true hB); exact k_fa) ?_
 first | refine s_on rfl rfl rfl k_ld ?_ | refine s_off rfl rfl rfl ?_ | refine s_opf rfl rfl (fun hB => by rw [hB]; try (have hB' := of_decide_eq_true hB); exact k_ld) ?_
 first | refine s_on rfl rfl rfl k_eql ?_ | refine s_off rfl rfl rfl ?_ | refine s_opf rfl rfl (fun hB => by rw [hB]; try (have hB' := of_decide_eq_true hB); exact k_eql) ?_
 refine s_op k_pk ?_
 refine s_nil trivial ?_
 refine n_wp ?_
 refine w_F rfl ?_ 
 refine w_skip ?_
 refine n_wp ?_
 refine w_seq ?_
 refine g_reg hP hn ?_
 refine s_op k_mv ?_
 refine s_op k_nc ?_
 refine s_op k_ld ?_
 refine s_op k_al ?_
 refine s_st k_st ?_
 refine s_nil trivial ?_
 refine n_wp ?_
 refine w_seq ?_
 refine g_reg hP hn ?_
 have hqm := hq.m
 refine s_op k_mv ?_
 refine s_op k_nc ?_
 refine s_op k_fa ?_
 refine s_op k_fa ?_
 refine s_op k_ld ?_
 refine s_op k_sub ?_
 refine s_op k_rem ?_
 refine s_op k_mk ?_
 refine s_op k_as ?_
 refine s_nil trivial ?_
 refine n_wp ?_
 refine w_seq ?_
 refine w_weak (frz_sl 4 (l' := (List.replicate ((119 - q.m) % 64) 0)) (hl := List.length_replicate) (hl' := by rw [List.drop_zero]; exact List.take_of_length_le (by simp))) ?_
 refine g_reg hP hn ?_
 refine s_op k_bsf ?_
 refine s_op k_mv ?_
 refine s_op k_mv ?_
 refine s_op k_nc ?_
 refine s_op k_fa ?_
 refine s_op k_ld ?_
 refine s_op (k_mul (by exact l_bin rfl rfl (b_mul rfl))) ?_
 refine s_op (k_call [] (con := put8_c _)) ?_
 refine s_op (k_bsz [.fzi .u8 [128], .fzi .u8 (List.replicate ((119 - q.m) % 64) 0), .fzi .u8 (rr 8 8 1 [IntKind.u64.wrap (8 * ((tot : Nat) : Int))] 1)]) ?_
 refine s_op (k_call [2] (con := takes3_c [128] (List.replicate ((119 - q.m) % 64) 0) (rr 8 8 1 [IntKind.u64.wrap (8 * ((tot : Nat) : Int))] 1) q tot hq (by simp [rr_len]; omega)) (H' := [some (RQ q tot), some ⟨true, [.ints .u8 32 (z 32)]⟩, some (RQ (sumQ q tot) (tot + ([128].length + ((List.replicate ((119 - q.m) % 64) 0).length + (rr 8 8 1 [IntKind.u64.wrap (8 * ((tot : Nat) : Int))] 1).length)))), none, none, none]) (hH := rfl)) ?_
 refine s_nil trivial ?_
 refine n_wp ?_
 refine w_seq ?_
 refine g_reg hP hn ?_
 refine s_op k_sl ?_
 refine s_op k_as ?_
 refine s_nil trivial ?_
 refine n_wp ?_
 refine w_seq ?_
 refine w_seq ?_
 refine g_reg hP hn ?_
 refine s_op k_fa ?_
 refine s_op k_ld ?_
 refine s_op k_mv ?_
 refine s_nil trivial ?_
 refine n_wp ?_
 refine w_block ?_
 refine c_loop (fun m T H => ∃ i, i ≤ 8 ∧ m = 8 - i ∧ T = [(2, .s (.ptr 1 0 0)), (5, .s (.fzi .u8 (ob (sumQ q tot).s i))), (41, .s (.fptr 8 (cellsF [.ints .u32 8 (sumQ q tot).s]) 0 0)), (42, .s (.int .i64 ((i : Nat) : Int)))] ∧ H = [some (RQ q tot), some ⟨true, [.ints .u8 32 (z 32)]⟩]) (8) ⟨0, by omega, rfl, rfl, rfl⟩ ((weak_conv 5 rfl conv_slz).trans (wk hE [])) ?_
 rintro n_ T_ H_ ⟨i, hi, rfl, rfl, rfl⟩
 refine w_seq ?_
 refine g_reg hP hn ?_
 refine s_op k_lss ?_
 refine s_nil trivial ?_
 refine n_wp ?_
 refine w_seq ?_
 refine w_if rfl (fun h_t43 => ?_) (fun h_t43 => ?_)
 · skip
   refine w_skip ?_
   refine n_wp ?_
   refine w_seq ?_
   refine w_block ?_
   refine w_seq ?_
   refine g_reg hP hn ?_
   refine s_op k_nc ?_
   refine s_op k_ix ?_
   refine s_op k_ld ?_
   refine s_op k_as ?_
   refine s_nil trivial ?_
   refine n_wp ?_
   refine g_reg hP hn ?_
   refine s_op k_mv ?_
   refine s_op k_mv ?_
   refine s_op k_cv ?_
   refine s_op (k_call [] (con := putob_c (sumQ q tot).s i h_t43)) ?_
   refine s_op k_as ?_
   refine s_nil trivial ?_
   refine n_blo ?_
   refine n_wp ?_
   refine g_reg hP hn ?_
   refine s_op k_add ?_
   refine s_op k_mv ?_
   refine s_nil trivial ?_
   exact n_round (8 - (i + 1)) (by omega) ⟨i + 1, by omega, rfl, rfl, rfl⟩ (wk hE [])
 · skip
   have hi : i = 8 := by omega
   subst hi
   refine w_exit ?_
   refine x_thn ?_
   refine x_thn ?_
   refine x_eq ?_
   refine n_wp ?_
   refine w_seq ?_
   refine g_reg hP hn ?_
   refine s_op k_sl ?_
   refine s_op k_mv ?_
   refine s_op (k_cpn 32 (hn := by rw [ob_len]; rfl) (hz := rfl)) ?_
   refine s_nil trivial ?_
   refine n_wp ?_
   refine w_seq ?_
   refine g_reg hP hn ?_
   refine s_op k_ld ?_
   refine s_st k_st ?_
   refine s_nil trivial ?_
   refine n_wp ?_
   refine w_ret ?_
   exact d_ret hP hn hE [] (r_cell Try.results36)

end Go.Proofs.X
