/- A part of the proofs of this claim: BWin1 (BWin1). No conditions. -/
import Derived.Test.YthjccanlmhbecaaBWinT
set_option linter.unusedVariables false
set_option linter.unusedSimpArgs false
open Go Go.Bx Go.Proofs
namespace Go.Proofs.X
set_option maxRecDepth 100000 in
set_option maxHeartbeats 4000000 in
theorem win_new_c  : Con Try.prog 15 [] [] (.s (.ptr 0 0 0)) [some ⟨true, WIN (List.replicate 64 0) 0 0⟩] := by
 refine con_in 4 Try.func15 rfl rfl (m := 0) rfl ?_
 intro E hP hn hE
 refine w_seq ?_
 refine g_reg hP hn ?_
 refine s_op k_as ?_
 refine s_nil trivial ?_
 refine n_wp ?_
 refine w_seq ?_
 refine g_reg hP hn ?_
 refine s_op k_bd ?_
 refine s_op k_bd ?_
 refine s_op k_bx ?_
 refine s_op k_as ?_
 refine s_nil trivial ?_
 refine n_wp ?_
 refine w_ret ?_
 exact d_ret hP hn hE [] (by first | exact r_tmp Try.results15 | exact r_tmpa Try.results15)

set_option maxRecDepth 100000 in
set_option maxHeartbeats 4000000 in
theorem win_there_c (l : List Nat) (h n : Nat) : Con Try.prog 28 [.s (.ptr 0 0 0)] [some ⟨true, WIN l h n⟩] (.s (.bool true)) [some ⟨true, WIN l h n⟩] := by
 refine con_in 13 Try.func28 rfl rfl (m := 1) rfl ?_
 intro E hP hn hE
 refine w_seq ?_
 refine g_reg hP hn ?_
 refine s_op k_as ?_
 refine s_nil trivial ?_
 refine n_wp ?_
 refine w_seq ?_
 refine g_reg hP hn ?_
 refine s_op k_mv ?_
 refine s_op k_neq ?_
 refine s_op k_mv ?_
 first | refine s_on rfl rfl rfl k_mv ?_ | refine s_off rfl rfl rfl ?_ | refine s_opt rfl rfl (fun hB => by rw [hB]; try (have hB' := of_decide_eq_true hB); exact k_mv) ?_
 first | refine s_on rfl rfl rfl k_nc ?_ | refine s_off rfl rfl rfl ?_ | refine s_opt rfl rfl (fun hB => by rw [hB]; try (have hB' := of_decide_eq_true hB); exact k_nc) ?_
 first | refine s_on rfl rfl rfl k_fa ?_ | refine s_off rfl rfl rfl ?_ | refine s_opt rfl rfl (fun hB => by rw [hB]; try (have hB' := of_decide_eq_true hB); exact k_fa) ?_
 first | refine s_on rfl rfl rfl k_ld ?_ | refine s_off rfl rfl rfl ?_ | refine s_opt rfl rfl (fun hB => by rw [hB]; try (have hB' := of_decide_eq_true hB); exact k_ld) ?_
 first | refine s_on rfl rfl rfl k_bd ?_ | refine s_off rfl rfl rfl ?_ | refine s_opt rfl rfl (fun hB => by rw [hB]; try (have hB' := of_decide_eq_true hB); exact k_bd) ?_
 first | refine s_on rfl rfl rfl (l_litb (r := .bool true) (z := .bool true) (by exact rfl) (by exact rfl) (by exact rfl) (by exact rfl) (fun w => by kernel_rfl) (fun w => by kernel_rfl) (by exact rfl) (by exact rfl)) ?_ | refine s_off rfl rfl rfl ?_ | refine s_opt rfl rfl (fun hB => by rw [hB]; try (have hB' := of_decide_eq_true hB); exact (l_litb (r := .bool true) (z := .bool true) (by exact rfl) (by exact rfl) (by exact rfl) (by exact rfl) (fun w => by kernel_rfl) (fun w => by kernel_rfl) (by exact rfl) (by exact rfl))) ?_
 refine s_op k_pk ?_
 refine s_op k_as ?_
 refine s_nil trivial ?_
 refine n_wp ?_
 refine w_ret ?_
 exact d_ret hP hn hE [] (by first | exact r_tmp Try.results28 | exact r_tmpa Try.results28)

set_option maxRecDepth 100000 in
set_option maxHeartbeats 4000000 in
theorem win_fits_c (l : List Nat) (h n x : Nat) (hl : l.length = 64) (hx : x < 18446744073709551616) (hh : h < 18446744073709551616) : Con Try.prog 27 [.s (.ptr 0 0 0), .s (.int .u64 ((x : Nat) : Int))] [some ⟨true, WIN l h n⟩] (.s (.int .i64 ((fitsW l h x : Nat) : Int))) [some ⟨true, WIN l h n⟩] := by
 refine con_in 38 Try.func27 rfl rfl (m := 1) rfl ?_
 intro E hP hn hE
 refine w_seq ?_
 refine g_reg hP hn ?_
 refine s_op k_as ?_
 refine s_nil trivial ?_
 refine n_wp ?_
 refine w_seq ?_
 refine w_block ?_
 refine w_seq ?_
 refine g_reg hP hn ?_
 refine s_op k_mv ?_
 refine s_op (k_call [0] (con := win_there_c l h n) (H' := [some ⟨true, WIN l h n⟩]) (hH := rfl)) ?_
 refine s_op k_not ?_
 refine s_op k_as ?_
 refine s_nil trivial ?_
 refine n_wp ?_
 refine w_F rfl ?_ 
 refine w_seq ?_
 refine g_reg hP hn ?_
 refine s_op k_mv ?_
 refine s_op k_eql ?_
 refine s_op k_as ?_
 refine s_nil trivial ?_
 refine n_wp ?_
 refine w_if rfl (fun h_t9 => ?_) (fun h_t9 => ?_)
 · skip
   rw [show fitsW l h x = 1 by unfold fitsW; rw [if_pos h_t9]]
   refine w_seq ?_
   refine g_reg hP hn ?_
   refine s_op k_as ?_
   refine s_nil trivial ?_
   refine n_wp ?_
   refine w_ret ?_
   refine r_blo ?_
   refine r_thn ?_
   exact d_ret hP hn hE [] (by first | exact r_tmp Try.results27 | exact r_tmpa Try.results27)
 · skip
   refine w_seq ?_
   refine g_reg hP hn ?_
   refine s_op k_mv ?_
   refine s_op k_nc ?_
   refine s_op k_fa ?_
   refine s_op k_ld ?_
   refine s_op k_mv ?_
   refine s_op k_gtr ?_
   refine s_op k_mv ?_
   first | refine s_on rfl rfl rfl k_mv ?_ | refine s_off rfl rfl rfl ?_ | refine s_opt rfl rfl (fun hB => by rw [hB]; try (have hB' := of_decide_eq_true hB); exact k_mv) ?_
   first | refine s_on rfl rfl rfl k_nc ?_ | refine s_off rfl rfl rfl ?_ | refine s_opt rfl rfl (fun hB => by rw [hB]; try (have hB' := of_decide_eq_true hB); exact k_nc) ?_
   first | refine s_on rfl rfl rfl k_fa ?_ | refine s_off rfl rfl rfl ?_ | refine s_opt rfl rfl (fun hB => by rw [hB]; try (have hB' := of_decide_eq_true hB); exact k_fa) ?_
   first | refine s_on rfl rfl rfl k_ld ?_ | refine s_off rfl rfl rfl ?_ | refine s_opt rfl rfl (fun hB => by rw [hB]; try (have hB' := of_decide_eq_true hB); exact k_ld) ?_
   first | refine s_on rfl rfl rfl k_mv ?_ | refine s_off rfl rfl rfl ?_ | refine s_opt rfl rfl (fun hB => by rw [hB]; try (have hB' := of_decide_eq_true hB); exact k_mv) ?_
   first | refine s_on rfl rfl rfl k_sub ?_ | refine s_off rfl rfl rfl ?_ | refine s_opt rfl rfl (fun hB => by rw [hB]; try (have hB' := of_decide_eq_true hB); exact k_sub) ?_
   first | refine s_on rfl rfl rfl k_geq ?_ | refine s_off rfl rfl rfl ?_ | refine s_opt rfl rfl (fun hB => by rw [hB]; try (have hB' := of_decide_eq_true hB); exact k_geq) ?_
   refine s_op k_pk ?_
   refine s_op k_as ?_
   refine s_nil trivial ?_
   refine n_wp ?_
   refine w_cond rfl (fun h_t12 => ?_) (fun h_t12 => ?_)
   · skip
     simp only [Bool.and_eq_true, decide_eq_true_eq] at h_t12
     rw [show fitsW l h x = 13 by unfold fitsW; rw [if_neg h_t9, if_pos h_t12]]
     refine w_seq ?_
     refine g_reg hP hn ?_
     refine s_op k_as ?_
     refine s_nil trivial ?_
     refine n_wp ?_
     refine w_ret ?_
     refine r_blo ?_
     refine r_thn ?_
     exact d_ret hP hn hE [] (by first | exact r_tmp Try.results27 | exact r_tmpa Try.results27)
   · skip
     have h12 : ¬ (x < h ∧ 64 ≤ h - x) := by simpa using h_t12
     refine w_seq ?_
     refine g_reg hP hn ?_
     refine s_op k_mv ?_
     refine s_op k_mv ?_
     refine s_op k_rem ?_
     refine s_op k_nc ?_
     refine s_op k_fa ?_
     refine s_op k_ix ?_
     refine s_op k_ld ?_
     refine s_op k_mv ?_
     refine s_op k_eql ?_
     refine s_op k_as ?_
     refine s_nil trivial ?_
     refine n_wp ?_
     refine w_if rfl (fun h_t28 => ?_) (fun h_t28 => ?_)
     · skip
       rw [show fitsW l h x = 8 by unfold fitsW; rw [if_neg h_t9, if_neg h12, if_pos h_t28]]
       refine w_seq ?_
       refine g_reg hP hn ?_
       refine s_op k_as ?_
       refine s_nil trivial ?_
       refine n_wp ?_
       refine w_ret ?_
       refine r_blo ?_
       refine r_thn ?_
       exact d_ret hP hn hE [] (by first | exact r_tmp Try.results27 | exact r_tmpa Try.results27)
     · skip
       rw [show fitsW l h x = 0 by unfold fitsW; rw [if_neg h_t9, if_neg h12, if_neg h_t28]]
       refine w_skip ?_
       refine n_blo ?_
       refine n_wp ?_
       refine w_seq ?_
       refine g_reg hP hn ?_
       refine s_op k_as ?_
       refine s_nil trivial ?_
       refine n_wp ?_
       refine w_ret ?_
       exact d_ret hP hn hE [] (by first | exact r_tmp Try.results27 | exact r_tmpa Try.results27)

set_option maxRecDepth 100000 in
set_option maxHeartbeats 4000000 in
theorem win_take_c (l : List Nat) (h n x : Nat) (hl : l.length = 64) (hx : x < 18446744073709551616) (hh : h < 18446744073709551616) (hn1 : n + 1 < 18446744073709551616) (hf : fitsW l h x = 0) : Con Try.prog 19 [.s (.ptr 0 0 0), .s (.int .u64 ((x : Nat) : Int))] [some ⟨true, WIN l h n⟩] (.s (.int .i64 ((fitsW l h x : Nat) : Int))) [some ⟨true, WIN (l.set (x % 64) x) (max h x) (n + 1)⟩] := by
 refine con_in 35 Try.func19 rfl rfl (m := 1) rfl ?_
 intro E hP hn hE
 refine w_seq ?_
 refine g_reg hP hn ?_
 refine s_op k_as ?_
 refine s_nil trivial ?_
 refine n_wp ?_
 refine w_seq ?_
 refine g_reg hP hn ?_
 refine s_op k_mv ?_
 refine s_op k_mv ?_
 refine s_op (k_call [0] (con := win_fits_c l h n x hl hx hh) (H' := [some ⟨true, WIN l h n⟩]) (hH := rfl)) ?_
 refine s_op k_as ?_
 refine s_nil trivial ?_
 refine n_wp ?_
 refine w_seq ?_
 refine w_seq ?_
 refine g_reg hP hn ?_
 refine s_op k_mv ?_
 refine s_op k_eql ?_
 refine s_nil trivial ?_
 refine n_wp ?_
 refine w_T rfl ?_ (decide_eq_true hf)
 refine w_seq ?_
 refine g_reg hP hn ?_
 refine s_op k_mv ?_
 refine s_op k_mv ?_
 refine s_op k_rem ?_
 refine s_op k_mv ?_
 refine s_op k_nc ?_
 refine s_op k_fa ?_
 refine s_op k_ix ?_
 refine s_st k_st ?_
 refine s_nil trivial ?_
 refine n_wp ?_
 refine w_seq ?_
 refine g_reg hP hn ?_
 refine s_op k_mv ?_
 refine s_op k_mv ?_
 refine s_op k_nc ?_
 refine s_op k_fa ?_
 refine s_op k_ld ?_
 refine s_op k_mv ?_
 refine s_op (k_max (by exact l_max (r := ((max h x : Nat) : Int)) rfl rfl (by split <;> omega))) ?_
 refine s_op k_nc ?_
 refine s_op k_fa ?_
 refine s_st k_st ?_
 refine s_nil trivial ?_
 refine n_wp ?_
 refine g_reg hP hn ?_
 refine s_op k_mv ?_
 refine s_op k_nc ?_
 refine s_op k_fa ?_
 refine s_op k_ld ?_
 refine s_op k_add ?_
 refine s_op k_nc ?_
 refine s_op k_fa ?_
 refine s_st k_st ?_
 refine s_nil trivial ?_
 refine n_wp ?_
 refine w_seq ?_
 refine g_reg hP hn ?_
 refine s_op k_mv ?_
 refine s_op k_as ?_
 refine s_nil trivial ?_
 refine n_wp ?_
 refine w_ret ?_
 exact d_ret hP hn hE [] (by first | exact r_tmp Try.results19 | exact r_tmpa Try.results19)

set_option maxRecDepth 100000 in
set_option maxHeartbeats 4000000 in
theorem win_keep_c (l : List Nat) (h n x : Nat) (hl : l.length = 64) (hx : x < 18446744073709551616) (hh : h < 18446744073709551616) (hf : ¬ fitsW l h x = 0) : Con Try.prog 19 [.s (.ptr 0 0 0), .s (.int .u64 ((x : Nat) : Int))] [some ⟨true, WIN l h n⟩] (.s (.int .i64 ((fitsW l h x : Nat) : Int))) [some ⟨true, WIN l h n⟩] := by
 refine con_in 35 Try.func19 rfl rfl (m := 1) rfl ?_
 intro E hP hn hE
 refine w_seq ?_
 refine g_reg hP hn ?_
 refine s_op k_as ?_
 refine s_nil trivial ?_
 refine n_wp ?_
 refine w_seq ?_
 refine g_reg hP hn ?_
 refine s_op k_mv ?_
 refine s_op k_mv ?_
 refine s_op (k_call [0] (con := win_fits_c l h n x hl hx hh) (H' := [some ⟨true, WIN l h n⟩]) (hH := rfl)) ?_
 refine s_op k_as ?_
 refine s_nil trivial ?_
 refine n_wp ?_
 refine w_seq ?_
 refine w_seq ?_
 refine g_reg hP hn ?_
 refine s_op k_mv ?_
 refine s_op k_eql ?_
 refine s_nil trivial ?_
 refine n_wp ?_
 refine w_F rfl ?_ (decide_eq_false hf)
 refine w_skip ?_
 refine n_wp ?_
 refine w_seq ?_
 refine g_reg hP hn ?_
 refine s_op k_mv ?_
 refine s_op k_as ?_
 refine s_nil trivial ?_
 refine n_wp ?_
 refine w_ret ?_
 exact d_ret hP hn hE [] (by first | exact r_tmp Try.results19 | exact r_tmpa Try.results19)

set_option maxRecDepth 100000 in
set_option maxHeartbeats 4000000 in
theorem win_taken_c (l : List Nat) (h n : Nat) : Con Try.prog 20 [.s (.ptr 0 0 0)] [some ⟨true, WIN l h n⟩] (.s (.int .u64 ((n : Nat) : Int))) [some ⟨true, WIN l h n⟩] := by
 refine con_in 10 Try.func20 rfl rfl (m := 1) rfl ?_
 intro E hP hn hE
 refine w_seq ?_
 refine g_reg hP hn ?_
 refine s_op k_as ?_
 refine s_nil trivial ?_
 refine n_wp ?_
 refine w_seq ?_
 refine w_seq ?_
 refine g_reg hP hn ?_
 refine s_op k_mv ?_
 refine s_op (k_call [0] (con := win_there_c l h n) (H' := [some ⟨true, WIN l h n⟩]) (hH := rfl)) ?_
 refine s_op k_not ?_
 refine s_nil trivial ?_
 refine n_wp ?_
 refine w_F rfl ?_ 
 refine w_skip ?_
 refine n_wp ?_
 refine w_seq ?_
 refine g_reg hP hn ?_
 refine s_op k_mv ?_
 refine s_op k_nc ?_
 refine s_op k_fa ?_
 refine s_op k_ld ?_
 refine s_op k_as ?_
 refine s_nil trivial ?_
 refine n_wp ?_
 refine w_ret ?_
 exact d_ret hP hn hE [] (by first | exact r_tmp Try.results20 | exact r_tmpa Try.results20)

end Go.Proofs.X
