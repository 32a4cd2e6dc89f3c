/- A part of the proofs of this claim: BSha2 (BSha2). No conditions. -/
import Derived.Test.YthjccanlmhbecaaBSha1
set_option linter.unusedVariables false
set_option linter.unusedSimpArgs false
open Go Go.Bx Go.Proofs
namespace Go.Proofs.X
attribute [local irreducible] dnI gI
set_option maxRecDepth 100000 in
set_option maxHeartbeats 4000000 in
theorem numA_c (w : List Int) (t : Nat) (s b : List Int) (n l : Int) (hw : w.length = 16) (hb : b.length = 64) (ht : t < 16) : Con Try.prog 49 [.s (.ptr 0 0 0), .s (.ptr 1 0 0), .s (.ptr 2 0 0)] [some ⟨true, [.ints .u32 16 w]⟩, some ⟨true, [.one (.int .i64 ((t : Nat) : Int))]⟩, some ⟨true, [.one (.ptr 3 1 0)]⟩, some ⟨true, RUN s b n l⟩] (.s (.int .u32 ((w.set (t % 16) (IntKind.u32.wrap (getI ((b.drop (4 * t)).take (64 - 4 * t)) 4))).getD (t % 16) 0))) [some ⟨true, [.ints .u32 16 (w.set (t % 16) (IntKind.u32.wrap (getI ((b.drop (4 * t)).take (64 - 4 * t)) 4)))]⟩, some ⟨true, [.one (.int .i64 ((t + 1 : Nat) : Int))]⟩, some ⟨true, [.one (.ptr 3 1 0)]⟩, some ⟨true, RUN s b n l⟩] := by
 refine con_in 75 Try.func49 rfl rfl (m := 4) rfl ?_
 intro E hP hn hE
 refine w_seq ?_
 refine g_reg hP hn ?_
 refine s_op k_as ?_
 refine s_nil trivial ?_
 refine n_wp ?_
 refine w_seq ?_
 refine g_reg hP hn ?_
 refine s_op k_ld ?_
 refine s_op k_rem ?_
 refine s_op k_ix ?_
 refine s_op k_as ?_
 refine s_nil trivial ?_
 refine n_wp ?_
 refine w_seq ?_
 refine w_seq ?_
 refine g_reg hP hn ?_
 refine s_op k_ld ?_
 refine s_op k_lss ?_
 refine s_nil trivial ?_
 refine n_wp ?_
 refine w_T rfl ?_ 
 refine w_seq ?_
 refine g_any hP hn ?_
 refine s_op k_ld ?_
 refine s_op k_nc ?_
 refine s_op k_fa ?_
 refine s_op k_ld ?_
 refine s_op k_mul ?_
 refine s_op k_sl ?_
 refine s_op (k_tmp 3 (h := k_call [] (con := get_c ((b.drop (4 * t)).take (64 - 4 * t)) 4 (by decide) (by decide) (by simp [hb]; omega)))) ?_
 refine s_op k_mv ?_
 refine s_op k_ex ?_
 refine s_op k_ex ?_
 refine s_op k_as ?_
 refine s_op k_as ?_
 refine s_nil (by kernel_rfl) ?_
 refine n_wp ?_
 refine g_reg hP hn ?_
 refine s_op k_mv ?_
 refine s_op k_mv ?_
 refine s_op k_cv ?_
 refine s_op k_nc ?_
 refine s_st k_st ?_
 refine s_nil trivial ?_
 refine n_wp ?_
 refine w_seq ?_
 refine g_reg hP hn ?_
 refine s_op k_ld ?_
 refine s_op k_add ?_
 refine s_st k_st ?_
 refine s_nil trivial ?_
 refine n_wp ?_
 refine w_seq ?_
 refine g_reg hP hn ?_
 refine s_op k_mv ?_
 refine s_op k_nc ?_
 refine s_op k_ld ?_
 refine s_op k_as ?_
 refine s_nil trivial ?_
 refine n_wp ?_
 refine w_ret ?_
 exact d_ret hP hn hE [] (by first | exact r_tmp Try.results49 | exact r_tmpa Try.results49)

set_option maxRecDepth 100000 in
set_option maxHeartbeats 4000000 in
theorem numB_c (w : List Int) (t : Nat) (s b : List Int) (n l : Int) (hw : w.length = 16) (hb : b.length = 64) (ht : ¬ t < 16) (ht2 : t < 64) : Con Try.prog 49 [.s (.ptr 0 0 0), .s (.ptr 1 0 0), .s (.ptr 2 0 0)] [some ⟨true, [.ints .u32 16 w]⟩, some ⟨true, [.one (.int .i64 ((t : Nat) : Int))]⟩, some ⟨true, [.one (.ptr 3 1 0)]⟩, some ⟨true, RUN s b n l⟩] (.s (.int .u32 ((wn3 (wn2 (wn1 w t) (w.getD ((t + 14) % 16) 0) t) t).getD (t % 16) 0))) [some ⟨true, [.ints .u32 16 (wn3 (wn2 (wn1 w t) (w.getD ((t + 14) % 16) 0) t) t)]⟩, some ⟨true, [.one (.int .i64 ((t + 1 : Nat) : Int))]⟩, some ⟨true, [.one (.ptr 3 1 0)]⟩, some ⟨true, RUN s b n l⟩] := by
 refine con_in 75 Try.func49 rfl rfl (m := 4) rfl ?_
 intro E hP hn hE
 refine w_seq ?_
 refine g_reg hP hn ?_
 refine s_op k_as ?_
 refine s_nil trivial ?_
 refine n_wp ?_
 refine w_seq ?_
 refine g_reg hP hn ?_
 refine s_op k_ld ?_
 refine s_op k_rem ?_
 refine s_op k_ix ?_
 refine s_op k_as ?_
 refine s_nil trivial ?_
 refine n_wp ?_
 refine w_seq ?_
 refine w_seq ?_
 refine g_reg hP hn ?_
 refine s_op k_ld ?_
 refine s_op k_lss ?_
 refine s_nil trivial ?_
 refine n_wp ?_
 refine w_F rfl ?_ 
 refine w_seq ?_
 refine g_any hP hn ?_
 refine s_op k_ld ?_
 refine s_op k_add ?_
 refine s_op k_rem ?_
 refine s_op k_ix ?_
 refine s_op k_ld ?_
 refine s_op k_ld ?_
 refine s_op k_add ?_
 refine s_op k_rem ?_
 refine s_op k_ix ?_
 refine s_op k_ld ?_
 refine s_op k_as ?_
 refine s_op k_as ?_
 refine s_nil (by kernel_rfl) ?_
 refine n_wp ?_
 refine w_seq ?_
 refine g_any hP hn ?_
 refine s_op k_mv ?_
 refine s_op k_nc ?_
 refine s_op k_ld ?_
 refine s_op k_mv ?_
 refine s_op k_bsf ?_
 refine s_op (k_call [] (con := down_c _ _ (by decide))) ?_
 refine s_op k_mv ?_
 refine s_op k_shr ?_
 refine s_op k_xor ?_
 refine s_op k_add ?_
 refine s_op k_nc ?_
 refine s_st k_st ?_
 refine s_nil (by kernel_rfl) ?_
 refine n_wp ?_
 refine w_seq ?_
 refine g_any hP hn ?_
 refine s_op k_mv ?_
 refine s_op k_nc ?_
 refine s_op k_ld ?_
 refine s_op k_mv ?_
 refine s_op k_bsf ?_
 refine s_op (k_call [] (con := down_c _ _ (by decide))) ?_
 refine s_op k_mv ?_
 refine s_op k_shr ?_
 refine s_op k_xor ?_
 refine s_op k_add ?_
 refine s_op k_nc ?_
 refine s_st k_st ?_
 refine s_nil (by kernel_rfl) ?_
 refine n_wp ?_
 refine g_any hP hn ?_
 refine s_op k_mv ?_
 refine s_op k_nc ?_
 refine s_op k_ld ?_
 refine s_op k_ld ?_
 refine s_op k_add ?_
 refine s_op k_rem ?_
 refine s_op k_ix ?_
 refine s_op k_ld ?_
 refine s_op k_add ?_
 refine s_op k_nc ?_
 refine s_st k_st ?_
 refine s_nil (by kernel_rfl) ?_
 refine n_wp ?_
 refine w_seq ?_
 refine g_reg hP hn ?_
 refine s_op k_ld ?_
 refine s_op k_add ?_
 refine s_st k_st ?_
 refine s_nil trivial ?_
 refine n_wp ?_
 refine w_seq ?_
 refine g_reg hP hn ?_
 refine s_op k_mv ?_
 refine s_op k_nc ?_
 refine s_op k_ld ?_
 refine s_op k_as ?_
 refine s_nil trivial ?_
 refine n_wp ?_
 refine w_ret ?_
 exact d_ret hP hn hE [] (by first | exact r_tmp Try.results49 | exact r_tmpa Try.results49)

theorem num_c (w : List Int) (t : Nat) (s b : List Int) (n l : Int) (hw : w.length = 16) (hb : b.length = 64) (ht : t < 64) : Con Try.prog 49 [.s (.ptr 0 0 0), .s (.ptr 1 0 0), .s (.ptr 2 0 0)] [some ⟨true, [.ints .u32 16 w]⟩, some ⟨true, [.one (.int .i64 ((t : Nat) : Int))]⟩, some ⟨true, [.one (.ptr 3 1 0)]⟩, some ⟨true, RUN s b n l⟩] (.s (.int .u32 ((wn b w t).getD (t % 16) 0))) [some ⟨true, [.ints .u32 16 (wn b w t)]⟩, some ⟨true, [.one (.int .i64 ((t + 1 : Nat) : Int))]⟩, some ⟨true, [.one (.ptr 3 1 0)]⟩, some ⟨true, RUN s b n l⟩] := by
 by_cases h : t < 16
 · rw [wn_lt b w h]; exact numA_c w t s b n l hw hb h
 · rw [wn_ge b w h]; exact numB_c w t s b n l hw hb h ht

set_option maxRecDepth 100000 in
set_option maxHeartbeats 4000000 in
theorem numbers_c (s b : List Int) (n l : Int) : Con Try.prog 46 [.s (.ptr 0 1 0)] [some ⟨true, RUN s b n l⟩] (.s (.clo 49 3 (capF [.ptr 2 0 0, .ptr 3 0 0, .ptr 1 0 0]))) [some ⟨true, RUN s b n l⟩, some ⟨true, [.one (.ptr 0 1 0)]⟩, some ⟨true, [.ints .u32 16 (z 16)]⟩, some ⟨true, [.one (.int .i64 ((0 : Nat) : Int))]⟩] := by
 refine con_in 6 Try.func46 rfl rfl (m := 1) rfl ?_
 intro E hP hn hE
 refine w_seq ?_
 refine g_reg hP hn ?_
 refine s_op k_bx ?_
 refine s_op k_as ?_
 refine s_nil trivial ?_
 refine n_wp ?_
 refine w_seq ?_
 refine g_reg hP hn ?_
 refine s_op k_al ?_
 refine s_nil trivial ?_
 refine n_wp ?_
 refine w_seq ?_
 refine g_reg hP hn ?_
 refine s_op k_al ?_
 refine s_st k_st ?_
 refine s_nil trivial ?_
 refine n_wp ?_
 refine w_seq ?_
 refine g_reg hP hn ?_
 refine s_op (k_fn [.ptr 2 0 0, .ptr 3 0 0, .ptr 1 0 0]) ?_
 refine s_op k_as ?_
 refine s_nil trivial ?_
 refine n_wp ?_
 refine w_ret ?_
 exact d_ret hP hn hE [] (by first | exact r_tmp Try.results46 | exact r_tmpa Try.results46)

set_option maxRecDepth 100000 in
set_option maxHeartbeats 4000000 in
theorem after_c (s0 s b : List Int) (n l : Int) (hs : s0.length = 8) (hb : b.length = 64) : Con Try.prog 45 [.agg [.ints .u32 8 s0], .s (.ptr 0 1 0)] [some ⟨true, RUN s b n l⟩] (.agg [.ints .u32 8 (aft s0 b)]) [some ⟨true, RUN s b n l⟩] := by
 refine con_in 90 Try.func45 rfl rfl (m := 1) rfl ?_
 intro E hP hn hE
 refine w_seq ?_
 refine g_reg hP hn ?_
 refine s_op k_bx ?_
 refine s_op k_al ?_
 refine s_nil trivial ?_
 refine n_wp ?_
 refine w_seq ?_
 refine g_any hP hn ?_
 refine s_op k_ld ?_
 refine s_op k_mv ?_
 refine s_op (k_call [0] (con := numbers_c _ _ _ _)) ?_
 refine s_heap (H' := [some ⟨true, RUN s b n l⟩, some ⟨true, [.ints .u32 8 s0]⟩, some ⟨true, [.ints .u32 8 (z 8)]⟩, some ⟨true, [.one (.ptr 0 1 0)]⟩, some ⟨true, [.ints .u32 16 (z 16)]⟩, some ⟨true, [.one (.int .i64 ((0 : Nat) : Int))]⟩]) rfl ?_
 refine s_op k_al ?_
 refine s_st k_st ?_
 refine s_op k_as ?_
 refine s_nil (by kernel_rfl) ?_
 refine n_wp ?_
 refine w_seq ?_
 refine w_seq ?_
 refine g_reg hP hn ?_
 refine s_op (k_call [] (con := adds_c)) ?_
 refine s_op k_mv ?_
 refine s_nil trivial ?_
 refine n_wp ?_
 refine w_block ?_
 refine c_loop (fun q T H => ∃ i, i ≤ 64 ∧ q = 64 - i ∧ T = [(2, .s (.ptr 1 0 0)), (4, .s (.ptr 2 0 0)), (5, .s (.ptr 6 0 0)), (6, .s (.clo 49 3 (capF [.ptr 4 0 0, .ptr 5 0 0, .ptr 3 0 0]))), (16, .agg [.ints .u32 64 KS]), (17, .s (.int .i64 ((i : Nat) : Int)))] ∧ H = [some ⟨true, RUN s b n l⟩, some ⟨true, [.ints .u32 8 s0]⟩, some ⟨true, [.ints .u32 8 (z 8)]⟩, some ⟨true, [.one (.ptr 0 1 0)]⟩, some ⟨true, [.ints .u32 16 (ws b i)]⟩, some ⟨true, [.one (.int .i64 ((i : Nat) : Int))]⟩, some ⟨true, [.ints .u32 8 (ls s0 b i)]⟩]) (64) ⟨0, by omega, rfl, rfl, rfl⟩ (wk hE []) ?_
 rintro n_ T_ H_ ⟨i, hi, rfl, rfl, rfl⟩
 refine w_seq ?_
 refine g_reg hP hn ?_
 refine s_op k_lss ?_
 refine s_nil trivial ?_
 refine n_wp ?_
 refine w_seq ?_
 refine w_if rfl (fun h_t18 => ?_) (fun h_t18 => ?_)
 · skip
   have h8 := ls_len s0 b hs i
   have h16 := ws_len b i
   refine w_skip ?_
   refine n_wp ?_
   refine w_seq ?_
   refine w_block ?_
   refine w_seq ?_
   refine g_reg hP hn ?_
   refine s_op k_id ?_
   refine s_op k_as ?_
   refine s_nil trivial ?_
   refine n_wp ?_
   refine w_seq ?_
   refine g_any hP hn ?_
   refine s_op k_ix ?_
   refine s_op k_ld ?_
   refine s_op k_ix ?_
   refine s_op k_ld ?_
   refine s_op k_bsf ?_
   refine s_op (k_call [] (con := down_c _ _ (by decide))) ?_
   refine s_op k_add ?_
   refine s_op k_ix ?_
   refine s_op k_ld ?_
   refine s_op k_ix ?_
   refine s_op k_ld ?_
   refine s_op k_and ?_
   refine s_op k_ix ?_
   refine s_op k_ld ?_
   refine s_op k_com ?_
   refine s_op k_ix ?_
   refine s_op k_ld ?_
   refine s_op k_and ?_
   refine s_op k_or ?_
   refine s_op k_add ?_
   refine s_op k_mv ?_
   refine s_op k_add ?_
   refine s_op k_mv ?_
   refine s_op (k_callc [4, 5, 3, 0] rfl (con := num_c (ws b i) i s b n l h16 hb h_t18)) ?_
   refine s_heap (H' := [some ⟨true, RUN s b n l⟩, some ⟨true, [.ints .u32 8 s0]⟩, some ⟨true, [.ints .u32 8 (z 8)]⟩, some ⟨true, [.one (.ptr 0 1 0)]⟩, some ⟨true, [.ints .u32 16 (wn b (ws b i) i)]⟩, some ⟨true, [.one (.int .i64 ((i + 1 : Nat) : Int))]⟩, some ⟨true, [.ints .u32 8 (ls s0 b i)]⟩, none]) rfl ?_
   refine s_op k_add ?_
   refine s_op k_as ?_
   refine s_nil (by kernel_rfl) ?_
   refine n_wp ?_
   refine w_seq ?_
   refine g_any hP hn ?_
   refine s_op k_ix ?_
   refine s_op k_ld ?_
   refine s_op k_bsf ?_
   refine s_op (k_call [] (con := down_c _ _ (by decide))) ?_
   refine s_op k_ix ?_
   refine s_op k_ld ?_
   refine s_op k_ix ?_
   refine s_op k_ld ?_
   refine s_op k_ix ?_
   refine s_op k_ld ?_
   refine s_op k_xor ?_
   refine s_op k_and ?_
   refine s_op k_ix ?_
   refine s_op k_ld ?_
   refine s_op k_ix ?_
   refine s_op k_ld ?_
   refine s_op k_and ?_
   refine s_op k_xor ?_
   refine s_op k_add ?_
   refine s_op k_as ?_
   refine s_nil (by kernel_rfl) ?_
   refine n_wp ?_
   refine w_seq ?_
   refine g_any hP hn ?_
   refine s_op k_sl ?_
   refine s_op k_sl ?_
   refine s_op (k_cpn 7) ?_
   refine s_nil (by kernel_rfl) ?_
   refine n_wp ?_
   refine w_seq ?_
   refine g_reg hP hn ?_
   refine s_op k_ix ?_
   refine s_op k_ld ?_
   refine s_op k_mv ?_
   refine s_op k_add ?_
   refine s_op k_ix ?_
   refine s_st k_st ?_
   refine s_nil trivial ?_
   refine n_wp ?_
   refine g_reg hP hn ?_
   refine s_op k_mv ?_
   refine s_op k_mv ?_
   refine s_op k_add ?_
   refine s_op k_ix ?_
   refine s_st k_st ?_
   refine s_nil trivial ?_
   refine n_blo ?_
   refine n_wp ?_
   refine g_reg hP hn ?_
   refine s_op k_add ?_
   refine s_op k_mv ?_
   refine s_nil trivial ?_
   exact n_round (64 - (i + 1)) (by omega) ⟨i + 1, by omega, rfl, rfl, rfl⟩ (wk hE [])
 · skip
   have hi : i = 64 := by omega
   subst hi
   have h8 := ls_len s0 b hs 64
   refine w_exit ?_
   refine x_thn ?_
   refine x_thn ?_
   refine x_eq ?_
   refine n_wp ?_
   refine w_seq ?_
   refine w_seq ?_
   refine g_reg hP hn ?_
   refine s_op k_ld ?_
   refine s_op k_mv ?_
   refine s_nil trivial ?_
   refine n_wp ?_
   refine w_block ?_
   refine c_loop (fun q T H => ∃ i, i ≤ 8 ∧ q = 8 - i ∧ T = [(4, .s (.ptr 2 0 0)), (5, .s (.ptr 6 0 0)), (77, .agg [.ints .u32 8 s0]), (78, .s (.int .i64 ((i : Nat) : Int)))] ∧ H = [some ⟨true, RUN s b n l⟩, some ⟨true, [.ints .u32 8 s0]⟩, some ⟨true, [.ints .u32 8 (z 8)]⟩, some ⟨true, [.one (.ptr 0 1 0)]⟩, some ⟨true, [.ints .u32 16 (ws b 64)]⟩, some ⟨true, [.one (.int .i64 ((64 : Nat) : Int))]⟩, some ⟨true, [.ints .u32 8 (fin s0 (ls s0 b 64) i)]⟩]) (8) ⟨0, by omega, rfl, rfl, rfl⟩ (wk hE []) ?_
   rintro n_ T_ H_ ⟨i, hi, rfl, rfl, rfl⟩
   refine w_seq ?_
   refine g_reg hP hn ?_
   refine s_op k_lss ?_
   refine s_nil trivial ?_
   refine n_wp ?_
   refine w_seq ?_
   refine w_if rfl (fun h_t79 => ?_) (fun h_t79 => ?_)
   · skip
     have h8 := (fin_len s0 (ls s0 b 64) i).trans (ls_len s0 b hs 64)
     refine w_skip ?_
     refine n_wp ?_
     refine w_seq ?_
     refine w_block ?_
     refine w_seq ?_
     refine g_reg hP hn ?_
     refine s_op k_mv ?_
     refine s_op k_id ?_
     refine s_op k_as ?_
     refine s_op k_as ?_
     refine s_nil trivial ?_
     refine n_wp ?_
     refine g_reg hP hn ?_
     refine s_op k_mv ?_
     refine s_op k_ix ?_
     refine s_op k_ld ?_
     refine s_op k_mv ?_
     refine s_op k_add ?_
     refine s_op k_ix ?_
     refine s_st k_st ?_
     refine s_nil trivial ?_
     refine n_blo ?_
     refine n_wp ?_
     refine g_reg hP hn ?_
     refine s_op k_add ?_
     refine s_op k_mv ?_
     refine s_nil trivial ?_
     exact n_round (8 - (i + 1)) (by omega) ⟨i + 1, by omega, rfl, rfl, rfl⟩ (wk hE [])
   · skip
     have hi : i = 8 := by omega
     subst hi
     refine w_exit ?_
     refine x_thn ?_
     refine x_thn ?_
     refine x_eq ?_
     refine n_wp ?_
     refine w_seq ?_
     refine g_reg hP hn ?_
     refine s_op k_ld ?_
     refine s_st k_st ?_
     refine s_nil trivial ?_
     refine n_wp ?_
     refine w_ret ?_
     exact d_ret hP hn hE [] (r_cell Try.results45)

end Go.Proofs.X
