/- A part of the proofs of this claim: BMac2 (BMac2). No conditions. -/
import Derived.Test.YthjccanlmhbecaaBMac1
set_option linter.unusedVariables false
set_option linter.unusedSimpArgs false
open Go Go.Bx Go.Proofs
namespace Go.Proofs.X
attribute [local irreducible] tk rr sumL ws ls dnI gI
set_option maxRecDepth 100000 in
set_option maxHeartbeats 4000000 in
theorem of_c (B : List Int) (hl : B.length < 4611686018427387000) : Con Try.prog 32 [.s (.fzi .u8 B)] [] (.agg [.ints .u8 32 (sumL (tk run0 B) (0 + B.length))]) [] := by
 refine con_in 11 Try.func32 rfl rfl (m := 0) rfl ?_
 intro E hP hn hE
 refine w_seq ?_
 refine g_reg hP hn ?_
 refine s_op k_al ?_
 refine s_nil trivial ?_
 refine n_wp ?_
 refine w_seq ?_
 refine g_reg hP hn ?_
 refine s_op (k_call [] (con := new_c) (v := .s (.ptr 1 0 0)) (hv := rfl) (H' := [some ⟨true, [.ints .u8 32 (z 32)]⟩, some (RQ run0 0)]) (hH := rfl)) ?_
 refine s_op k_as ?_
 refine s_nil trivial ?_
 refine n_wp ?_
 refine w_seq ?_
 refine g_reg hP hn ?_
 refine s_op k_mv ?_
 refine s_op k_mv ?_
 refine s_op (k_bsz [.fzi .u8 B]) ?_
 refine s_op (k_call [1] (con := takes1_c B run0 0 run0_ok (by omega)) (H' := [some ⟨true, [.ints .u8 32 (z 32)]⟩, some (RQ (tk run0 B) (0 + B.length)), none]) (hH := rfl)) ?_
 refine s_nil trivial ?_
 refine n_wp ?_
 refine w_seq ?_
 refine g_reg hP hn ?_
 refine s_op k_mv ?_
 refine s_op (k_call [1] (con := sum_c (tk run0 B) (0 + B.length) (tk_ok run0_ok B) (by omega)) (H' := [some ⟨true, [.ints .u8 32 (z 32)]⟩, some (RQ (tk run0 B) (0 + B.length)), none]) (hH := rfl)) ?_
 refine s_st k_st ?_
 refine s_nil trivial ?_
 refine n_wp ?_
 refine w_ret ?_
 exact d_ret hP hn hE [] (r_cell Try.results32)

theorem write_n (B : List Int) (n : Nat) (hn : B.length = n) (q : Run) (tot : Nat) (hq : RunOk q) (hl : tot + n < 4611686018427387904) : Con Try.prog 35 [.s (.ptr 0 0 0), .s (.fzi .u8 B)] [some (RQ q tot)] (.s (.int .i64 0)) [some (RQ (tk q B) (tot + n))] := by
 subst hn; exact write_c B q tot hq hl

set_option maxRecDepth 100000 in
set_option maxHeartbeats 4000000 in
theorem pad_c (K : List Int) (v : Int) (hK : K.length = 64) : Con Try.prog 33 [.s (.int .u8 v), .s (.ptr 0 0 0)] [some ⟨true, [.ints .u8 64 K]⟩] (.s (.fzi .u8 (xk K v 64))) [some ⟨true, [.ints .u8 64 K]⟩] := by
 refine con_in 18 Try.func33 rfl rfl (m := 1) rfl ?_
 intro E hP hn hE
 refine w_seq ?_
 refine g_reg hP hn ?_
 refine s_op k_as ?_
 refine s_nil trivial ?_
 refine n_wp ?_
 refine w_seq ?_
 refine g_reg hP hn ?_
 refine s_op k_ld ?_
 refine s_op k_al ?_
 refine s_st k_st ?_
 refine s_nil trivial ?_
 refine n_wp ?_
 refine w_seq ?_
 refine w_seq ?_
 refine g_reg hP hn ?_
 refine s_op k_mv ?_
 refine s_nil trivial ?_
 refine n_wp ?_
 refine w_block ?_
 refine c_loop (fun m T H => ∃ i, i ≤ 64 ∧ m = 64 - i ∧ T = [(0, .s (.int .u8 v)), (4, .s (.ptr 1 0 0)), (7, .s (.int .i64 ((i : Nat) : Int)))] ∧ H = [some ⟨true, [.ints .u8 64 K]⟩, some ⟨true, [.ints .u8 64 (xk K v i)]⟩]) (64) ⟨0, by omega, rfl, rfl, rfl⟩ (wk hE []) ?_
 rintro n_ T_ H_ ⟨i, hi, rfl, rfl, rfl⟩
 have hx := (xk_len K v i).trans hK
 refine w_seq ?_
 refine g_reg hP hn ?_
 refine s_op k_lss ?_
 refine s_nil trivial ?_
 refine n_wp ?_
 refine w_seq ?_
 refine w_if rfl (fun h_t8 => ?_) (fun h_t8 => ?_)
 · skip
   refine w_skip ?_
   refine n_wp ?_
   refine w_seq ?_
   refine w_block ?_
   refine w_seq ?_
   refine g_reg hP hn ?_
   refine s_op k_mv ?_
   refine s_op k_as ?_
   refine s_nil trivial ?_
   refine n_wp ?_
   refine g_reg hP hn ?_
   refine s_op k_mv ?_
   refine s_op k_ix ?_
   refine s_op k_ld ?_
   refine s_op k_mv ?_
   refine s_op k_xor ?_
   refine s_op k_ix ?_
   refine s_st k_st ?_
   refine s_nil trivial ?_
   refine n_blo ?_
   refine n_wp ?_
   refine g_reg hP hn ?_
   refine s_op k_add ?_
   refine s_op k_mv ?_
   refine s_nil trivial ?_
   exact n_round (64 - (i + 1)) (by omega) ⟨i + 1, by omega, rfl, rfl, rfl⟩ (wk hE [])
 · skip
   have hi : i = 64 := by omega
   subst hi
   refine w_exit ?_
   refine x_thn ?_
   refine x_thn ?_
   refine x_eq ?_
   refine n_wp ?_
   refine w_seq ?_
   refine g_reg hP hn ?_
   refine s_op k_sl ?_
   refine s_op k_as ?_
   refine s_nil trivial ?_
   refine n_wp ?_
   refine w_ret ?_
   exact d_retw hP hn (r_tmp Try.results33) ((frz_sl 0 (l' := xk K v 64) (hl := hx) (hl' := by rw [List.drop_zero]; exact List.take_of_length_le (Nat.le_of_eq hx))).trans (wk hE []))

set_option maxRecDepth 100000 in
set_option maxHeartbeats 4000000 in
theorem mac_c (K : List Int) (L : List (List Int)) (hK0 : 0 < K.length) (hK : K.length ≤ 64) (hL : L.length ≤ 1000000) (hl : L.flatten.length < 4611686018427380000) : Con Try.prog 24 [.s (.fzi .u8 K), .s (ROWS L)] [] (.agg [.ints .u8 32 (hmO K (tk (hmI K) L.flatten) (64 + L.flatten.length))]) [] := by
 refine con_in 50 Try.func24 rfl rfl (m := 0) rfl ?_
 intro E hP hn hE
 refine w_seq ?_
 refine g_reg hP hn ?_
 refine s_op k_al ?_
 refine s_nil trivial ?_
 refine n_wp ?_
 refine w_seq ?_
 refine g_reg hP hn ?_
 refine s_op k_al ?_
 refine s_nil trivial ?_
 refine n_wp ?_
 refine w_seq ?_
 refine w_seq ?_
 refine g_reg hP hn ?_
 refine s_op k_mv ?_
 refine s_op k_len ?_
 refine s_op k_gtr ?_
 refine s_nil trivial ?_
 refine n_wp ?_
 refine w_F rfl ?_ 
 refine w_skip ?_
 refine n_wp ?_
 refine w_seq ?_
 refine g_reg hP hn ?_
 refine s_op k_sl ?_
 refine s_op k_mv ?_
 refine s_op (k_cpn K.length) ?_
 refine s_nil trivial ?_
 refine n_wp ?_
 refine w_seq ?_
 refine g_reg hP hn ?_
 refine s_op (k_fn [.ptr 1 0 0]) ?_
 refine s_op k_as ?_
 refine s_nil trivial ?_
 refine n_wp ?_
 refine w_seq ?_
 refine g_reg hP hn ?_
 refine s_op (k_call [] (con := new_c) (v := .s (.ptr 2 0 0)) (hv := rfl) (H' := [some ⟨true, [.ints .u8 32 (z 32)]⟩, some ⟨true, [.ints .u8 64 (k64 K)]⟩, some (RQ run0 0)]) (hH := rfl)) ?_
 refine s_op (k_call [] (con := new_c) (v := .s (.ptr 3 0 0)) (hv := rfl) (H' := [some ⟨true, [.ints .u8 32 (z 32)]⟩, some ⟨true, [.ints .u8 64 (k64 K)]⟩, some (RQ run0 0), some (RQ run0 0)]) (hH := rfl)) ?_
 refine s_op k_as ?_
 refine s_op k_as ?_
 refine s_nil trivial ?_
 refine n_wp ?_
 refine w_seq ?_
 refine g_reg hP hn ?_
 refine s_op k_mv ?_
 refine s_op k_mv ?_
 refine s_op (k_callc [1] rfl (con := pad_c (k64 K) 54 (k64_len K)) (H' := [some ⟨true, [.ints .u8 32 (z 32)]⟩, some ⟨true, [.ints .u8 64 (k64 K)]⟩, some (RQ run0 0), some (RQ run0 0)]) (hH := rfl)) ?_
 refine s_op (k_call [2] (con := write_n (xk (k64 K) 54 64) 64 ((xk_len _ _ _).trans (k64_len K)) run0 0 run0_ok (by omega)) (H' := [some ⟨true, [.ints .u8 32 (z 32)]⟩, some ⟨true, [.ints .u8 64 (k64 K)]⟩, some (RQ (hmI K) 64), some (RQ run0 0)]) (hH := rfl)) ?_
 refine s_nil trivial ?_
 refine n_wp ?_
 refine w_seq ?_
 refine w_seq ?_
 refine g_reg hP hn ?_
 refine s_op k_mv ?_
 refine s_op k_len ?_
 refine s_op k_mv ?_
 refine s_nil trivial ?_
 refine n_wp ?_
 refine w_block ?_
 refine c_loop (fun m T H => ∃ i q t, i ≤ L.length ∧ m = L.length - i ∧ q = tk (hmI K) (L.take i).flatten ∧ t = 64 + (L.take i).flatten.length ∧ T = [(4, .s (.ptr 0 0 0)), (7, .s (.clo 33 1 (capF [.ptr 1 0 0]))), (8, .s (.ptr 2 0 0)), (9, .s (.ptr 3 0 0)), (29, .s (ROWS L)), (30, .s (.int .i64 ((L.length : Nat) : Int))), (31, .s (.int .i64 ((i : Nat) : Int)))] ∧ H = [some ⟨true, [.ints .u8 32 (z 32)]⟩, some ⟨true, [.ints .u8 64 (k64 K)]⟩, some (RQ q t), some (RQ run0 0)]) (L.length) ⟨0, hmI K, 64, by omega, rfl, (tk_nil (hmI K)).symm, rfl, rfl, rfl⟩ (wk hE []) ?_
 rintro n_ T_ H_ ⟨i, q, t, hi, rfl, hq, ht, rfl, rfl⟩
 have hok : RunOk q := hq ▸ tk_ok (hmI_ok K) _
 refine w_seq ?_
 refine g_reg hP hn ?_
 refine s_op k_lss ?_
 refine s_nil trivial ?_
 refine n_wp ?_
 refine w_seq ?_
 refine w_if rfl (fun h_t32 => ?_) (fun h_t32 => ?_)
 · skip
   have hfl := flat_s L h_t32
   have htot : (L.take (i + 1)).flatten.length = (L.take i).flatten.length + (L.getD i []).length := by rw [hfl, List.length_append]
   have hle : (L.take (i + 1)).flatten.length ≤ L.flatten.length := by
     have := congrArg (fun x => (List.flatten x).length) (List.take_append_drop (i + 1) L)
     simp only [List.flatten_append, List.length_append] at this
     omega
   refine w_skip ?_
   refine n_wp ?_
   refine w_seq ?_
   refine w_block ?_
   refine w_seq ?_
   refine g_reg hP hn ?_
   refine s_op k_ix ?_
   refine s_op (k_ld (by exact a_loadf (v := .fzi .u8 (L.getD i [])) rfl (by omega) (rows_at L h_t32))) ?_
   refine s_op k_as ?_
   refine s_nil trivial ?_
   refine n_wp ?_
   refine g_reg hP hn ?_
   refine s_op k_mv ?_
   refine s_op k_mv ?_
   refine s_op (k_call [2] (con := write_c (L.getD i []) q t hok (by omega)) (H' := [some ⟨true, [.ints .u8 32 (z 32)]⟩, some ⟨true, [.ints .u8 64 (k64 K)]⟩, some (RQ (tk q (L.getD i [])) (t + (L.getD i []).length)), some (RQ run0 0)]) (hH := rfl)) ?_
   refine s_nil trivial ?_
   refine n_blo ?_
   refine n_wp ?_
   refine g_reg hP hn ?_
   refine s_op k_add ?_
   refine s_op k_mv ?_
   refine s_nil trivial ?_
   exact n_round (L.length - (i + 1)) (by omega) ⟨i + 1, tk q (L.getD i []), t + (L.getD i []).length, by omega, rfl, by rw [hfl, tk_append, hq], by omega, rfl, rfl⟩ (wk hE [])
 · skip
   have hi : i = L.length := by omega
   subst hi
   rw [List.take_length] at hq ht
   subst hq; subst ht
   have hok := tk_ok (hmI_ok K) L.flatten
   refine w_exit ?_
   refine x_thn ?_
   refine x_thn ?_
   refine x_eq ?_
   refine n_wp ?_
   refine w_seq ?_
   refine g_reg hP hn ?_
   refine s_op k_mv ?_
   refine s_op (k_call [2] (con := sum_c _ _ hok (by omega)) (H' := [some ⟨true, [.ints .u8 32 (z 32)]⟩, some ⟨true, [.ints .u8 64 (k64 K)]⟩, some (RQ (tk (hmI K) L.flatten) (64 + L.flatten.length)), some (RQ run0 0)]) (hH := rfl)) ?_
   refine s_op k_al ?_
   refine s_st k_st ?_
   refine s_nil trivial ?_
   refine n_wp ?_
   refine w_seq ?_
   refine g_reg hP hn ?_
   refine s_op k_mv ?_
   refine s_op k_mv ?_
   refine s_op (k_callc [1] rfl (con := pad_c (k64 K) 92 (k64_len K)) (H' := [some ⟨true, [.ints .u8 32 (z 32)]⟩, some ⟨true, [.ints .u8 64 (k64 K)]⟩, some (RQ (tk (hmI K) L.flatten) (64 + L.flatten.length)), some (RQ run0 0), some ⟨true, [.ints .u8 32 (sumL (tk (hmI K) L.flatten) (64 + L.flatten.length))]⟩]) (hH := rfl)) ?_
   refine s_op (k_call [3] (con := write_n (xk (k64 K) 92 64) 64 ((xk_len _ _ _).trans (k64_len K)) run0 0 run0_ok (by omega)) (H' := [some ⟨true, [.ints .u8 32 (z 32)]⟩, some ⟨true, [.ints .u8 64 (k64 K)]⟩, some (RQ (tk (hmI K) L.flatten) (64 + L.flatten.length)), some (RQ (tk run0 (xk (k64 K) 92 64)) 64), some ⟨true, [.ints .u8 32 (sumL (tk (hmI K) L.flatten) (64 + L.flatten.length))]⟩]) (hH := rfl)) ?_
   refine s_nil trivial ?_
   refine n_wp ?_
   refine w_seq ?_
   refine w_weak (frz_ptr 12 32) ?_
   refine g_reg hP hn ?_
   refine s_op k_mv ?_
   refine s_op (k_slf (hl := sumL_len _ _)) ?_
   refine s_op (k_call [3] (con := write_n (sumL (tk (hmI K) L.flatten) (64 + L.flatten.length)) 32 (sumL_len _ _) (tk run0 (xk (k64 K) 92 64)) 64 (tk_ok run0_ok _) (by omega)) (H' := [some ⟨true, [.ints .u8 32 (z 32)]⟩, some ⟨true, [.ints .u8 64 (k64 K)]⟩, some (RQ (tk (hmI K) L.flatten) (64 + L.flatten.length)), some (RQ (tk (tk run0 (xk (k64 K) 92 64)) (sumL (tk (hmI K) L.flatten) (64 + L.flatten.length))) 96), none]) (hH := rfl)) ?_
   refine s_nil trivial ?_
   refine n_wp ?_
   refine w_seq ?_
   refine g_reg hP hn ?_
   refine s_op k_mv ?_
   refine s_op (k_call [3] (con := sum_c _ 96 (tk_ok (tk_ok run0_ok _) _) (by omega)) (H' := [some ⟨true, [.ints .u8 32 (z 32)]⟩, some ⟨true, [.ints .u8 64 (k64 K)]⟩, some (RQ (tk (hmI K) L.flatten) (64 + L.flatten.length)), some (RQ (tk (tk run0 (xk (k64 K) 92 64)) (sumL (tk (hmI K) L.flatten) (64 + L.flatten.length))) 96), none]) (hH := rfl)) ?_
   refine s_st k_st ?_
   refine s_nil trivial ?_
   refine n_wp ?_
   refine w_ret ?_
   exact d_ret hP hn hE [] (r_cell Try.results24)

end Go.Proofs.X
