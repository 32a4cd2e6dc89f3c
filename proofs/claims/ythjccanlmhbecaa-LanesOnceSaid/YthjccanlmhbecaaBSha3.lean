/- A part of the proofs of this claim: BSha3 (BSha3). No conditions. -/
import Derived.Test.YthjccanlmhbecaaBSha2
import Derived.Test.YthjccanlmhbecaaBShaS2
set_option linter.unusedVariables false
set_option linter.unusedSimpArgs false
open Go Go.Bx Go.Proofs
namespace Go.Proofs.X
attribute [local irreducible] ws ls dnI gI
set_option maxRecDepth 100000 in
set_option maxHeartbeats 4000000 in
theorem takes_c (L : List (List Int)) (q0 : Run) (tot : Nat) (hq0 : RunOk q0) (hL : L.length ≤ 1000000) (hl : tot + L.flatten.length < 18446744073709551616) (hB : ∀ i, (L.getD i []).length ≤ 4611686018427387904) : Con Try.prog 43 [.s (.ptr 0 0 0), .s (ROWS L)] [some (RQ q0 tot)] (.tup []) [some (RQ (tk q0 L.flatten) (tot + L.flatten.length))] := by
 refine con_in 76 Try.func43 rfl rfl (m := 1) rfl ?_
 intro E hP hn hE
 refine w_seq ?_
 refine g_reg hP hn ?_
 refine s_op k_mv ?_
 refine s_op k_len ?_
 refine s_op k_mv ?_
 refine s_nil trivial ?_
 refine n_wp ?_
 refine w_block ?_
 refine c_loop (fun m T H => ∃ i q, i ≤ L.length ∧ m = L.length - i ∧ q = tk q0 (L.take i).flatten ∧ T = [(0, .s (.ptr 0 0 0)), (8, .s (ROWS L)), (9, .s (.int .i64 ((L.length : Nat) : Int))), (10, .s (.int .i64 ((i : Nat) : Int)))] ∧ H = [some (RQ q (tot + ((L.take i).flatten).length))]) (L.length) ⟨0, q0, by omega, rfl, by simp [tk], rfl, rfl⟩ (wk hE []) ?_
 rintro n_ T_ H_ ⟨i, q, hi, rfl, hq, rfl, rfl⟩
 have hok : RunOk q := hq ▸ tk_ok hq0 _
 refine w_seq ?_
 refine g_reg hP hn ?_
 refine s_op k_lss ?_
 refine s_nil trivial ?_
 refine n_wp ?_
 refine w_seq ?_
 refine w_if rfl (fun h_t11 => ?_) (fun h_t11 => ?_)
 · skip
   have hfl := flat_s L h_t11
   have htot : (L.take (i + 1)).flatten.length = (L.take i).flatten.length + (L.getD i []).length := by rw [hfl, List.length_append]
   have hstart : tk q (L.getD i []) = tk q0 (L.take (i + 1)).flatten := by rw [hfl, tk_append, hq]
   have hle : (L.take (i + 1)).flatten.length ≤ L.flatten.length := by
     have := congrArg (fun x => (List.flatten x).length) (List.take_append_drop (i + 1) L)
     simp only [List.flatten_append, List.length_append] at this
     omega
   refine w_skip ?_
   refine n_wp ?_
   refine w_seq ?_
   refine w_block ?_
   refine w_seq ?_
   refine g_reg hP hn ?_
   refine s_op k_ix ?_
   refine s_op (k_ld (by exact a_loadf (v := .fzi .u8 (L.getD i [])) rfl (by omega) (rows_at L h_t11))) ?_
   refine s_op k_as ?_
   refine s_nil trivial ?_
   refine n_wp ?_
   refine w_seq ?_
   refine g_reg hP hn ?_
   refine s_op k_mv ?_
   refine s_op k_nc ?_
   refine s_op k_fa ?_
   refine s_op k_ld ?_
   refine s_op k_mv ?_
   refine s_op k_len ?_
   refine s_op k_cv ?_
   refine s_op k_add ?_
   refine s_op k_nc ?_
   refine s_op k_fa ?_
   refine s_st k_st ?_
   refine s_nil trivial ?_
   refine n_wp ?_
   refine w_block ?_
   refine c_loop (fun m T H => ∃ (q : Run) (W : List Int), RunOk q ∧ tk q W = tk q0 (L.take (i + 1)).flatten ∧ W.length ≤ 4611686018427387904 ∧ m = W.length ∧ T = [(0, .s (.ptr 0 0 0)), (8, .s (ROWS L)), (9, .s (.int .i64 ((L.length : Nat) : Int))), (10, .s (.int .i64 ((i : Nat) : Int))), (5, .s (.fzi .u8 W))] ∧ H = [some (RQ q (tot + (L.take i).flatten.length + (L.getD i []).length))]) ((L.getD i []).length) ⟨q, (L.getD i []), hok, hstart, hB i, rfl, rfl, rfl⟩ (wk hE []) ?_
   rintro n_ T_ H_ ⟨q, W, hok, hW, hWl, rfl, rfl, rfl⟩
   have hm := hok.m
   have hbl := hok.b
   have hsl := hok.s
   refine w_seq ?_
   refine w_seq ?_
   refine g_reg hP hn ?_
   refine s_op k_mv ?_
   refine s_op k_len ?_
   refine s_op k_gtr ?_
   refine s_nil trivial ?_
   refine n_wp ?_
   refine w_if rfl (fun h_t26 => ?_) (fun h_t26 => ?_)
   · skip
     obtain ⟨m, hmm⟩ : ∃ m, m = min W.length (64 - q.m) := ⟨_, rfl⟩
     have hok2 : RunOk (chunk q (W.take m) m) := chunk_ok hok _ _ (by omega)
     have hW2 : tk (chunk q (W.take m) m) ((W.drop m).take (W.length - m)) = tk q0 (L.take (i + 1)).flatten := by
       rw [← tk_chunk q hok _ m (by simp; omega) (by omega) (by omega), ← tk_append, show (W.drop m).take (W.length - m) = W.drop m from List.take_of_length_le (by simp), List.take_append_drop]; exact hW
     refine w_skip ?_
     refine n_wp ?_
     refine w_block ?_
     refine w_seq ?_
     refine g_any hP hn ?_
     refine s_op k_mv ?_
     refine s_op k_nc ?_
     refine s_op k_fa ?_
     refine s_op k_fa ?_
     refine s_op k_mv ?_
     refine s_op k_nc ?_
     refine s_op k_fa ?_
     refine s_op k_fa ?_
     refine s_op k_ld ?_
     refine s_op k_sl ?_
     refine s_op k_mv ?_
     refine s_op (k_cpn m) ?_
     refine s_op k_as ?_
     refine s_nil (by kernel_rfl) ?_
     refine n_wp ?_
     refine w_seq ?_
     refine g_reg hP hn ?_
     refine s_op k_mv ?_
     refine s_op k_mv ?_
     refine s_op k_sl ?_
     refine s_op k_as ?_
     refine s_nil trivial ?_
     refine n_wp ?_
     refine w_seq ?_
     refine g_reg hP hn ?_
     refine s_op k_mv ?_
     refine s_op k_nc ?_
     refine s_op k_fa ?_
     refine s_op k_fa ?_
     refine s_op k_ld ?_
     refine s_op k_mv ?_
     refine s_op k_add ?_
     refine s_op k_nc ?_
     refine s_op k_fa ?_
     refine s_op k_fa ?_
     refine s_st k_st ?_
     refine s_nil trivial ?_
     refine n_wp ?_
     refine w_seq ?_
     refine g_reg hP hn ?_
     refine s_op k_mv ?_
     refine s_op k_nc ?_
     refine s_op k_fa ?_
     refine s_op k_fa ?_
     refine s_op k_ld ?_
     refine s_op k_eql ?_
     refine s_nil trivial ?_
     refine n_wp ?_
     refine w_if rfl (fun h_t57 => ?_) (fun h_t57 => ?_)
     · skip
       have hc : chunk q (W.take m) m = ⟨aft q.s (spl q.b (W.take m) q.m m 64), (spl q.b (W.take m) q.m m 64), 0⟩ := if_pos h_t57
       rw [hc] at hok2 hW2
       refine w_seq ?_
       refine g_any hP hn ?_
       refine s_op k_mv ?_
       refine s_op k_nc ?_
       refine s_op k_fa ?_
       refine s_op k_ld ?_
       refine s_op k_nc ?_
       refine s_op k_ld ?_
       refine s_op k_mv ?_
       refine s_op k_nc ?_
       refine s_op k_fa ?_
       refine s_op (k_call [0] (con := after_c _ _ (spl q.b (W.take m) q.m m 64) _ _ hsl (spl_len _ _ _ _ _))) ?_
       refine s_heap (H' := [some ⟨true, RUN q.s (spl q.b (W.take m) q.m m 64) ((q.m + m : Nat) : Int) ((tot + (L.take i).flatten.length + (L.getD i []).length : Nat) : Int)⟩]) rfl ?_
       refine s_op k_al ?_
       refine s_st k_st ?_
       refine s_nil (by kernel_rfl) ?_
       refine n_wp ?_
       refine w_weak (frz_ptr 7 8) ?_
       refine g_reg hP hn ?_
       refine s_op k_mv ?_
       refine s_op k_mv ?_
       refine s_op k_nc ?_
       refine s_op k_fa ?_
       refine s_st k_st ?_
       refine s_op k_nc ?_
       refine s_op k_fa ?_
       refine s_op k_fa ?_
       refine s_st k_st ?_
       refine s_nil trivial ?_
       refine n_blo ?_
       exact n_round (W.length - m) (by omega) ⟨_, _, hok2, hW2, by simp; omega, by simp, rfl, rfl⟩ (wk hE [])
     · skip
       have hc : chunk q (W.take m) m = ⟨q.s, (spl q.b (W.take m) q.m m 64), q.m + m⟩ := if_neg h_t57
       rw [hc] at hok2 hW2
       refine w_skip ?_
       refine n_blo ?_
       exact n_round (W.length - m) (by omega) ⟨_, _, hok2, hW2, by simp; omega, by simp, rfl, rfl⟩ (wk hE [])
   · skip
     have h0 : W = [] := List.length_eq_zero_iff.1 (by omega)
     subst h0
     have hdone : q = tk q0 (L.take (i + 1)).flatten := hW
     rw [Nat.add_assoc, ← htot]
     refine w_exit ?_
     refine x_thn ?_
     refine x_thn ?_
     refine x_eq ?_
     refine n_blo ?_
     refine n_wp ?_
     refine g_reg hP hn ?_
     refine s_op k_add ?_
     refine s_op k_mv ?_
     refine s_nil trivial ?_
     exact n_round (L.length - (i + 1)) (by omega) ⟨i + 1, q, by omega, rfl, hdone, rfl, rfl⟩ (wk hE [])
 · skip
   have hi : i = L.length := by omega
   subst hi
   have hfull : L.take L.length = L := List.take_length
   rw [hfull] at hq ⊢
   subst hq
   refine w_exit ?_
   refine x_thn ?_
   refine x_thn ?_
   refine x_eq ?_
   exact d_ret hP hn hE [] (ret_none Try.results43)

end Go.Proofs.X
