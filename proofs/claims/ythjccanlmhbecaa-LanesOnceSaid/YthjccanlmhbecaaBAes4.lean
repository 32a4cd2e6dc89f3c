/- A part of the proofs of this claim: BAes4 (BAes4). No conditions. -/
import Derived.Test.YthjccanlmhbecaaBAes3
set_option linter.unusedVariables false
set_option linter.unusedSimpArgs false
open Go Go.Bx Go.Proofs
namespace Go.Proofs.X
attribute [local irreducible] SB BK ks
set_option maxRecDepth 100000 in
set_option maxHeartbeats 4000000 in
theorem stream1_c (key first B : List Int) (hk8 : U8 key) (hf : first.length = 16) (hf8 : U8 first) (h0 : 0 < B.length) (hB : B.length ≤ 140737488355000) : Con Try.prog 22 [.agg [.ints .u8 16 key], .agg [.ints .u8 16 first], .s (.fzi .u8 B)] [] (.s (.fzi .u8 (streamI key first B))) [] := by
 refine con_in 67 Try.func22 rfl rfl (m := 0) rfl ?_
 intro E hP hn hE
 refine w_seq ?_
 refine g_reg hP hn ?_
 refine s_op k_bx ?_
 refine s_op k_bx ?_
 refine s_op k_as ?_
 refine s_nil trivial ?_
 refine n_wp ?_
 refine w_seq ?_
 refine w_seq ?_
 refine g_reg hP hn ?_
 refine s_op k_mv ?_
 refine s_op k_len ?_
 refine s_op k_eql ?_
 refine s_nil trivial ?_
 refine n_wp ?_
 refine w_F rfl ?_ 
 refine w_skip ?_
 refine n_wp ?_
 refine w_seq ?_
 refine g_reg hP hn ?_
 refine s_op k_ld ?_
 refine s_op (k_call [] (con := machine_c key hk8)) ?_
 refine s_op k_as ?_
 refine s_nil trivial ?_
 refine n_wp ?_
 refine w_seq ?_
 refine g_reg hP hn ?_
 refine s_op k_mv ?_
 refine s_op k_len ?_
 refine s_op k_mk ?_
 refine s_op k_as ?_
 refine s_nil trivial ?_
 refine n_wp ?_
 refine w_seq ?_
 refine w_seq ?_
 refine g_reg hP hn ?_
 refine s_op k_as ?_
 refine s_nil trivial ?_
 refine n_wp ?_
 refine w_block ?_
 refine c_loop (fun m T H => ∃ q, m = B.length + 16 - 16 * q ∧ 16 * q < B.length + 16 ∧ T = [(2, .s (.fzi .u8 B)), (4, .s (.ptr 1 0 0)), (7, .s (.fptr 688 (cellsF [.ints .u8 256 SB, .ints .u8 256 BK, .ints .u8 176 (keysOf key)]) 0 0)), (8, .s (.slice 2 0 0 B.length B.length)), (9, .s (.int .i64 ((16 * q : Nat) : Int)))] ∧ H = [some ⟨true, [.ints .u8 16 key]⟩, some ⟨true, [.ints .u8 16 (ctr first q)]⟩, some ⟨true, [.ints .u8 B.length (strN key first B B.length q)]⟩]) (B.length + 16) ⟨0, by omega, by omega, rfl, rfl⟩ (wk hE []) ?_
 rintro n_ T_ H_ ⟨q, rfl, hq, rfl, rfl⟩
 have hcl := (ctr_len first q).trans hf
 have hc8 := U8_ctr hf8 q
 have hol := strN_len key first B B.length q
 refine w_seq ?_
 refine w_seq ?_
 refine g_reg hP hn ?_
 refine s_op k_mv ?_
 refine s_op k_mv ?_
 refine s_op k_len ?_
 refine s_op k_lss ?_
 refine s_nil trivial ?_
 refine n_wp ?_
 refine w_if rfl (fun h_t24 => ?_) (fun h_t24 => ?_)
 · skip
   have hq1 : 16 * q < B.length := h_t24
   refine w_skip ?_
   refine n_wp ?_
   refine w_seq ?_
   refine w_block ?_
   refine w_seq ?_
   refine g_reg hP hn ?_
   refine s_op k_mv ?_
   refine s_op k_ld ?_
   refine s_op (k_call [] (con := block_c key (ctr first q) hcl hc8)) ?_
   refine s_op k_al ?_
   refine s_st k_st ?_
   refine s_nil trivial ?_
   refine n_wp ?_
   refine w_seq ?_
   refine w_seq ?_
   refine g_reg hP hn ?_
   refine s_op k_mv ?_
   refine s_op k_as ?_
   refine s_nil trivial ?_
   refine n_wp ?_
   refine w_block ?_
   refine c_loop (fun m T H => ∃ r, r ≤ min 16 (B.length - 16 * q) ∧ m = min 16 (B.length - 16 * q) - r ∧ T = [(2, .s (.fzi .u8 B)), (4, .s (.ptr 1 0 0)), (7, .s (.fptr 688 (cellsF [.ints .u8 256 SB, .ints .u8 256 BK, .ints .u8 176 (keysOf key)]) 0 0)), (8, .s (.slice 2 0 0 B.length B.length)), (9, .s (.int .i64 ((16 * q : Nat) : Int))), (10, .s (.ptr 3 0 0)), (11, .s (.int .i64 ((16 * q + r : Nat) : Int)))] ∧ H = [some ⟨true, [.ints .u8 16 key]⟩, some ⟨true, [.ints .u8 16 (ctr first q)]⟩, some ⟨true, [.ints .u8 B.length (str1 B (blockI key (ctr first q)) (strN key first B B.length q) (16 * q) r)]⟩, some ⟨true, [.ints .u8 16 (blockI key (ctr first q))]⟩]) (min 16 (B.length - 16 * q)) ⟨0, by omega, rfl, rfl, rfl⟩ (wk hE []) ?_
   rintro n_ T_ H_ ⟨r, hr, rfl, rfl, rfl⟩
   have hs1 := (str1_len B (blockI key (ctr first q)) (strN key first B B.length q) (16 * q) r).trans hol
   refine w_seq ?_
   refine w_seq ?_
   refine g_reg hP hn ?_
   refine s_op k_mv ?_
   refine s_op k_mv ?_
   refine s_op k_add ?_
   refine s_op k_mv ?_
   refine s_op k_len ?_
   refine s_op (k_min (by exact l_min (r := ((min (16 * q + 16) B.length : Nat) : Int)) rfl rfl (by split <;> omega))) ?_
   refine s_op k_lss ?_
   refine s_nil trivial ?_
   refine n_wp ?_
   refine w_if rfl (fun h_t37 => ?_) (fun h_t37 => ?_)
   · skip
     refine w_skip ?_
     refine n_wp ?_
     refine w_seq ?_
     refine w_block ?_
     refine g_any hP hn ?_
     refine s_op k_mv ?_
     refine s_op k_mv ?_
     refine s_op k_mv ?_
     refine s_op k_mv ?_
     refine s_op k_ix ?_
     refine s_op k_ld ?_
     refine s_op k_mv ?_
     refine s_op k_mv ?_
     refine s_op k_sub ?_
     refine s_op k_ix ?_
     refine s_op k_ld ?_
     refine s_op k_xor ?_
     refine s_op k_ix ?_
     refine s_st k_st ?_
     refine s_nil (by kernel_rfl) ?_
     refine n_blo ?_
     refine n_wp ?_
     refine g_reg hP hn ?_
     refine s_op k_mv ?_
     refine s_op k_add ?_
     refine s_op k_as ?_
     refine s_nil trivial ?_
     exact n_round (min 16 (B.length - 16 * q) - (r + 1)) (by omega) ⟨r + 1, by omega, rfl, rfl, rfl⟩ (wk hE [])
   · skip
     have hrm : r = min 16 (B.length - 16 * q) := by omega
     rw [show str1 B (blockI key (ctr first q)) (strN key first B B.length q) (16 * q) r = (strN key first B B.length (q + 1)) by rw [hrm, strN]]
     have hcn : incF (ctr first q) 16 = ctr first (q + 1) := rfl
     refine w_exit ?_
     refine x_thn ?_
     refine x_thn ?_
     refine x_eq ?_
     refine n_wp ?_
     refine w_seq ?_
     refine g_reg hP hn ?_
     refine s_op k_as ?_
     refine s_nil trivial ?_
     refine n_wp ?_
     refine w_block ?_
     refine c_loop (fun m T H => ∃ (t : Nat) (l : List Int) (z : Int), t ≤ 16 ∧ m = t ∧ l.length = 16 ∧ incF l t = ctr first (q + 1) ∧ z = (t : Int) - 1 ∧ T = [(2, .s (.fzi .u8 B)), (4, .s (.ptr 1 0 0)), (7, .s (.fptr 688 (cellsF [.ints .u8 256 SB, .ints .u8 256 BK, .ints .u8 176 (keysOf key)]) 0 0)), (8, .s (.slice 2 0 0 B.length B.length)), (9, .s (.int .i64 ((16 * q : Nat) : Int))), (12, .s (.int .i64 z))] ∧ H = [some ⟨true, [.ints .u8 16 key]⟩, some ⟨true, [.ints .u8 16 l]⟩, some ⟨true, [.ints .u8 B.length (strN key first B B.length (q + 1))]⟩]) (16) ⟨16, (ctr first q), 15, by omega, rfl, hcl, hcn, by omega, rfl, rfl⟩ (wk hE []) ?_
     rintro n_ T_ H_ ⟨t, l, z, ht, hmt, hll, hinc, hz, rfl, rfl⟩
     refine w_seq ?_
     refine w_seq ?_
     refine g_reg hP hn ?_
     refine s_op k_mv ?_
     refine s_op k_geq ?_
     refine s_nil trivial ?_
     refine n_wp ?_
     refine w_if rfl (fun h_t54 => ?_) (fun h_t54 => ?_)
     · skip
       obtain ⟨i, rfl⟩ : ∃ i, t = i + 1 := ⟨t - 1, by omega⟩
       have hzi : z = ((i : Nat) : Int) := by omega
       subst hzi
       refine w_skip ?_
       refine n_wp ?_
       refine w_seq ?_
       refine w_block ?_
       refine w_seq ?_
       refine g_reg hP hn ?_
       refine s_op k_mv ?_
       refine s_op (k_ix (by exact a_ixp (hj := ⟨rfl⟩) rfl rfl (by omega))) ?_
       refine s_op k_ld ?_
       refine s_op k_add ?_
       refine s_op k_ix ?_
       refine s_st k_st ?_
       refine s_nil trivial ?_
       refine n_wp ?_
       refine w_seq ?_
       refine g_reg hP hn ?_
       refine s_op k_mv ?_
       refine s_op k_ix ?_
       refine s_op k_ld ?_
       refine s_op k_neq ?_
       refine s_nil trivial ?_
       refine n_wp ?_
       refine w_if rfl (fun h_t65 => ?_) (fun h_t65 => ?_)
       · skip
         have hfin : l.set i (IntKind.u8.wrap (l.getD i 0 + 1)) = ctr first (q + 1) := by rw [← hinc, incF, if_neg h_t65]
         rw [hfin]
         refine w_exit ?_
         refine x_ne rfl ?_
         refine x_thn ?_
         refine x_thn ?_
         refine x_eq ?_
         refine n_blo ?_
         refine n_wp ?_
         refine g_reg hP hn ?_
         refine s_op k_mv ?_
         refine s_op k_add ?_
         refine s_op k_as ?_
         refine s_nil trivial ?_
         exact n_round (B.length + 16 - 16 * (q + 1)) (by omega) ⟨q + 1, rfl, by omega, rfl, rfl⟩ (wk hE [])
       · skip
         have hinc2 : incF (l.set i (IntKind.u8.wrap (l.getD i 0 + 1))) i = ctr first (q + 1) := by rw [← hinc, incF, if_pos (Decidable.not_not.1 h_t65)]
         refine w_skip ?_
         refine n_blo ?_
         refine n_wp ?_
         refine g_reg hP hn ?_
         refine s_op k_mv ?_
         refine s_op (k_sub (by exact l_bin rfl rfl (b_sub (wrap_i64 (by omega))))) ?_
         refine s_op k_as ?_
         refine s_nil trivial ?_
         exact n_round i (by omega) ⟨i, _, (i : Int) - 1, by omega, rfl, (by simp [hll] : (l.set i (IntKind.u8.wrap (l.getD i 0 + 1))).length = 16), hinc2, rfl, rfl, rfl⟩ (wk hE [])
     · skip
       have ht0 : t = 0 := by omega
       subst ht0
       have hfin : l = ctr first (q + 1) := hinc
       rw [hfin]
       refine w_exit ?_
       refine x_thn ?_
       refine x_thn ?_
       refine x_eq ?_
       refine n_blo ?_
       refine n_wp ?_
       refine g_reg hP hn ?_
       refine s_op k_mv ?_
       refine s_op k_add ?_
       refine s_op k_as ?_
       refine s_nil trivial ?_
       exact n_round (B.length + 16 - 16 * (q + 1)) (by omega) ⟨q + 1, rfl, by omega, rfl, rfl⟩ (wk hE [])
 · skip
   have hqe : q = (B.length + 15) / 16 := by omega
   rw [show strN key first B B.length q = streamI key first B by rw [hqe, streamI]]
   have hsl : (streamI key first B).length = B.length := strN_len _ _ _ _ _
   refine w_exit ?_
   refine x_thn ?_
   refine x_thn ?_
   refine x_eq ?_
   refine n_wp ?_
   refine w_seq ?_
   refine g_reg hP hn ?_
   refine s_op k_mv ?_
   refine s_op k_as ?_
   refine s_nil trivial ?_
   refine n_wp ?_
   refine w_ret ?_
   exact d_retw hP hn (r_tmp Try.results22) ((frz_sl 0 (l' := streamI key first B) (hl := hsl) (hl' := by rw [List.drop_zero]; exact List.take_of_length_le (Nat.le_of_eq hsl))).trans (wk hE []))

set_option maxRecDepth 100000 in
set_option maxHeartbeats 4000000 in
theorem stream0_c (key first : List Int) : Con Try.prog 22 [.agg [.ints .u8 16 key], .agg [.ints .u8 16 first], .s (.fzi .u8 [])] [] (.s (.fzi .u8 (streamI key first []))) [] := by
 refine con_in 67 Try.func22 rfl rfl (m := 0) rfl ?_
 intro E hP hn hE
 refine w_seq ?_
 refine g_reg hP hn ?_
 refine s_op k_bx ?_
 refine s_op k_bx ?_
 refine s_op k_as ?_
 refine s_nil trivial ?_
 refine n_wp ?_
 refine w_seq ?_
 refine w_seq ?_
 refine g_reg hP hn ?_
 refine s_op k_mv ?_
 refine s_op k_len ?_
 refine s_op k_eql ?_
 refine s_nil trivial ?_
 refine n_wp ?_
 refine w_T rfl ?_ 
 refine w_seq ?_
 refine g_reg hP hn ?_
 refine s_op k_as ?_
 refine s_nil trivial ?_
 refine n_wp ?_
 refine w_ret ?_
 refine r_thn ?_
 exact d_retw hP hn (r_tmp Try.results22) ((weak_conv 0 rfl conv_nil).trans (wk hE []))

theorem stream_c (key first B : List Int) (hk8 : U8 key) (hf : first.length = 16) (hf8 : U8 first) (hB : B.length ≤ 140737488355000) : Con Try.prog 22 [.agg [.ints .u8 16 key], .agg [.ints .u8 16 first], .s (.fzi .u8 B)] [] (.s (.fzi .u8 (streamI key first B))) [] := by
 by_cases h : B.length = 0
 · have h0 : B = [] := List.length_eq_zero_iff.1 h
   subst h0; exact stream0_c key first
 · exact stream1_c key first B hk8 hf hf8 (by omega) hB

end Go.Proofs.X
