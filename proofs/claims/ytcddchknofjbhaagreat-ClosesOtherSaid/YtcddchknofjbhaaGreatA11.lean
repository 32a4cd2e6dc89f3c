/- A part of the proofs of this claim: BGet3, BGet4, Bx44, BCloT, BCloS, BClo1, BClo2, BClo3, BClo4, BClo5, BCloP. No conditions. -/
import Derived.Test.YtcddchknofjbhaaGreatA10
import Derived.DefersIn
import Derived.Test.YtcddchknofjbhaaGreatA7
import Derived.Test.YtcddchknofjbhaaGreatA8
set_option linter.unusedVariables false
set_option linter.unusedSimpArgs false
section
set_option maxRecDepth 100000
set_option maxHeartbeats 4000000
open Go Go.Bx Go.Proofs
namespace Go.Proofs.X
attribute [local irreducible] be gN ckS encL enF up8 chk pk0 pkB mayK
theorem kget_y (Y Y0 : List Int) (k : Nat) (A B Z : List Int) (hF : PkF Y Y0 k A B Z) (hZ : Z.length ≤ 2008) (hk : mayK k = true) (M : List Pc) (hc : Con Tryz.prog 36 [.s (.fzi .u8 Z)] [] (.tup [.s (PARS M), .s (.int .i64 0)]) []) : Con Tryz.prog 10 [.s (.fzi .u8 Y)] [] (.tup [.agg (PKT k A B M), .s (.int .i64 0)]) [] := by
 refine con_in 61 Tryz.func10 rfl rfl (m := 0) rfl ?_
 intro E hP hn hE
 have hlen := hF.len
 have hu := hF.u8
 have hlA : A.length = 16 := by rw [← hF.fr]; simp; omega
 have hA : spl (zs (List.replicate 16 0)) A 0 16 16 = A := by
  have h := spl_all (n := 16) hlA
  rwa [List.take_of_length_le (by omega)] at h
 have hlB : B.length = 16 := by rw [← hF.to]; simp; omega
 have hB : spl (zs (List.replicate 16 0)) B 0 16 16 = B := by
  have h := spl_all (n := 16) hlB
  rwa [List.take_of_length_le (by omega)] at h
 refine qz hP hn ?_
 refine s_op k_bxs ?_
 refine o2 ?_
 refine s_nil trivial (n_wp (w_seq (w_block (qz hP hn ?_))))
 refine o4 ?_
 refine s_nil trivial (n_wp ?_)
 refine w_F rfl ?_ (decide_eq_false (by omega))
 refine qz hP hn ?_
 refine o4 ?_
 refine s_nil trivial (n_wp ?_)
 refine w_F rfl ?_ (decide_eq_false (by omega))
 refine w_skip (n_blo (n_wp (qz hP hn ?_)))
 refine s_op (k_fnN [(.fptr 1 (cellsF [.one (.fzi .u8 Y)]) 0 0)]) ?_
 refine s_op (k_fnN [(.fptr 1 (cellsF [.one (.fzi .u8 Y)]) 0 0)]) ?_
 refine s_op (k_fnN [(.fptr 1 (cellsF [.one (.fzi .u8 Y)]) 0 0)]) ?_
 refine s_op (k_fnN [(.fptr 1 (cellsF [.one (.fzi .u8 Y)]) 0 0)]) ?_
 refine s_op (k_bsR [[.one (.noid (.clo 28 1 (capF [(.fptr 1 (cellsF [.one (.fzi .u8 Y)]) 0 0)])))], [.one (.noid (.clo 30 1 (capF [(.fptr 1 (cellsF [.one (.fzi .u8 Y)]) 0 0)])))], [.one (.noid (.clo 32 1 (capF [(.fptr 1 (cellsF [.one (.fzi .u8 Y)]) 0 0)])))], [.one (.noid (.clo 33 1 (capF [(.fptr 1 (cellsF [.one (.fzi .u8 Y)]) 0 0)])))]]) ?_
 refine s_op k_as ?_
 refine s_nil trivial (n_wp (w_seq (qz hP hn ?_)))
 refine o3 ?_
 refine s_nil trivial (n_wp (w_block ?_))
 refine c_loop (fun m_ T H => ∃ i, i ≤ 4 ∧ m_ = 4 - i ∧ T = [(1, .s (.fptr 1 (cellsF [.one (.fzi .u8 Y)]) 0 0)), (2, .s (.ptr 0 0 0)), (23, .s (.fz 4 1 (rowsF fun i => ([[.one (.noid (.clo 28 1 (capF [(.fptr 1 (cellsF [.one (.fzi .u8 Y)]) 0 0)])))], [.one (.noid (.clo 30 1 (capF [(.fptr 1 (cellsF [.one (.fzi .u8 Y)]) 0 0)])))], [.one (.noid (.clo 32 1 (capF [(.fptr 1 (cellsF [.one (.fzi .u8 Y)]) 0 0)])))], [.one (.noid (.clo 33 1 (capF [(.fptr 1 (cellsF [.one (.fzi .u8 Y)]) 0 0)])))]] : List (List Seg)).getD i []))), (24, .s (.int .i64 ((4 : Nat) : Int))), (25, .s (.int .i64 ((i : Nat) : Int)))] ∧ H = [some ⟨true, [.one (.int .u8 0), .ints .u8 16 (zs (List.replicate 16 0)), .ints .u8 16 (zs (List.replicate 16 0)), .one .nils]⟩]) (4) ⟨0, by omega, rfl, rfl, rfl⟩ (wk hE [1]) ?_
 rintro n_ T_ H_ ⟨i, hi, rfl, rfl, rfl⟩
 refine qz hP hn ?_
 refine s_op k_lss ?_
 refine s_nil trivial (n_wp (w_seq ?_))
 refine w_if rfl (fun h_t26 => ?_) (fun h_t26 => ?_)
 · refine w_skip (n_wp (w_seq (w_block (w_seq ?_))))
   obtain rfl | rfl | rfl | rfl : i = 0 ∨ i = 1 ∨ i = 2 ∨ i = 3 := by omega
   · refine g_reg hP hn ?_
     refine s_op k_ix ?_
     refine s_op (k_ld (by exact a_loadf (v := .noid (.clo 28 1 (capF [(.fptr 1 (cellsF [.one (.fzi .u8 Y)]) 0 0)]))) rfl (by omega) rfl)) ?_
     refine s_op k_as ?_
     refine qx hP hn ?_
     refine s_op k_mv ?_
     refine s_op (k_callN [(.fptr 1 (cellsF [.one (.fzi .u8 Y)]) 0 0)] (con := kg1 Y Y0 k A B Z hF hZ hk)) ?_
     refine s_op k_not ?_
     refine s_nil trivial (n_wp ?_)
     refine w_F rfl ?_ 
     refine w_skip (n_blo (n_wp (g_reg hP hn ?_)))
     refine o2 ?_
     refine s_nil trivial ?_
     exact n_round (4 - (0 + 1)) (by omega) ⟨0 + 1, by omega, rfl, rfl, rfl⟩ (wk hE [0])
   · refine g_reg hP hn ?_
     refine s_op k_ix ?_
     refine s_op (k_ld (by exact a_loadf (v := .noid (.clo 30 1 (capF [(.fptr 1 (cellsF [.one (.fzi .u8 Y)]) 0 0)]))) rfl (by omega) rfl)) ?_
     refine s_op k_as ?_
     refine qx hP hn ?_
     refine s_op k_mv ?_
     refine s_op (k_callN [(.fptr 1 (cellsF [.one (.fzi .u8 Y)]) 0 0)] (con := kg2 Y Y0 k A B Z hF hZ)) ?_
     refine s_op k_not ?_
     refine s_nil trivial (n_wp ?_)
     refine w_F rfl ?_ 
     refine w_skip (n_blo (n_wp (g_reg hP hn ?_)))
     refine o2 ?_
     refine s_nil trivial ?_
     exact n_round (4 - (1 + 1)) (by omega) ⟨1 + 1, by omega, rfl, rfl, rfl⟩ (wk hE [0])
   · refine g_reg hP hn ?_
     refine s_op k_ix ?_
     refine s_op (k_ld (by exact a_loadf (v := .noid (.clo 32 1 (capF [(.fptr 1 (cellsF [.one (.fzi .u8 Y)]) 0 0)]))) rfl (by omega) rfl)) ?_
     refine s_op k_as ?_
     refine qx hP hn ?_
     refine s_op k_mv ?_
     refine s_op (k_callN [(.fptr 1 (cellsF [.one (.fzi .u8 Y)]) 0 0)] (con := kg3 Y Y0 k A B Z hF hZ)) ?_
     refine s_op k_not ?_
     refine s_nil trivial (n_wp ?_)
     refine w_F rfl ?_ 
     refine w_skip (n_blo (n_wp (g_reg hP hn ?_)))
     refine o2 ?_
     refine s_nil trivial ?_
     exact n_round (4 - (2 + 1)) (by omega) ⟨2 + 1, by omega, rfl, rfl, rfl⟩ (wk hE [0])
   · refine g_reg hP hn ?_
     refine s_op k_ix ?_
     refine s_op (k_ld (by exact a_loadf (v := .noid (.clo 33 1 (capF [(.fptr 1 (cellsF [.one (.fzi .u8 Y)]) 0 0)]))) rfl (by omega) rfl)) ?_
     refine s_op k_as ?_
     refine qx hP hn ?_
     refine s_op k_mv ?_
     refine s_op (k_callN [(.fptr 1 (cellsF [.one (.fzi .u8 Y)]) 0 0)] (con := kg4 Y Y0 k A B Z hF hZ)) ?_
     refine s_op k_not ?_
     refine s_nil trivial (n_wp ?_)
     refine w_F rfl ?_ 
     refine w_skip (n_blo (n_wp (g_reg hP hn ?_)))
     refine o2 ?_
     refine s_nil trivial ?_
     exact n_round (4 - (3 + 1)) (by omega) ⟨3 + 1, by omega, rfl, rfl, rfl⟩ (wk hE [0])
 · obtain rfl : i = 4 := by omega
   refine w_exit (x_thn (x_thn (x_eq (n_wp (qz hP hn ?_)))))
   refine s_op k_ld ?_
   refine s_op k_sl ?_
   rw [hF.re]
   refine s_op (k_call [] (con := hc)) ?_
   refine o3 ?_
   refine o2 ?_
   refine s_nil trivial (n_wp (w_seq (qz hP hn ?_)))
   refine s_op k_mv ?_
   refine s_op (l_bin rfl rfl (b_neq (r := false) (decide_eq_false (fun h => h rfl)))) ?_
   refine s_nil trivial (n_wp ?_)
   refine w_F rfl ?_ 
   refine w_skip (n_wp (qz hP hn ?_))
   refine o3 ?_
   rw [hF.b1]
   refine o2 ?_
   refine s_st k_st ?_
   refine s_op k_fa ?_
   refine s_st k_st ?_
   refine s_nil trivial (n_wp (w_seq ?_))
   refine g_any hP hn ?_
   refine s_op k_fa ?_
   refine s_op k_sl ?_
   refine s_op k_ld ?_
   refine s_op k_sl ?_
   refine s_op (k_cpn 16 (hz := hF.fr)) ?_
   refine s_nil (by kernel_rfl) ?_
   refine n_wp (w_seq ?_)
   rw [hA]
   refine g_any hP hn ?_
   refine s_op k_fa ?_
   refine s_op k_sl ?_
   refine s_op k_ld ?_
   refine s_op k_sl ?_
   refine s_op (k_cpn 16 (hz := hF.to)) ?_
   refine s_nil (by kernel_rfl) ?_
   refine n_wp (w_seq ?_)
   rw [hB]
   refine g_reg hP hn ?_
   refine s_op k_ld ?_
   refine s_st k_st ?_
   refine s_op k_as ?_
   refine s_nil trivial (n_wp (w_ret ?_))
   exact d_ret hP hn hE [] (ret2 Tryz.results10 r_cella (by first | exact ri_tmp rfl | exact ri_tmpa rfl))

end Go.Proofs.X
end

section
set_option maxRecDepth 100000
set_option maxHeartbeats 4000000
open Go Go.Bx Go.Proofs
namespace Go.Proofs.X
attribute [local irreducible] be gN ckS encL enF up8 chk pk0 pkB mayK
theorem same1_c (p q : Pc) (hp : p.2.length ≤ 1000000) : Con Tryz.prog 69 [.agg (PR p), .agg (PR q)] [] (.s (.bool (decide (p.1 = q.1) && decide (p.2 = q.2)))) [] := by
 refine con_in 17 Tryz.func69 rfl rfl (m := 0) rfl ?_
 intro E hP hn hE
 refine qz hP hn ?_
 refine s_op k_bxf ?_
 refine s_op k_bxf ?_
 refine s_op k_as ?_
 refine qx hP hn ?_
 refine o4 ?_
 refine o2 ?_
 refine s_opt rfl rfl (fun hB => by rw [hB]; (try simp only [Bool.or_eq_true, Bool.or_eq_false_iff, Bool.and_eq_true, Bool.not_eq_true', Bool.not_eq_false', decide_eq_true_eq, decide_eq_false_iff_not] at hB); exact k_fa) ?_
 refine s_opt rfl rfl (fun hB => by rw [hB]; (try simp only [Bool.or_eq_true, Bool.or_eq_false_iff, Bool.and_eq_true, Bool.not_eq_true', Bool.not_eq_false', decide_eq_true_eq, decide_eq_false_iff_not] at hB); exact k_ld) ?_
 refine s_opt rfl rfl (fun hB => by rw [hB]; (try simp only [Bool.or_eq_true, Bool.or_eq_false_iff, Bool.and_eq_true, Bool.not_eq_true', Bool.not_eq_false', decide_eq_true_eq, decide_eq_false_iff_not] at hB); exact k_fa) ?_
 refine s_opt rfl rfl (fun hB => by rw [hB]; (try simp only [Bool.or_eq_true, Bool.or_eq_false_iff, Bool.and_eq_true, Bool.not_eq_true', Bool.not_eq_false', decide_eq_true_eq, decide_eq_false_iff_not] at hB); exact k_ld) ?_
 refine s_opt rfl rfl (fun hB => by rw [hB]; (try simp only [Bool.or_eq_true, Bool.or_eq_false_iff, Bool.and_eq_true, Bool.not_eq_true', Bool.not_eq_false', decide_eq_true_eq, decide_eq_false_iff_not] at hB); exact k_call [] (con := sameb_c p.2 q.2 (by omega))) ?_
 refine o2 ?_
 refine s_nil trivial (n_wp (w_ret ?_))
 exact d_ret hP hn hE [] (by first | exact r_tmp Tryz.results69 | exact r_tmpa Tryz.results69)

theorem sames_len (L N : List Pc) (hLb : L.length ≤ 1000000) (hbd : ∀ i, i < L.length → (L.getD i p0).2.length ≤ 1000000) (hN : N.length ≤ 1000000) (h : L.length ≠ N.length) : Con Tryz.prog 38 [.s (PARS L), .s (PARS N)] [] (.s (.bool false)) [] := by
 refine con_in 27 Tryz.func38 rfl rfl (m := 0) rfl ?_
 intro E hP hn hE
 refine qz hP hn ?_
 refine s_op k_as ?_
 refine s_nil trivial (n_wp (w_seq (qz hP hn ?_)))
 refine o3 ?_
 refine o2 ?_
 refine s_nil trivial (n_wp ?_)
 refine w_T rfl ?_ (by rw [decide_eq_false h]; rfl)
 refine qz hP hn ?_
 refine s_op k_as ?_
 refine s_nil trivial (n_wp (w_ret (r_thn ?_)))
 exact d_ret hP hn hE [] (by first | exact r_tmp Tryz.results38 | exact r_tmpa Tryz.results38)

theorem sames_y (L N : List Pc) (hLb : L.length ≤ 1000000) (hbd : ∀ i, i < L.length → (L.getD i p0).2.length ≤ 1000000) (h : L.length = N.length) (hall : ∀ i, i < L.length → L.getD i p0 = N.getD i p0) : Con Tryz.prog 38 [.s (PARS L), .s (PARS N)] [] (.s (.bool true)) [] := by
 refine con_in 27 Tryz.func38 rfl rfl (m := 0) rfl ?_
 intro E hP hn hE
 refine qz hP hn ?_
 refine s_op k_as ?_
 refine s_nil trivial (n_wp (w_seq (qz hP hn ?_)))
 refine o3 ?_
 refine o2 ?_
 refine s_nil trivial (n_wp ?_)
 refine w_F rfl ?_ (by rw [decide_eq_true h]; rfl)
 refine w_skip (n_wp (w_seq (qz hP hn ?_)))
 refine s_op k_as ?_
 refine s_nil trivial (n_wp (w_block ?_))
 refine c_loop (fun m_ T H => ∃ i, i ≤ L.length ∧ m_ = L.length - i ∧ (∀ k, k < i → L.getD k p0 = N.getD k p0) ∧ T = [(0, .s (PARS L)), (1, .s (PARS N)), (5, .s (.int .i64 ((i : Nat) : Int)))] ∧ H = []) (L.length) ⟨0, by omega, rfl, fun k hk => absurd hk (Nat.not_lt_zero k), rfl, rfl⟩ (wk hE []) ?_
 rintro n_ T_ H_ ⟨i, hi, rfl, hup, rfl, rfl⟩
 refine w_seq (qz hP hn ?_)
 refine o4 ?_
 refine s_nil trivial (n_wp ?_)
 refine w_if rfl (fun h_t14 => ?_) (fun h_t14 => ?_)
 · have hsame := hall i h_t14
   refine w_skip (n_wp (w_seq (w_block (w_seq ?_))))
   refine g_any hP hn ?_
   refine o3 ?_
   refine s_op k_ldP ?_
   refine o3 ?_
   refine s_op k_ldP ?_
   refine s_op (k_call [] (con := same1_c (L.getD i p0) (N.getD i p0) (hbd i (by omega)))) ?_
   refine s_op k_not ?_
   refine s_nil (by kernel_rfl) ?_
   refine n_wp ?_
   refine w_F rfl ?_ (by rw [hsame]; simp)
   refine w_skip (n_blo (n_wp (g_reg hP hn ?_)))
   refine o3 ?_
   refine s_nil trivial ?_
   exact n_round (L.length - (i + 1)) (by omega) ⟨i + 1, by omega, rfl, fun k hk => (Nat.lt_succ_iff_lt_or_eq.1 hk).elim (hup k) (fun e => e ▸ hsame), rfl, rfl⟩ (wk hE [])
 · refine w_exit (x_thn (x_thn (x_eq (n_wp (qz hP hn ?_)))))
   refine s_op k_as ?_
   refine s_nil trivial (n_wp (w_ret ?_))
   exact d_ret hP hn hE [] (by first | exact r_tmp Tryz.results38 | exact r_tmpa Tryz.results38)

theorem sames_n (L N : List Pc) (hLb : L.length ≤ 1000000) (hbd : ∀ i, i < L.length → (L.getD i p0).2.length ≤ 1000000) (h : L.length = N.length) (j : Nat) (hj : j < L.length) (hne : L.getD j p0 ≠ N.getD j p0) : Con Tryz.prog 38 [.s (PARS L), .s (PARS N)] [] (.s (.bool false)) [] := by
 refine con_in 27 Tryz.func38 rfl rfl (m := 0) rfl ?_
 intro E hP hn hE
 refine qz hP hn ?_
 refine s_op k_as ?_
 refine s_nil trivial (n_wp (w_seq (qz hP hn ?_)))
 refine o3 ?_
 refine o2 ?_
 refine s_nil trivial (n_wp ?_)
 refine w_F rfl ?_ (by rw [decide_eq_true h]; rfl)
 refine w_skip (n_wp (w_seq (qz hP hn ?_)))
 refine s_op k_as ?_
 refine s_nil trivial (n_wp (w_block ?_))
 refine c_loop (fun m_ T H => ∃ i, i ≤ L.length ∧ m_ = L.length - i ∧ (∀ k, k < i → L.getD k p0 = N.getD k p0) ∧ T = [(0, .s (PARS L)), (1, .s (PARS N)), (5, .s (.int .i64 ((i : Nat) : Int)))] ∧ H = []) (L.length) ⟨0, by omega, rfl, fun k hk => absurd hk (Nat.not_lt_zero k), rfl, rfl⟩ (wk hE []) ?_
 rintro n_ T_ H_ ⟨i, hi, rfl, hup, rfl, rfl⟩
 refine w_seq (qz hP hn ?_)
 refine o4 ?_
 refine s_nil trivial (n_wp ?_)
 have hij : i ≤ j := Nat.le_of_not_lt fun h => hne (hup j h)
 have h_t14 : i < L.length := by omega
 refine w_T rfl ?_ (decide_eq_true h_t14)
 refine w_skip (n_wp (w_seq (w_block (w_seq ?_))))
 refine g_any hP hn ?_
 refine o3 ?_
 refine s_op k_ldP ?_
 refine o3 ?_
 refine s_op k_ldP ?_
 refine s_op (k_call [] (con := same1_c (L.getD i p0) (N.getD i p0) (hbd i (by omega)))) ?_
 refine s_op k_not ?_
 refine s_nil (by kernel_rfl) ?_
 refine n_wp ?_
 refine w_cond rfl (fun h_t26 => ?_) (fun h_t26 => ?_)
 · refine qz hP hn ?_
   refine s_op k_as ?_
   refine s_nil trivial (n_wp (w_ret (r_blo (r_thn (r_thn (r_blo (r_thn ?_)))))))
   exact d_ret hP hn hE [] (by first | exact r_tmp Tryz.results38 | exact r_tmpa Tryz.results38)
 · have hsame : L.getD i p0 = N.getD i p0 := by
    simp only [Bool.not_eq_false', Bool.and_eq_true, decide_eq_true_eq] at h_t26
    exact Prod.ext h_t26.1 h_t26.2
   refine w_skip (n_blo (n_wp (g_reg hP hn ?_)))
   refine o3 ?_
   refine s_nil trivial ?_
   exact n_round (L.length - (i + 1)) (by omega) ⟨i + 1, by omega, rfl, fun k hk => (Nat.lt_succ_iff_lt_or_eq.1 hk).elim (hup k) (fun e => e ▸ hsame), rfl, rfl⟩ (wk hE [])

theorem sames_c (L N : List Pc) (hLb : L.length ≤ 1000000) (hbd : ∀ i, i < L.length → (L.getD i p0).2.length ≤ 1000000) (hN : N.length ≤ 1000000) : Con Tryz.prog 38 [.s (PARS L), .s (PARS N)] [] (.s (.bool (decide (L = N)))) [] := by
 by_cases h : L.length = N.length
 · by_cases h2 : ∀ i, i < L.length → L.getD i p0 = N.getD i p0
   · have e : L = N := by
       refine List.ext_getElem h fun i h1 h3 => ?_
       have := h2 i h1
       rwa [List.getD_eq_getElem?_getD, List.getD_eq_getElem?_getD, List.getElem?_eq_getElem h1, List.getElem?_eq_getElem h3] at this
     rw [decide_eq_true e]; exact sames_y L N hLb hbd h h2
   · obtain ⟨j, hj⟩ := Classical.not_forall.1 h2
     obtain ⟨hj1, hj2⟩ := Classical.not_imp.1 hj
     rw [decide_eq_false (fun e => hj2 (by rw [e]))]; exact sames_n L N hLb hbd h j hj1 hj2
 · rw [decide_eq_false (fun e => h (by rw [e]))]; exact sames_len L N hLb hbd hN h

theorem samepk_c (k l : Nat) (A B C D : List Int) (L N : List Pc) (hA : A.length = 16) (hB : B.length = 16) (hC : C.length = 16) (hD : D.length = 16) (hLb : L.length ≤ 1000000) (hbd : ∀ i, i < L.length → (L.getD i p0).2.length ≤ 1000000) (hN : N.length ≤ 1000000) : Con Tryz.prog 12 [.agg (PKT k A B L), .agg (PKT l C D N)] [] (.s (.bool (decide (k = l) && decide (A = C) && decide (B = D) && decide (L = N)))) [] := by
 refine con_in 31 Tryz.func12 rfl rfl (m := 0) rfl ?_
 intro E hP hn hE
 refine qz hP hn ?_
 refine s_op k_bxf ?_
 refine s_op k_bxf ?_
 refine s_op k_as ?_
 refine qx hP hn ?_
 refine o4 ?_
 refine o2 ?_
 refine s_opt rfl rfl (fun hB => by rw [hB]; (try simp only [Bool.or_eq_true, Bool.or_eq_false_iff, Bool.and_eq_true, Bool.not_eq_true', Bool.not_eq_false', decide_eq_true_eq, decide_eq_false_iff_not] at hB); exact k_fa) ?_
 refine s_opt rfl rfl (fun hB => by rw [hB]; (try simp only [Bool.or_eq_true, Bool.or_eq_false_iff, Bool.and_eq_true, Bool.not_eq_true', Bool.not_eq_false', decide_eq_true_eq, decide_eq_false_iff_not] at hB); exact k_ld) ?_
 refine s_opt rfl rfl (fun hB => by rw [hB]; (try simp only [Bool.or_eq_true, Bool.or_eq_false_iff, Bool.and_eq_true, Bool.not_eq_true', Bool.not_eq_false', decide_eq_true_eq, decide_eq_false_iff_not] at hB); exact k_fa) ?_
 refine s_opt rfl rfl (fun hB => by rw [hB]; (try simp only [Bool.or_eq_true, Bool.or_eq_false_iff, Bool.and_eq_true, Bool.not_eq_true', Bool.not_eq_false', decide_eq_true_eq, decide_eq_false_iff_not] at hB); exact k_ld) ?_
 refine s_opt rfl rfl (fun hB => by rw [hB]; (try simp only [Bool.or_eq_true, Bool.or_eq_false_iff, Bool.and_eq_true, Bool.not_eq_true', Bool.not_eq_false', decide_eq_true_eq, decide_eq_false_iff_not] at hB); exact k_eql) ?_
 refine o2 ?_
 refine s_opt rfl rfl (fun hB => by rw [hB]; (try simp only [Bool.or_eq_true, Bool.or_eq_false_iff, Bool.and_eq_true, Bool.not_eq_true', Bool.not_eq_false', decide_eq_true_eq, decide_eq_false_iff_not] at hB); exact k_fa) ?_
 refine s_opt rfl rfl (fun hB => by rw [hB]; (try simp only [Bool.or_eq_true, Bool.or_eq_false_iff, Bool.and_eq_true, Bool.not_eq_true', Bool.not_eq_false', decide_eq_true_eq, decide_eq_false_iff_not] at hB); exact k_ld) ?_
 refine s_opt rfl rfl (fun hB => by rw [hB]; (try simp only [Bool.or_eq_true, Bool.or_eq_false_iff, Bool.and_eq_true, Bool.not_eq_true', Bool.not_eq_false', decide_eq_true_eq, decide_eq_false_iff_not] at hB); exact k_fa) ?_
 refine s_opt rfl rfl (fun hB => by rw [hB]; (try simp only [Bool.or_eq_true, Bool.or_eq_false_iff, Bool.and_eq_true, Bool.not_eq_true', Bool.not_eq_false', decide_eq_true_eq, decide_eq_false_iff_not] at hB); exact k_ld) ?_
 refine s_opt rfl rfl (fun hB => by rw [hB]; (try simp only [Bool.or_eq_true, Bool.or_eq_false_iff, Bool.and_eq_true, Bool.not_eq_true', Bool.not_eq_false', decide_eq_true_eq, decide_eq_false_iff_not] at hB); exact k_eql) ?_
 refine o2 ?_
 refine s_opt rfl rfl (fun hB => by rw [hB]; (try simp only [Bool.or_eq_true, Bool.or_eq_false_iff, Bool.and_eq_true, Bool.not_eq_true', Bool.not_eq_false', decide_eq_true_eq, decide_eq_false_iff_not] at hB); exact k_fa) ?_
 refine s_opt rfl rfl (fun hB => by rw [hB]; (try simp only [Bool.or_eq_true, Bool.or_eq_false_iff, Bool.and_eq_true, Bool.not_eq_true', Bool.not_eq_false', decide_eq_true_eq, decide_eq_false_iff_not] at hB); exact k_ld) ?_
 refine s_opt rfl rfl (fun hB => by rw [hB]; (try simp only [Bool.or_eq_true, Bool.or_eq_false_iff, Bool.and_eq_true, Bool.not_eq_true', Bool.not_eq_false', decide_eq_true_eq, decide_eq_false_iff_not] at hB); exact k_fa) ?_
 refine s_opt rfl rfl (fun hB => by rw [hB]; (try simp only [Bool.or_eq_true, Bool.or_eq_false_iff, Bool.and_eq_true, Bool.not_eq_true', Bool.not_eq_false', decide_eq_true_eq, decide_eq_false_iff_not] at hB); exact k_ld) ?_
 refine s_opt rfl rfl (fun hB => by rw [hB]; (try simp only [Bool.or_eq_true, Bool.or_eq_false_iff, Bool.and_eq_true, Bool.not_eq_true', Bool.not_eq_false', decide_eq_true_eq, decide_eq_false_iff_not] at hB); exact k_call [] (con := sames_c L N hLb hbd hN)) ?_
 refine o2 ?_
 refine s_nil trivial (n_wp (w_ret ?_))
 exact d_ret hP hn hE [] (by first | exact r_tmp Tryz.results12 | exact r_tmpa Tryz.results12)

end Go.Proofs.X
end

section
/- What a function puts off, and does on its way out. No program. -/
namespace Go.Bx
def Off (P : Program) (f : FuncId) (args : List AV) (H H' : Heap) : Prop :=
  ∀ (W : Nat → Prop) (ρ : Rho) (vals : Array Value) (w : World), HRep W ρ (hget H) w → (∀ id, H.length ≤ id → ρ.m id = none) → (∀ b, w.heap.size ≤ b → W b) → ArgsRep ρ args vals →
    CallsDIn Fence.wide 0 P f vals .returning w fun e u w' => u = .returning ∧ (∃ v, e = .returned v) ∧ ∃ ρ' W', Nx H.length H'.length ρ ρ' W W' (hget H') w w' ∧ ∀ id, H'.length ≤ id → ρ'.m id = none
theorem off_in {P : Program} {f : FuncId} {fn : Func} {c : Code} {args : List AV} {H H' : Heap} (n : Nat) (hf : P.funcs[f]? = some fn) (hb : fn.body = some c) (hn : fn.ntmps = n) (hr : fn.results = #[])
    (h : ∀ E : Env, E.P = P → E.n = n → E.nE = H.length → Wp E c (argT 0 args) H fun e T1 H1 => (e = .ret ∨ e = .normal) ∧ Weak E T1 H1 [] H') (hl : args.length ≤ n := by exact Nat.le_of_ble_eq_true rfl) : Off P f args H H' := by
  subst hn
  intro W ρ vals w hH hdom hW hargs
  let E : Env := ⟨P, W, w, ρ, fn.ntmps, H.length, hW, hdom, [], true⟩
  refine callsDIn_of_wp hf hb trivial (R := fun e w' => (∃ v, e = .returned v) ∧ ∃ ρ' W', Nx H.length H'.length ρ ρ' W W' (hget H') w w' ∧ ∀ id, H'.length ≤ id → ρ'.m id = none) (wpIn_wide.2 (wp_mono (h E rfl rfl rfl _ w ⟨ρ, W, ⟨.refl _, hH, ?_, DefT.nil _ _ _ [], .refl _ _, fun _ h => h, hW, fun _ _ h => .inl h, fun _ _ h => .inl h⟩, hdom, fun t => ?_, Nat.le_refl _⟩) ?_))
  · have := hargs.1
    show _ = fn.ntmps
    simp; omega
  · rw [look_argT, if_pos (Nat.zero_le _), Nat.sub_zero]
    cases hx : args[t]? with
    | none => trivial
    | some x =>
      have hlt : t < vals.size := by
        rw [hargs.1]
        exact (List.getElem?_eq_some_iff.1 hx).1
      have := hargs.2 t x hx
      simp only [Option.getD_some]
      simp only [Array.getD_eq_getD_getElem?] at this ⊢
      rw [Array.getElem?_append_left hlt]
      exact this
  · rintro e a' w' ⟨T, H1, ⟨he, hwk⟩, hrep⟩
    obtain ⟨ρ', W', p, hno, hT, _⟩ := hwk a' w' hrep
    obtain ⟨ms, e1, _, e2⟩ := p.defs.ex
    have hd : a'.defers = [] := by rw [e1, e2 rfl]; rfl
    have hl : a'.defers = [] ∧ ∃ v, (results fn a'.tmps).run P w' = .ok v w' ∧ ((∃ v', Ending.returned v = .returned v') ∧ ∃ ρ' W', Nx H.length H'.length ρ ρ' W W' (hget H') w w' ∧ ∀ id, H'.length ≤ id → ρ'.m id = none) :=
      ⟨hd, .tuple #[], by simp [results, hr, Sem.run_bind], ⟨_, rfl⟩, ρ', W', ⟨p.le, fun id x e => by
        rcases p.old id x e with h4 | h4
        · exact .inl h4
        · exact .inr ⟨h4.1, (Nat.lt_or_ge id H'.length).resolve_right (fun h5 => by rw [hno id h5] at e; cases e), h4.2⟩, p.rep, p.fr, p.sub, p.fresh, p.fzn⟩, hno⟩
    rcases he with rfl | rfl
    · exact hl
    · exact hl
theorem leaves_tail {P : Program} {fn : Func} {tmps : Array Value} {R : Ending → World → Prop} {w0 : World} {Φ : World → Prop} {tail : List Deferred} (hΦ : ∀ w D, Φ w → w0.heap.size ≤ D → w.heap[D]? = some (.deferred (some [])) → Φ (w.putObj D (.deferred none)))
    (hres : ∀ w, Φ w → LeavesInM Fence.wide 0 P fn tmps R tail .returning w) :
    ∀ (ms : List Deferred) (w : World), DefOk w0 ms w → Φ w → LeavesInM Fence.wide 0 P fn tmps R (ms ++ tail) .returning w := by
  intro ms
  induction ms with
  | nil =>
    intro w _ hH
    exact hres w hH
  | cons d ds ih =>
    intro w hd hH
    obtain ⟨D, e1, e2, e3⟩ := hd.mark d (by simp)
    refine ⟨by simp, .inl ⟨D, w.putObj D (.deferred none), by rw [e1], run_takeDeferred e3, ih _ ⟨(List.nodup_cons.1 hd.nodup).2, fun d' hd' => ?_⟩ (hΦ w D hH e2 e3)⟩⟩
    obtain ⟨D', f1, f2, f3⟩ := hd.mark d' (by simp [hd'])
    refine ⟨D', f1, f2, ?_⟩
    rw [World.putObj_heap_other]
    · exact f3
    · intro e
      subst e
      rw [← e1] at f1
      subst f1
      exact (List.nodup_cons.1 hd.nodup).1 hd'
def DoneO (E : Env) (fn : Func) (m : Nat) (fc nc : Nat) (q : Nat → SV) (v : AV) (H' : Heap) : Exit → Tm → Heap → Prop := fun e T H =>
  (e = .ret ∨ e = .normal) ∧ ∃ H3 t v0, H.length ≤ H3.length ∧ Off E.P fc ((List.range nc).map fun i => .s (q i)) H H3 ∧ t < E.n ∧ Ret E.P fn T H3 v0 ∧ ∀ E0 : Env, E0.P = E.P → E0.n = E.n → E0.nE = m → Weak E0 ((t, v0) :: T) H3 [(t, v)] H'
theorem callsD_mono {P : Program} {f : FuncId} {vals : Array Value} {u : FrameMode} {w : World} {R R' : Ending → FrameMode → World → Prop} (h : CallsDIn Fence.wide 0 P f vals u w R) (k : ∀ e u w, R e u w → R' e u w) : CallsDIn Fence.wide 0 P f vals u w R' :=
  ⟨h.1, fun c cs h1 h2 => let ⟨e, u', w', fr, hR, hrest⟩ := h.2 c cs h1 h2; ⟨e, u', w', fr, k _ _ _ hR, hrest⟩⟩
theorem con_off {P : Program} {f : FuncId} {fn : Func} {c0 rest : Code} {id : Nat} {om : Oper} {args : List AV} {H H1 H' : Heap} {T1 : Tm} {v : AV} {t fc nc : Nat} {q : Nat → SV} {ty : TypeId} {pos : String} {af : Array Edge} {F M : List Nat} (n : Nat) (hf : P.funcs[f]? = some fn)
    (hb : fn.body = some (.seq c0 (.seq (.region id #[om, ⟨none, .defer ⟨.value (.tmp t), #[], #[]⟩, ty, pos, af, none⟩] false) rest))) (hn : fn.ntmps = n) {m : Nat} (hm : H.length = m) (hcl : Callable P fc)
    (h0 : ∀ E : Env, E.P = P → E.n = n → E.nE = m → Wp E c0 (argT 0 args) H (Thn (fun T' H' => Weak E T' H' T1 H1) fun _ _ _ => False))
    (hmg : om.guard = none) (hmd : om.dst = some t) (hmk : opOk n om = true) (hml : LOk P om T1 H1 H1 (.s (.clo fc nc q)) F M)
    (h : ∀ E : Env, E.P = P → E.n = n → E.nE = H1.length → Wp E rest ((t, .s (.clo fc nc q)) :: T1) H1 (DoneO E fn m fc nc q v H'))
    (hl : args.length ≤ n := by exact Nat.le_of_ble_eq_true rfl) (hlen : H.length ≤ H'.length := by exact Nat.le_of_ble_eq_true rfl) : Con P f args H v H' := by
  subst hn; subst hm
  refine ⟨hlen, fun W ρ vals w hH hdom hW hargs => ?_⟩
  let E : Env := ⟨P, W, w, ρ, fn.ntmps, H.length, hW, hdom, [], true⟩
  refine (callsIn_wide (n := 0)).1 (callsIn_of_wp_marks hf hb trivial (wpIn_wide.2 (wp_seq (wp_mono (h0 E rfl rfl rfl _ w ⟨ρ, W, ⟨.refl _, hH, ?_, DefT.nil _ _ _ [], .refl _ _, fun _ h => h, hW, fun _ _ h => .inl h, fun _ _ h => .inl h⟩, hdom, fun t => ?_, Nat.le_refl _⟩) ?_))))
  · have := hargs.1
    show _ = fn.ntmps
    simp; omega
  · rw [look_argT, if_pos (Nat.zero_le _), Nat.sub_zero]
    cases hx : args[t]? with
    | none => trivial
    | some x =>
      have hlt : t < vals.size := by
        rw [hargs.1]
        exact (List.getElem?_eq_some_iff.1 hx).1
      have := hargs.2 t x hx
      simp only [Option.getD_some]
      simp only [Array.getD_eq_getD_getElem?] at this ⊢
      rw [Array.getElem?_append_left hlt]
      exact this
  rintro e a1 w1 ⟨T', H2, hth, hrep⟩
  cases e with
  | exit i => exact hth.elim
  | goto l => exact hth.elim
  | ret => exact hth.elim
  | panic ch => exact hth.elim
  | outgrown => exact hth.elim
  | normal =>
  replace hrep := hth _ _ hrep
  refine wp_seq (wp_region ?_)
  show wpOps _ _ _ [0, 1] _ _
  rw [wpOps_cons]
  have hwm : Region.wanted om (yielded #[om, ⟨none, .defer ⟨.value (.tmp t), #[], #[]⟩, ty, pos, af, none⟩] a1.tmps) = true := by
    simp [Region.wanted, hmg]
  unfold wpOp
  simp only [show (#[om, (⟨none, .defer ⟨.value (.tmp t), #[], #[]⟩, ty, pos, af, none⟩ : Oper)] : Array Oper)[0]? = some om from rfl, hwm, if_true]
  refine .inl (rep_lok (E := E) hml hmk hrep _ _ ?_)
  rintro v1 w2 ⟨ρ1, W1, p1, hn1, hT1, hE1⟩
  rw [wpOps_cons]
  unfold wpOp
  have hwd : ∀ a : Act, Region.wanted (⟨none, .defer ⟨.value (.tmp t), #[], #[]⟩, ty, pos, af, none⟩ : Oper) (yielded #[om, ⟨none, .defer ⟨.value (.tmp t), #[], #[]⟩, ty, pos, af, none⟩] a.tmps) = true := fun a => rfl
  simp only [show (#[om, (⟨none, .defer ⟨.value (.tmp t), #[], #[]⟩, ty, pos, af, none⟩ : Oper)] : Array Oper)[1]? = some ⟨none, .defer ⟨.value (.tmp t), #[], #[]⟩, ty, pos, af, none⟩ from rfl, hwd, if_true]
  generalize ha1 : a1.put om.dst v1 = a2 at *
  rw [hmd] at hT1
  have hTt := hT1 t
  have hlk : look (put T1 (some t) (.s (.clo fc nc q))) t = .s (.clo fc nc q) := by simp [put, look]
  rw [hlk] at hTt
  obtain ⟨vs, g1, g2, g3⟩ := hTt
  have hev : a2.eval (.tmp t) = .func (.func fc) #[] vs := g1
  have hd1 : a2.defers = [] := by
    obtain ⟨ms, e1, _, e2⟩ := p1.defs.ex
    rw [e1, e2 rfl]; rfl
  refine .inl ?_
  have hrun : (execOp a2.eval (⟨none, .defer ⟨.value (.tmp t), #[], #[]⟩, ty, pos, af, none⟩ : Oper)).run P w2 = .ok (.defer { target := .fn (.func fc) vs, args := #[] }) w2 := by
    simp [execOp, resolve, Deferred.ofValue, hev, Sem.run_bind]
  unfold Oper.wp
  rw [hrun, Oper.upon_defer, hd1]
  let d : Deferred := { target := .fn (.func fc) vs, args := #[] }
  show rest.wp P _ { a2 with defers := [d] } w2
  let E2 : Env := ⟨P, W1, w2, ρ1, fn.ntmps, H1.length, p1.fresh, hn1, [d], false⟩
  refine wp_mono (h E2 rfl rfl rfl { a2 with defers := [d] } w2 ⟨ρ1, W1, ⟨.refl _, p1.rep, p1.size, DefT.nil _ _ _ [d], .refl _ _, fun _ h => h, p1.fresh, fun _ _ h => .inl h, fun _ _ h => .inl h⟩, hn1, hT1, Nat.le_refl _⟩) ?_
  rintro e a3 w3 ⟨T3, H3, ⟨he, H4, t0, v0, hle4, hoff, ht0, hret, hwk⟩, ρ3, W3, p3, hn3, hT3, hE3⟩
  obtain ⟨ms, hms, hdk, _⟩ := p3.defs.ex
  have hl : LeavesInM Fence.wide 0 P fn a3.tmps (fun e w' => ∃ v' ρ' W', e = .returned v' ∧ Nx H.length H'.length ρ ρ' W W' (hget H') w w' ∧ v.rep ρ' v') a3.defers .returning w3 := by
    rw [hms]
    refine leaves_tail (w0 := w2) (Φ := fun w4 => HRep W3 ρ3 (hget H3) w4 ∧ Fr W1 w2 w4 ∧ (∀ b, w4.heap.size ≤ b → W3 b)) (fun w4 D ⟨k1, k2, k3⟩ hD hd => ⟨hrep_mark k1 hd, fr_mark k2 hD, fun b hb => k3 b (by simpa using hb)⟩) (fun w4 ⟨k1, k2, k3⟩ => ?_) ms w3 hdk ⟨p3.rep, p3.fr, p3.fresh⟩
    refine ⟨by simp, .inr ⟨fun h => by simp [Fence.wide] at h, .func fc, vs, fc, vs, rfl, by simp [d, invoke, Sem.run_bind, run_callFunc hcl], fun _ _ => trivial, ?_⟩⟩
    have hargs : ArgsRep ρ3 ((List.range nc).map fun i => AV.s (q i)) vs := ⟨by simp [g2], fun i x hx => by
      obtain ⟨j, hj, rfl⟩ := List.getElem?_map .. ▸ hx |> Option.map_eq_some_iff.1
      have hj2 := List.getElem?_range (n := nc) (i := i)
      have hi : i < nc := by
        rcases Nat.lt_or_ge i nc with h | h
        · exact h
        · rw [List.getElem?_eq_none (by simpa using h)] at hj; cases hj
      rw [List.getElem?_range hi] at hj
      obtain rfl := Option.some.inj hj
      obtain ⟨u, hu, hr⟩ := g3 i hi
      rw [Array.getD_eq_getD_getElem?, hu]
      exact SV.rep_le p3.le hr⟩
    refine callsD_mono (hoff W3 ρ3 vs w4 k1 hn3 k3 hargs) ?_
    rintro e u w5 ⟨rfl, ⟨v5, rfl⟩, ρ5, W5, n5, hn5⟩
    obtain ⟨v', hv, hrv⟩ := hret W5 ρ5 a3 w5 n5.rep (hT3.le n5.le)
    have hrep2 : Rep E ((t0, v0) :: T3) H4 ({ a3 with defers := [] }.put (some t0) v') w5 := by
      refine ⟨ρ5, W5, ⟨p1.le.trans (p3.le.trans n5.le), n5.rep, (put_size _ _ _).trans p3.size, ?_, p1.fr.trans ((k2.trans (n5.fr.mono p3.sub)).mono p1.sub), fun b hb => p1.sub b (p3.sub b (n5.sub b hb)), n5.fresh, fun b c e => ?_, fun i x e => ?_⟩, hn5, ?_, Nat.le_trans hE1 (Nat.le_trans hE3 hle4)⟩
      · rw [put_defers]; exact DefT.nil _ _ _ []
      · rcases n5.fzn b c e with h1 | h1
        · rcases p3.fzn b c h1 with h2 | h2
          · exact p1.fzn b c h2
          · exact .inr (p1.sub b h2)
        · exact .inr (p1.sub b (p3.sub b h1))
      · rcases n5.old i x e with h1 | h1
        · rcases p3.old i x h1 with h2 | h2
          · exact p1.old i x h2
          · exact .inr ⟨Nat.le_trans hE1 h2.1, p1.sub _ h2.2⟩
        · exact .inr ⟨Nat.le_trans hE1 (Nat.le_trans hE3 h1.1), p1.sub _ (p3.sub _ h1.2.2)⟩
      · exact TRep.put (d := some t0) (a := { a3 with defers := [] }) (hT3.le n5.le) (fun i hi => by cases hi; show t0 < a3.tmps.size; rw [p3.size]; exact ht0) hrv
    obtain ⟨ρ', W', p, hno, hT, _⟩ := hwk E rfl rfl rfl _ w5 hrep2
    refine ⟨v', hv, v', ρ', W', rfl, ⟨p.le, fun id x e => ?_, p.rep, p.fr, p.sub, p.fresh, p.fzn⟩, ?_⟩
    · rcases p.old id x e with h4 | h4
      · exact .inl h4
      · refine .inr ⟨h4.1, ?_, h4.2⟩
        rcases Nat.lt_or_ge id H'.length with h5 | h5
        · exact h5
        · rw [hno id h5] at e; cases e
    · have := hT t0
      rw [look_cons, if_pos rfl] at this
      have hg : ({ a3 with defers := [] }.put (some t0) v').tmps.getD t0 undef = v' := by
        have hs : t0 < a3.tmps.size := by rw [p3.size]; exact ht0
        simp [Act.put, hs]
      rwa [hg] at this
  rcases he with rfl | rfl
  · exact hl
  · exact hl
theorem n_off {E : Env} {T T1 : Tm} {H H1 : Heap} {Q : Exit → Tm → Heap → Prop} (h : Weak E T H T1 H1) : Thn (fun T' H' => Weak E T' H' T1 H1) Q .normal T H := h
theorem d_off {E : Env} {P : Program} {T : Tm} {H H' H3 : Heap} {fn : Func} {v v0 : AV} {e : Exit} {m n fc nc : Nat} {q : Nat → SV} (hP : E.P = P) (hn : E.n = n) (π : List Nat) (hoff : Off P fc ((List.range nc).map fun i => .s (q i)) H H3) (hr : Ret P fn T H3 v0) (h3 : H.length ≤ H3.length := by exact Nat.le_of_ble_eq_true rfl) (h0 : Nat.blt 0 n = true := by rfl) (hT : AllLook ((0, v0) :: T) π [(0, v)] := by exact ⟨rfl, trivial⟩) (hH : AllGet H3 π 0 H' := by repeat (first | exact trivial | refine ⟨rfl, ?_⟩)) (hk : knownAll [(0, v)] H' = true := by rfl) (hd : distinct ((List.range H'.length).map (rn π)) = true := by rfl) (hE : m ≤ H'.length ∧ ((List.range m).all fun k => Nat.beq (rn π k) k) = true := by exact ⟨Nat.le_of_ble_eq_true rfl, rfl⟩) (he : e = .ret ∨ e = .normal := by first | exact .inl rfl | exact .inr rfl) : DoneO E fn m fc nc q v H' e T H := by
  subst hP; subst hn
  exact ⟨he, H3, 0, v0, h3, hoff, Nat.blt_eq.mp h0, hr, fun E0 _ _ hm => by subst hm; exact weak π hT hH hk hd hE⟩
theorem r_cells {P : Program} {T : Tm} {H : Heap} {p id : Nat} {ty : TypeId} {k : Blk} {v : SV} [ha : Ag P ty false] (hp : look T p = .s (.ptr id 0 0) := by rfl) (hb : hget H id = some k := by rfl) (hs : atS k.segs 0 = some v := by rfl) : RetI P T H (.cell p ty) (.s v) := ri_cells hp hb hs ha.h
section
variable {P : Program} {T : Tm} {H : Heap} {d : Option Tmp} {ty : TypeId} {pos : String} {af : Array Edge} {g : Option (Nat × Bool)}
theorem k_neAA {t e : TypeId} {x y : Operand} {tyy : TypeId} {n : Nat} {k : IntKind} {l : List Int} [hu : Und P t (.array n e)] [he : Und P e (.int k)] [hs : Sz P e 1] [ha : Ag P e false] [hg : NoEq P t] (hl : l.length = n) (hx : ev T x = .agg [.ints k n l] := by rfl) (hy : ev T y = .agg [.ints k n l] := by rfl) : LOk P ⟨d, .binOp .neq t x y tyy, ty, pos, af, g⟩ T H H (.s (.bool false)) [] [] := by
  have h := a_neA (P := P) (t := t) (e := e) (d := d) (ty := ty) (pos := pos) (af := af) (g := g) (tyy := tyy) (H := H) hx hy hl hl
  rwa [decide_eq_true rfl, Bool.not_true] at h
end
theorem weak_new {E : Env} {T : Tm} {H H' : Heap} {segs : List Seg} (hH : H ++ [some (Blk.mk true segs)] = H') : Weak E T H T H' := by
  subst hH
  rintro a w ⟨ρ, W, p, hn, hT, hE⟩
  exact ⟨ρ, W, ⟨p.le, p.rep.sub' hn, p.size, p.defs, p.fr, p.sub, p.fresh, p.fzn, p.old⟩, fun id hid => hn id (by simp at hid; omega), hT, by simp; omega⟩
theorem row_last {pre : List Seg} {y y' : SV} {ρ : Rho} {get : Nat → Option Value} (h : ∀ v, y.rep ρ v → y'.rep ρ v) (hr : RowRep ρ (pre ++ [.one y]) get) : RowRep ρ (pre ++ [.one y']) get := fun i x hx => by
  rw [atS_append] at hx
  by_cases h1 : i < sizeS pre
  · rw [if_pos h1] at hx
    exact hr i x (by rw [atS_append, if_pos h1]; exact hx)
  · rw [if_neg h1] at hx
    obtain ⟨h2, rfl⟩ := atS_one1 hx
    obtain ⟨v, k1, k2, k3⟩ := hr i y (by rw [atS_append, if_neg h1, h2]; rfl)
    exact ⟨v, k1, h v k2, k3⟩
theorem row_gro {pre : List Seg} {n wd : Nat} {ρ : Rho} {get : Nat → Option Value} (hr : RowRep ρ (pre ++ [.one .nils]) get) : RowRep ρ (pre ++ [.one (.gro n wd 0)]) get := row_last (y := .nils) (fun _ h => .inl ⟨rfl, h⟩) hr
end Go.Bx
end

section
/- Types and functions of partings, as instances. -/
open Go Go.Bx Go.Proofs
namespace Go.Proofs.X
instance : Clb Tryz.prog 3 := ⟨_, Tryz.func3, by kernel_rfl, rfl⟩
instance : Clb Tryz.prog 4 := ⟨_, Tryz.func4, by kernel_rfl, rfl⟩
instance : Clb Tryz.prog 5 := ⟨_, Tryz.func5, by kernel_rfl, rfl⟩
instance : Clb Tryz.prog 6 := ⟨_, Tryz.func6, by kernel_rfl, rfl⟩
instance : Clb Tryz.prog 7 := ⟨_, Tryz.func7, by kernel_rfl, rfl⟩
instance : Clb Tryz.prog 21 := ⟨_, Tryz.func21, by kernel_rfl, rfl⟩
instance : Clb Tryz.prog 8 := ⟨_, Tryz.func8, by kernel_rfl, rfl⟩
instance : Clb Tryz.prog 11 := ⟨_, Tryz.func11, by kernel_rfl, rfl⟩
instance : Clb Tryz.prog 16 := ⟨_, Tryz.func16, by kernel_rfl, rfl⟩
instance : Clb Tryz.prog 22 := ⟨_, Tryz.func22, by kernel_rfl, rfl⟩
instance : Clb Tryz.prog 9 := ⟨_, Tryz.func9, by kernel_rfl, rfl⟩
instance : Clb Tryz.prog 13 := ⟨_, Tryz.func13, by kernel_rfl, rfl⟩
instance : Clb Tryz.prog 14 := ⟨_, Tryz.func14, by kernel_rfl, rfl⟩
instance : Clb Tryz.prog 25 := ⟨_, Tryz.func25, by kernel_rfl, rfl⟩
instance : Clb Tryz.prog 26 := ⟨_, Tryz.func26, by kernel_rfl, rfl⟩
instance : Clb Tryz.prog 24 := ⟨_, Tryz.func24, by kernel_rfl, rfl⟩
instance : Clb Tryz.prog 37 := ⟨_, Tryz.func37, by kernel_rfl, rfl⟩
instance : Clb Tryz.prog 62 := ⟨_, Tryz.func62, by kernel_rfl, rfl⟩
instance : Clb Tryz.prog 64 := ⟨_, Tryz.func64, by kernel_rfl, rfl⟩
instance : Clb Tryz.prog 17 := ⟨_, Tryz.func17, by kernel_rfl, rfl⟩
instance : Clb Tryz.prog 19 := ⟨_, Tryz.func19, by kernel_rfl, rfl⟩
instance : Clb Tryz.prog 45 := ⟨_, Tryz.func45, by kernel_rfl, rfl⟩
instance : Clb Tryz.prog 20 := ⟨_, Tryz.func20, by kernel_rfl, rfl⟩
instance : Clb Tryz.prog 46 := ⟨_, Tryz.func46, by kernel_rfl, rfl⟩
instance : Clb Tryz.prog 39 := ⟨_, Tryz.func39, by kernel_rfl, rfl⟩
instance : Clb Tryz.prog 49 := ⟨_, Tryz.func49, by kernel_rfl, rfl⟩
instance : Clb Tryz.prog 47 := ⟨_, Tryz.func47, by kernel_rfl, rfl⟩
instance : Clb Tryz.prog 48 := ⟨_, Tryz.func48, by kernel_rfl, rfl⟩
instance : Clb Tryz.prog 50 := ⟨_, Tryz.func50, by kernel_rfl, rfl⟩
instance : Clb Tryz.prog 63 := ⟨_, Tryz.func63, by kernel_rfl, rfl⟩
instance : Clb Tryz.prog 27 := ⟨_, Tryz.func27, by kernel_rfl, rfl⟩
instance : Clb Tryz.prog 90 := ⟨_, Tryz.func90, by kernel_rfl, rfl⟩
instance : Clb Tryz.prog 65 := ⟨_, Tryz.func65, by kernel_rfl, rfl⟩
instance : NoEq Tryz.prog 24 := ⟨by kernel_rfl⟩
instance : NoEq Tryz.prog 26 := ⟨by kernel_rfl⟩
instance : NoEq Tryz.prog 28 := ⟨by kernel_rfl⟩
instance : NoEq Tryz.prog 37 := ⟨by kernel_rfl⟩
instance : Und Tryz.prog 30 (.struct #[{ name := "Group", type := 26, offset := 0, embedded := false, tag := "", pkgPath := "", byteOffset := 0 }, { name := "Secret", type := 24, offset := 12, embedded := false, tag := "", pkgPath := "", byteOffset := 96 }, { name := "Seed", type := 28, offset := 16, embedded := false, tag := "", pkgPath := "", byteOffset := 128 }]) := ⟨Tryz.underlying30⟩
instance : Sz Tryz.prog 30 48 := ⟨Tryz.sizeOf30⟩
instance : Ag Tryz.prog 30 true := ⟨Tryz.isAgg30⟩
instance : Zv Tryz.prog 30 [.ints .u64 4 (zs (List.replicate 4 0)), .ints .u64 4 (zs (List.replicate 4 0)), .ints .u64 4 (zs (List.replicate 4 0)), .ints .u64 4 (zs (List.replicate 4 0)), .ints .u8 32 (zs (List.replicate 32 0))] := ⟨_, Tryz.zeroValue30, by kernel_rfl⟩
instance : FldC Tryz.prog 30 0 0 := ⟨_, _, _, Tryz.underlying30, rfl, Tryz.sizeOf26, by decide, rfl⟩
instance : FldC Tryz.prog 30 1 12 := ⟨_, _, _, Tryz.underlying30, rfl, Tryz.sizeOf24, by decide, rfl⟩
instance : FldC Tryz.prog 30 2 16 := ⟨_, _, _, Tryz.underlying30, rfl, Tryz.sizeOf28, by decide, rfl⟩
instance : Pl Tryz.prog 30 #[(0, 12), (12, 4), (16, 32)] := ⟨_, Tryz.underlying30, fun w => by kernel_rfl⟩
instance : Inf Tryz.prog 30 Tryz.t30 := ⟨by kernel_rfl⟩
instance : Und Tryz.prog 31 (.array 2 24) := ⟨Tryz.underlying31⟩
instance : Sz Tryz.prog 31 8 := ⟨Tryz.sizeOf31⟩
instance : Ag Tryz.prog 31 true := ⟨Tryz.isAgg31⟩
instance : Zv Tryz.prog 31 [.ints .u64 4 (zs (List.replicate 4 0)), .ints .u64 4 (zs (List.replicate 4 0))] := ⟨_, Tryz.zeroValue31, by kernel_rfl⟩
instance : Inf Tryz.prog 31 Tryz.t31 := ⟨by kernel_rfl⟩
instance : Und Tryz.prog 33 (.struct #[{ name := "A", type := 30, offset := 0, embedded := false, tag := "", pkgPath := "", byteOffset := 0 }, { name := "B", type := 30, offset := 48, embedded := false, tag := "", pkgPath := "", byteOffset := 160 }, { name := "Secrets", type := 31, offset := 96, embedded := false, tag := "", pkgPath := "", byteOffset := 320 }, { name := "ID", type := 28, offset := 104, embedded := false, tag := "", pkgPath := "", byteOffset := 384 }]) := ⟨Tryz.underlying33⟩
instance : Sz Tryz.prog 33 136 := ⟨Tryz.sizeOf33⟩
instance : Ag Tryz.prog 33 true := ⟨Tryz.isAgg33⟩
instance : Zv Tryz.prog 33 [.ints .u64 4 (zs (List.replicate 4 0)), .ints .u64 4 (zs (List.replicate 4 0)), .ints .u64 4 (zs (List.replicate 4 0)), .ints .u64 4 (zs (List.replicate 4 0)), .ints .u8 32 (zs (List.replicate 32 0)), .ints .u64 4 (zs (List.replicate 4 0)), .ints .u64 4 (zs (List.replicate 4 0)), .ints .u64 4 (zs (List.replicate 4 0)), .ints .u64 4 (zs (List.replicate 4 0)), .ints .u8 32 (zs (List.replicate 32 0)), .ints .u64 4 (zs (List.replicate 4 0)), .ints .u64 4 (zs (List.replicate 4 0)), .ints .u8 32 (zs (List.replicate 32 0))] := ⟨_, Tryz.zeroValue33, by kernel_rfl⟩
instance : FldC Tryz.prog 33 0 0 := ⟨_, _, _, Tryz.underlying33, rfl, Tryz.sizeOf30, by decide, rfl⟩
instance : FldC Tryz.prog 33 1 48 := ⟨_, _, _, Tryz.underlying33, rfl, Tryz.sizeOf30, by decide, rfl⟩
instance : FldC Tryz.prog 33 2 96 := ⟨_, _, _, Tryz.underlying33, rfl, Tryz.sizeOf31, by decide, rfl⟩
instance : FldC Tryz.prog 33 3 104 := ⟨_, _, _, Tryz.underlying33, rfl, Tryz.sizeOf28, by decide, rfl⟩
instance : Pl Tryz.prog 33 #[(0, 48), (48, 48), (96, 8), (104, 32)] := ⟨_, Tryz.underlying33, fun w => by kernel_rfl⟩
instance : Inf Tryz.prog 33 Tryz.t33 := ⟨by kernel_rfl⟩
instance : Und Tryz.prog 35 (.int .u32) := ⟨Tryz.underlying35⟩
instance : Sz Tryz.prog 35 1 := ⟨Tryz.sizeOf35⟩
instance : Ag Tryz.prog 35 false := ⟨Tryz.isAgg35⟩
instance : Zv Tryz.prog 35 [.one (.int .u32 0)] := ⟨_, Tryz.zeroValue35, by kernel_rfl⟩
instance : Zi Tryz.prog 35 .u32 := ⟨Tryz.zeroValue35⟩
instance : Inf Tryz.prog 35 Tryz.t35 := ⟨by kernel_rfl⟩
instance : Und Tryz.prog 36 (.array 16 5) := ⟨Tryz.underlying36⟩
instance : Sz Tryz.prog 36 16 := ⟨Tryz.sizeOf36⟩
instance : Ag Tryz.prog 36 true := ⟨Tryz.isAgg36⟩
instance : Zv Tryz.prog 36 [.ints .u8 16 (zs (List.replicate 16 0))] := ⟨_, Tryz.zeroValue36, by kernel_rfl⟩
instance : Zb Tryz.prog 36 .u8 16 := ⟨_, Tryz.zeroValue36, by kernel_rfl⟩
instance : Inf Tryz.prog 36 Tryz.t36 := ⟨by kernel_rfl⟩
instance : Und Tryz.prog 39 (.struct #[{ name := "Mac", type := 28, offset := 0, embedded := false, tag := "", pkgPath := "", byteOffset := 0 }, { name := "Cipher", type := 36, offset := 32, embedded := false, tag := "", pkgPath := "", byteOffset := 32 }]) := ⟨Tryz.underlying39⟩
instance : Sz Tryz.prog 39 48 := ⟨Tryz.sizeOf39⟩
instance : Ag Tryz.prog 39 true := ⟨Tryz.isAgg39⟩
instance : Zv Tryz.prog 39 [.ints .u8 32 (zs (List.replicate 32 0)), .ints .u8 16 (zs (List.replicate 16 0))] := ⟨_, Tryz.zeroValue39, by kernel_rfl⟩
instance : FldC Tryz.prog 39 0 0 := ⟨_, _, _, Tryz.underlying39, rfl, Tryz.sizeOf28, by decide, rfl⟩
instance : FldC Tryz.prog 39 1 32 := ⟨_, _, _, Tryz.underlying39, rfl, Tryz.sizeOf36, by decide, rfl⟩
instance : Pl Tryz.prog 39 #[(0, 32), (32, 16)] := ⟨_, Tryz.underlying39, fun w => by kernel_rfl⟩
instance : Inf Tryz.prog 39 Tryz.t39 := ⟨by kernel_rfl⟩
instance : Und Tryz.prog 41 (.struct #[{ name := "ID", type := 28, offset := 0, embedded := false, tag := "", pkgPath := "", byteOffset := 0 }, { name := "Peer", type := 37, offset := 32, embedded := false, tag := "", pkgPath := "", byteOffset := 32 }, { name := "Epoch", type := 34, offset := 48, embedded := false, tag := "", pkgPath := "", byteOffset := 48 }, { name := "Out", type := 39, offset := 49, embedded := false, tag := "", pkgPath := "", byteOffset := 52 }, { name := "In", type := 39, offset := 97, embedded := false, tag := "", pkgPath := "", byteOffset := 100 }, { name := "Say", type := 28, offset := 145, embedded := false, tag := "", pkgPath := "", byteOffset := 148 }, { name := "Hear", type := 28, offset := 177, embedded := false, tag := "", pkgPath := "", byteOffset := 180 }]) := ⟨Tryz.underlying41⟩
instance : Sz Tryz.prog 41 209 := ⟨Tryz.sizeOf41⟩
instance : Ag Tryz.prog 41 true := ⟨Tryz.isAgg41⟩
instance : Zv Tryz.prog 41 [.ints .u8 32 (zs (List.replicate 32 0)), .ints .u8 16 (zs (List.replicate 16 0)), .one (.int .u32 0), .ints .u8 32 (zs (List.replicate 32 0)), .ints .u8 16 (zs (List.replicate 16 0)), .ints .u8 32 (zs (List.replicate 32 0)), .ints .u8 16 (zs (List.replicate 16 0)), .ints .u8 32 (zs (List.replicate 32 0)), .ints .u8 32 (zs (List.replicate 32 0))] := ⟨_, Tryz.zeroValue41, by kernel_rfl⟩
instance : FldC Tryz.prog 41 0 0 := ⟨_, _, _, Tryz.underlying41, rfl, Tryz.sizeOf28, by decide, rfl⟩
instance : FldC Tryz.prog 41 1 32 := ⟨_, _, _, Tryz.underlying41, rfl, Tryz.sizeOf37, by decide, rfl⟩
instance : FldC Tryz.prog 41 2 48 := ⟨_, _, _, Tryz.underlying41, rfl, Tryz.sizeOf34, by decide, rfl⟩
instance : FldC Tryz.prog 41 3 49 := ⟨_, _, _, Tryz.underlying41, rfl, Tryz.sizeOf39, by decide, rfl⟩
instance : FldC Tryz.prog 41 4 97 := ⟨_, _, _, Tryz.underlying41, rfl, Tryz.sizeOf39, by decide, rfl⟩
instance : FldC Tryz.prog 41 5 145 := ⟨_, _, _, Tryz.underlying41, rfl, Tryz.sizeOf28, by decide, rfl⟩
instance : FldC Tryz.prog 41 6 177 := ⟨_, _, _, Tryz.underlying41, rfl, Tryz.sizeOf28, by decide, rfl⟩
instance : Pl Tryz.prog 41 #[(0, 32), (32, 16), (48, 1), (49, 48), (97, 48), (145, 32), (177, 32)] := ⟨_, Tryz.underlying41, fun w => by kernel_rfl⟩
instance : Inf Tryz.prog 41 Tryz.t41 := ⟨by kernel_rfl⟩
instance : Und Tryz.prog 42 (.array 2 41) := ⟨Tryz.underlying42⟩
instance : Sz Tryz.prog 42 418 := ⟨Tryz.sizeOf42⟩
instance : Ag Tryz.prog 42 true := ⟨Tryz.isAgg42⟩
instance : Zv Tryz.prog 42 [.ints .u8 32 (zs (List.replicate 32 0)), .ints .u8 16 (zs (List.replicate 16 0)), .one (.int .u32 0), .ints .u8 32 (zs (List.replicate 32 0)), .ints .u8 16 (zs (List.replicate 16 0)), .ints .u8 32 (zs (List.replicate 32 0)), .ints .u8 16 (zs (List.replicate 16 0)), .ints .u8 32 (zs (List.replicate 32 0)), .ints .u8 32 (zs (List.replicate 32 0)), .ints .u8 32 (zs (List.replicate 32 0)), .ints .u8 16 (zs (List.replicate 16 0)), .one (.int .u32 0), .ints .u8 32 (zs (List.replicate 32 0)), .ints .u8 16 (zs (List.replicate 16 0)), .ints .u8 32 (zs (List.replicate 32 0)), .ints .u8 16 (zs (List.replicate 16 0)), .ints .u8 32 (zs (List.replicate 32 0)), .ints .u8 32 (zs (List.replicate 32 0))] := ⟨_, Tryz.zeroValue42, by kernel_rfl⟩
instance : Inf Tryz.prog 42 Tryz.t42 := ⟨by kernel_rfl⟩
instance : Und Tryz.prog 46 (.array 2 30) := ⟨Tryz.underlying46⟩
instance : Sz Tryz.prog 46 96 := ⟨Tryz.sizeOf46⟩
instance : Ag Tryz.prog 46 true := ⟨Tryz.isAgg46⟩
instance : Zv Tryz.prog 46 [.ints .u64 4 (zs (List.replicate 4 0)), .ints .u64 4 (zs (List.replicate 4 0)), .ints .u64 4 (zs (List.replicate 4 0)), .ints .u64 4 (zs (List.replicate 4 0)), .ints .u8 32 (zs (List.replicate 32 0)), .ints .u64 4 (zs (List.replicate 4 0)), .ints .u64 4 (zs (List.replicate 4 0)), .ints .u64 4 (zs (List.replicate 4 0)), .ints .u64 4 (zs (List.replicate 4 0)), .ints .u8 32 (zs (List.replicate 32 0))] := ⟨_, Tryz.zeroValue46, by kernel_rfl⟩
instance : Inf Tryz.prog 46 Tryz.t46 := ⟨by kernel_rfl⟩
instance : Und Tryz.prog 47 (.pointer 91) := ⟨Tryz.underlying47⟩
instance : Sz Tryz.prog 47 1 := ⟨Tryz.sizeOf47⟩
instance : Ag Tryz.prog 47 false := ⟨Tryz.isAgg47⟩
instance : Zv Tryz.prog 47 [.one .nilp] := ⟨_, Tryz.zeroValue47, by kernel_rfl⟩
instance : Inf Tryz.prog 47 Tryz.t47 := ⟨by kernel_rfl⟩
instance : Und Tryz.prog 51 (.slice 55) := ⟨Tryz.underlying51⟩
instance : Sz Tryz.prog 51 1 := ⟨Tryz.sizeOf51⟩
instance : Ag Tryz.prog 51 false := ⟨Tryz.isAgg51⟩
instance : Zv Tryz.prog 51 [.one .nils] := ⟨_, Tryz.zeroValue51, by kernel_rfl⟩
instance : Zn Tryz.prog 51 := ⟨Tryz.zeroValue51⟩
instance : Inf Tryz.prog 51 Tryz.t51 := ⟨by kernel_rfl⟩
instance : Und Tryz.prog 55 (.struct #[{ name := "From", type := 35, offset := 0, embedded := false, tag := "", pkgPath := "", byteOffset := 0 }, { name := "To", type := 35, offset := 1, embedded := false, tag := "", pkgPath := "", byteOffset := 4 }, { name := "B", type := 53, offset := 2, embedded := false, tag := "", pkgPath := "", byteOffset := 8 }]) := ⟨Tryz.underlying55⟩
instance : Sz Tryz.prog 55 3 := ⟨Tryz.sizeOf55⟩
instance : Ag Tryz.prog 55 true := ⟨Tryz.isAgg55⟩
instance : Zv Tryz.prog 55 [.one (.int .u32 0), .one (.int .u32 0), .one .nils] := ⟨_, Tryz.zeroValue55, by kernel_rfl⟩
instance : FldC Tryz.prog 55 0 0 := ⟨_, _, _, Tryz.underlying55, rfl, Tryz.sizeOf35, by decide, rfl⟩
instance : FldC Tryz.prog 55 1 1 := ⟨_, _, _, Tryz.underlying55, rfl, Tryz.sizeOf35, by decide, rfl⟩
instance : FldC Tryz.prog 55 2 2 := ⟨_, _, _, Tryz.underlying55, rfl, Tryz.sizeOf53, by decide, rfl⟩
instance : Pl Tryz.prog 55 #[(0, 1), (1, 1), (2, 1)] := ⟨_, Tryz.underlying55, fun w => by kernel_rfl⟩
instance : Inf Tryz.prog 55 Tryz.t55 := ⟨by kernel_rfl⟩
instance : Und Tryz.prog 69 (.array 2 28) := ⟨Tryz.underlying69⟩
instance : Sz Tryz.prog 69 64 := ⟨Tryz.sizeOf69⟩
instance : Ag Tryz.prog 69 true := ⟨Tryz.isAgg69⟩
instance : Zv Tryz.prog 69 [.ints .u8 64 (zs (List.replicate 64 0))] := ⟨_, Tryz.zeroValue69, by kernel_rfl⟩
instance : Inf Tryz.prog 69 Tryz.t69 := ⟨by kernel_rfl⟩
instance : Und Tryz.prog 80 (.struct #[{ name := "Secret", type := 24, offset := 0, embedded := false, tag := "", pkgPath := "", byteOffset := 0 }, { name := "Public", type := 24, offset := 4, embedded := false, tag := "", pkgPath := "", byteOffset := 32 }, { name := "Me", type := 37, offset := 8, embedded := false, tag := "", pkgPath := "", byteOffset := 64 }, { name := "Peer", type := 37, offset := 24, embedded := false, tag := "", pkgPath := "", byteOffset := 80 }, { name := "ID", type := 28, offset := 40, embedded := false, tag := "", pkgPath := "", byteOffset := 96 }, { name := "Epoch", type := 34, offset := 72, embedded := false, tag := "", pkgPath := "", byteOffset := 128 }]) := ⟨Tryz.underlying80⟩
instance : Sz Tryz.prog 80 73 := ⟨Tryz.sizeOf80⟩
instance : Ag Tryz.prog 80 true := ⟨Tryz.isAgg80⟩
instance : Zv Tryz.prog 80 [.ints .u64 4 (zs (List.replicate 4 0)), .ints .u64 4 (zs (List.replicate 4 0)), .ints .u8 16 (zs (List.replicate 16 0)), .ints .u8 16 (zs (List.replicate 16 0)), .ints .u8 32 (zs (List.replicate 32 0)), .one (.int .u32 0)] := ⟨_, Tryz.zeroValue80, by kernel_rfl⟩
instance : FldC Tryz.prog 80 0 0 := ⟨_, _, _, Tryz.underlying80, rfl, Tryz.sizeOf24, by decide, rfl⟩
instance : FldC Tryz.prog 80 1 4 := ⟨_, _, _, Tryz.underlying80, rfl, Tryz.sizeOf24, by decide, rfl⟩
instance : FldC Tryz.prog 80 2 8 := ⟨_, _, _, Tryz.underlying80, rfl, Tryz.sizeOf37, by decide, rfl⟩
instance : FldC Tryz.prog 80 3 24 := ⟨_, _, _, Tryz.underlying80, rfl, Tryz.sizeOf37, by decide, rfl⟩
instance : FldC Tryz.prog 80 4 40 := ⟨_, _, _, Tryz.underlying80, rfl, Tryz.sizeOf28, by decide, rfl⟩
instance : FldC Tryz.prog 80 5 72 := ⟨_, _, _, Tryz.underlying80, rfl, Tryz.sizeOf34, by decide, rfl⟩
instance : Pl Tryz.prog 80 #[(0, 4), (4, 4), (8, 16), (24, 16), (40, 32), (72, 1)] := ⟨_, Tryz.underlying80, fun w => by kernel_rfl⟩
instance : Inf Tryz.prog 80 Tryz.t80 := ⟨by kernel_rfl⟩
instance : Und Tryz.prog 83 (.struct #[{ name := "s", type := 30, offset := 0, embedded := false, tag := "", pkgPath := "burrow/closes", byteOffset := 0 }, { name := "x", type := 41, offset := 48, embedded := false, tag := "", pkgPath := "burrow/closes", byteOffset := 160 }, { name := "tag", type := 37, offset := 257, embedded := false, tag := "", pkgPath := "burrow/closes", byteOffset := 372 }]) := ⟨Tryz.underlying83⟩
instance : Sz Tryz.prog 83 273 := ⟨Tryz.sizeOf83⟩
instance : Ag Tryz.prog 83 true := ⟨Tryz.isAgg83⟩
instance : Zv Tryz.prog 83 [.ints .u64 4 (zs (List.replicate 4 0)), .ints .u64 4 (zs (List.replicate 4 0)), .ints .u64 4 (zs (List.replicate 4 0)), .ints .u64 4 (zs (List.replicate 4 0)), .ints .u8 32 (zs (List.replicate 32 0)), .ints .u8 32 (zs (List.replicate 32 0)), .ints .u8 16 (zs (List.replicate 16 0)), .one (.int .u32 0), .ints .u8 32 (zs (List.replicate 32 0)), .ints .u8 16 (zs (List.replicate 16 0)), .ints .u8 32 (zs (List.replicate 32 0)), .ints .u8 16 (zs (List.replicate 16 0)), .ints .u8 32 (zs (List.replicate 32 0)), .ints .u8 32 (zs (List.replicate 32 0)), .ints .u8 16 (zs (List.replicate 16 0))] := ⟨_, Tryz.zeroValue83, by kernel_rfl⟩
instance : FldC Tryz.prog 83 0 0 := ⟨_, _, _, Tryz.underlying83, rfl, Tryz.sizeOf30, by decide, rfl⟩
instance : FldC Tryz.prog 83 1 48 := ⟨_, _, _, Tryz.underlying83, rfl, Tryz.sizeOf41, by decide, rfl⟩
instance : FldC Tryz.prog 83 2 257 := ⟨_, _, _, Tryz.underlying83, rfl, Tryz.sizeOf37, by decide, rfl⟩
instance : Pl Tryz.prog 83 #[(0, 48), (48, 209), (257, 16)] := ⟨_, Tryz.underlying83, fun w => by kernel_rfl⟩
instance : Inf Tryz.prog 83 Tryz.t83 := ⟨by kernel_rfl⟩
instance : Und Tryz.prog 91 (.struct #[{ name := "who", type := 83, offset := 0, embedded := true, tag := "", pkgPath := "burrow/closes", byteOffset := 0 }, { name := "key", type := 24, offset := 273, embedded := false, tag := "", pkgPath := "burrow/closes", byteOffset := 392 }, { name := "sum", type := 28, offset := 277, embedded := false, tag := "", pkgPath := "burrow/closes", byteOffset := 424 }, { name := "f", type := 55, offset := 309, embedded := false, tag := "", pkgPath := "burrow/closes", byteOffset := 456 }, { name := "left", type := 3, offset := 312, embedded := false, tag := "", pkgPath := "burrow/closes", byteOffset := 488 }, { name := "tries", type := 3, offset := 313, embedded := false, tag := "", pkgPath := "burrow/closes", byteOffset := 496 }, { name := "say", type := 51, offset := 314, embedded := false, tag := "", pkgPath := "burrow/closes", byteOffset := 504 }]) := ⟨Tryz.underlying91⟩
instance : Sz Tryz.prog 91 315 := ⟨Tryz.sizeOf91⟩
instance : Ag Tryz.prog 91 true := ⟨Tryz.isAgg91⟩
instance : Zv Tryz.prog 91 [.ints .u64 4 (zs (List.replicate 4 0)), .ints .u64 4 (zs (List.replicate 4 0)), .ints .u64 4 (zs (List.replicate 4 0)), .ints .u64 4 (zs (List.replicate 4 0)), .ints .u8 32 (zs (List.replicate 32 0)), .ints .u8 32 (zs (List.replicate 32 0)), .ints .u8 16 (zs (List.replicate 16 0)), .one (.int .u32 0), .ints .u8 32 (zs (List.replicate 32 0)), .ints .u8 16 (zs (List.replicate 16 0)), .ints .u8 32 (zs (List.replicate 32 0)), .ints .u8 16 (zs (List.replicate 16 0)), .ints .u8 32 (zs (List.replicate 32 0)), .ints .u8 32 (zs (List.replicate 32 0)), .ints .u8 16 (zs (List.replicate 16 0)), .ints .u64 4 (zs (List.replicate 4 0)), .ints .u8 32 (zs (List.replicate 32 0)), .one (.int .u32 0), .one (.int .u32 0), .one .nils, .one (.int .i64 0), .one (.int .i64 0), .one .nils] := ⟨_, Tryz.zeroValue91, by kernel_rfl⟩
instance : FldC Tryz.prog 91 0 0 := ⟨_, _, _, Tryz.underlying91, rfl, Tryz.sizeOf83, by decide, rfl⟩
instance : FldC Tryz.prog 91 1 273 := ⟨_, _, _, Tryz.underlying91, rfl, Tryz.sizeOf24, by decide, rfl⟩
instance : FldC Tryz.prog 91 2 277 := ⟨_, _, _, Tryz.underlying91, rfl, Tryz.sizeOf28, by decide, rfl⟩
instance : FldC Tryz.prog 91 3 309 := ⟨_, _, _, Tryz.underlying91, rfl, Tryz.sizeOf55, by decide, rfl⟩
instance : FldC Tryz.prog 91 4 312 := ⟨_, _, _, Tryz.underlying91, rfl, Tryz.sizeOf3, by decide, rfl⟩
instance : FldC Tryz.prog 91 5 313 := ⟨_, _, _, Tryz.underlying91, rfl, Tryz.sizeOf3, by decide, rfl⟩
instance : FldC Tryz.prog 91 6 314 := ⟨_, _, _, Tryz.underlying91, rfl, Tryz.sizeOf51, by decide, rfl⟩
instance : Pl Tryz.prog 91 #[(0, 273), (273, 4), (277, 32), (309, 3), (312, 1), (313, 1), (314, 1)] := ⟨_, Tryz.underlying91, fun w => by kernel_rfl⟩
instance : Inf Tryz.prog 91 Tryz.t91 := ⟨by kernel_rfl⟩
instance : Und Tryz.prog 113 (.array 4 39) := ⟨Tryz.underlying113⟩
instance : Sz Tryz.prog 113 192 := ⟨Tryz.sizeOf113⟩
instance : Ag Tryz.prog 113 true := ⟨Tryz.isAgg113⟩
instance : Zv Tryz.prog 113 [.ints .u8 32 (zs (List.replicate 32 0)), .ints .u8 16 (zs (List.replicate 16 0)), .ints .u8 32 (zs (List.replicate 32 0)), .ints .u8 16 (zs (List.replicate 16 0)), .ints .u8 32 (zs (List.replicate 32 0)), .ints .u8 16 (zs (List.replicate 16 0)), .ints .u8 32 (zs (List.replicate 32 0)), .ints .u8 16 (zs (List.replicate 16 0))] := ⟨_, Tryz.zeroValue113, by kernel_rfl⟩
instance : Inf Tryz.prog 113 Tryz.t113 := ⟨by kernel_rfl⟩
instance : Und Tryz.prog 132 (.slice 89) := ⟨Tryz.underlying132⟩
instance : Sz Tryz.prog 132 1 := ⟨Tryz.sizeOf132⟩
instance : Ag Tryz.prog 132 false := ⟨Tryz.isAgg132⟩
instance : Zv Tryz.prog 132 [.one .nils] := ⟨_, Tryz.zeroValue132, by kernel_rfl⟩
instance : Zn Tryz.prog 132 := ⟨Tryz.zeroValue132⟩
instance : Inf Tryz.prog 132 Tryz.t132 := ⟨by kernel_rfl⟩
instance : Und Tryz.prog 134 (.func #[123, 89] #[4] false) := ⟨Tryz.underlying134⟩
instance : Sz Tryz.prog 134 1 := ⟨Tryz.sizeOf134⟩
instance : Ag Tryz.prog 134 false := ⟨Tryz.isAgg134⟩
instance : Zv Tryz.prog 134 [.one (.val .nilFunc)] := ⟨_, Tryz.zeroValue134, by kernel_rfl⟩
instance : Inf Tryz.prog 134 Tryz.t134 := ⟨by kernel_rfl⟩
instance : Und Tryz.prog 170 (.func #[53] #[28] false) := ⟨Tryz.underlying170⟩
instance : Sz Tryz.prog 170 1 := ⟨Tryz.sizeOf170⟩
instance : Ag Tryz.prog 170 false := ⟨Tryz.isAgg170⟩
instance : Zv Tryz.prog 170 [.one (.val .nilFunc)] := ⟨_, Tryz.zeroValue170, by kernel_rfl⟩
instance : Inf Tryz.prog 170 Tryz.t170 := ⟨by kernel_rfl⟩
end Go.Proofs.X
end

section
/- Tags, sessions, as lists. No program. -/
open Go Go.Bx
namespace Go.Proofs.X
def tagS (k : Nat) : List Int := spl [32, 1, 0, 33, 0, 0, 0, 0, 0, 0, 0, 0, 0, 0, 0, 0] (((asB [116, 97, 103] [be 32 k]).drop 10).take 12) 4 12 16
theorem tag_z (k : Nat) : (List.take ((32 - 10) * 1) (List.drop 10 (asB (strL ⟨#[116, 97, 103]⟩) [be 32 k]))).take 12 = ((asB [116, 97, 103] [be 32 k]).drop 10).take 12 := by
  have e : strL ⟨#[116, 97, 103]⟩ = [116, 97, 103] := by decide
  rw [List.take_take, e]; rfl
theorem tagS_len (k : Nat) : (tagS k).length = 16 := spl_len _ _ _ _ _
abbrev SELF (p q g a : Nat) (SD : List Int) : List Seg := [.ints .u64 4 (zs (wd p)), .ints .u64 4 (zs (wd q)), .ints .u64 4 (zs (wd g)), .ints .u64 4 (zs (wd a)), .ints .u8 32 SD]
abbrev SESS (ID PE : List Int) (ep : Nat) (OM OC IM IC SA HE : List Int) : List Seg := [.ints .u8 32 ID, .ints .u8 16 PE, .one (.int .u32 ((ep : Nat) : Int)), .ints .u8 32 OM, .ints .u8 16 OC, .ints .u8 32 IM, .ints .u8 16 IC, .ints .u8 32 SA, .ints .u8 32 HE]
abbrev N4 (n : Nat) : Seg := .ints .u64 4 (zs (wd n))
abbrev B32 (l : List Int) : Seg := .ints .u8 32 l
abbrev B16 (l : List Int) : Seg := .ints .u8 16 l
theorem e1w : ([1, 0, 0, 0] : List Int) = zs (wd 1) := by decide
def cmpT (A B : List Int) : Nat → Int
  | 0 => 0
  | n + 1 => let c := cmpT A B n; if c ≠ 0 then c else if A.getD n 0 < B.getD n 0 then -1 else if B.getD n 0 < A.getD n 0 then 1 else 0
end Go.Proofs.X
end

section
set_option maxRecDepth 100000
set_option maxHeartbeats 4000000
open Go Go.Bx Go.Proofs
namespace Go.Proofs.X
attribute [local irreducible] be gN ckS encL enF up8 chk pk0 pkB mayK wd asB
theorem tag_c (k : Nat) : Con Tryz.prog 39 [.agg [.ints .u64 4 (zs (wd k))]] [] (.agg [.ints .u8 16 (tagS k)]) [] := by
 refine con_in 14 Tryz.func39 rfl rfl (m := 0) rfl ?_
 intro E hP hn hE
 refine qz hP hn ?_
 refine s_op k_bxf ?_
 refine s_op k_al ?_
 refine qx hP hn ?_
 refine s_op k_ld ?_
 refine s_op (k_call [] (con := pl0_n k)) ?_
 refine s_op (k_bsz [.fzi .u8 (be 32 k)]) ?_
 refine s_op (k_call [] (con := as_n ⟨#[116, 97, 103]⟩ [be 32 k] (by decide) (by decide) (Nat.le_of_ble_eq_true rfl) (fun i hi => by obtain rfl : i = 0 := Nat.lt_one_iff.1 hi; exact ⟨by show 0 < (be 32 k).length; rw [be_len]; decide, by show (be 32 k).length ≤ 900000; rw [be_len]; decide⟩))) ?_
 refine s_op k_al ?_
 refine s_st k_st ?_
 refine qx hP hn ?_
 refine s_op k_bd ?_
 refine s_op k_al ?_
 refine s_st k_st ?_
 refine s_nil trivial (n_wp (w_seq ?_))
 refine g_any hP hn ?_
 refine s_op k_sl ?_
 refine s_op k_sl ?_
 refine s_op (k_cpn 12 (hz := tag_z k)) ?_
 refine s_nil (by kernel_rfl) ?_
 refine n_wp (qz hP hn ?_)
 refine s_op k_ld ?_
 refine s_st k_st ?_
 refine s_nil trivial (n_wp (w_ret ?_))
 exact d_ret hP hn hE [] (r_cell Tryz.results39)

theorem exsum_c (B : List Int) (hB : B.length = 32) : Con Tryz.prog 90 [.s (.fzi .u8 B), .s (.int .i64 32), .s (.val (.func (.func 91) #[] #[])), .s .nils] [] (.tup [.agg [.ints .u8 32 B], .s (.int .i64 0)]) [] := by
 refine con_in 32 Tryz.func90 rfl rfl (m := 0) rfl ?_
 intro E hP hn hE
 refine qz hP hn ?_
 refine o2 ?_
 refine s_nil trivial (n_wp (w_seq (qz hP hn ?_)))
 refine o4 ?_
 refine s_nil trivial (n_wp ?_)
 refine w_F rfl ?_ (by rw [hB]; rfl)
 refine w_skip (n_wp (w_seq (qz hP hn ?_)))
 refine o3 ?_
 refine s_nil trivial (n_wp (w_block ?_))
 refine c_loop (fun m_ T H => T = [(0, .s (.fzi .u8 B)), (2, .s (.val (.func (.func 91) #[] #[]))), (8, .s (.ptr 0 0 0)), (18, .s (.int .i64 ((0 : Nat) : Int))), (19, .s (.int .i64 ((0 : Nat) : Int)))] ∧ H = [some ⟨true, [.ints .u8 32 (zs (List.replicate 32 0))]⟩]) (0) ⟨rfl, rfl⟩ (wk hE [0]) ?_
 rintro n_ T_ H_ ⟨rfl, rfl⟩
 refine qz hP hn ?_
 refine s_op k_lss ?_
 refine s_nil trivial (n_wp (w_seq ?_))
 refine w_F rfl ?_ 
 refine w_exit (x_thn (x_thn (x_eq (n_wp (w_seq ?_)))))
 refine w_weak (weak_conv 2 rfl (conv_vf (q := capF []))) ?_
 refine g_reg hP hn ?_
 refine o2 ?_
 refine s_op (k_callN [] (con := sump_n B hB)) ?_
 refine s_st k_st ?_
 refine s_op k_as ?_
 refine s_nil trivial (n_wp (w_ret ?_))
 exact d_ret hP hn hE [] (ret2 Tryz.results90 r_cella (by first | exact ri_tmp rfl | exact ri_tmpa rfl))

theorem getsum_c (B : List Int) (hB : B.length = 32) : Con Tryz.prog 65 [.s (.fzi .u8 B)] [] (.tup [.agg [.ints .u8 32 B], .s (.int .i64 0)]) [] := by
 refine con_in 8 Tryz.func65 rfl rfl (m := 0) rfl ?_
 intro E hP hn hE
 refine qz hP hn ?_
 refine o2 ?_
 refine qx hP hn ?_
 refine s_op k_mv ?_
 refine s_op (k_call [] (con := exsum_c B hB)) ?_
 refine o2 ?_
 refine s_st k_st ?_
 refine s_op k_as ?_
 refine s_nil trivial (n_wp (w_ret ?_))
 exact d_ret hP hn hE [] (ret2 Tryz.results65 r_cella (by first | exact ri_tmp rfl | exact ri_tmpa rfl))

theorem rd2_c (p : Pc) (t : Nat) : Con Tryz.prog 64 [.agg (PR p), .s (.int .u16 ((t : Nat) : Int))] [] (.s (.bool (decide (p.1 = t)))) [] := by
 refine con_in 9 Tryz.func64 rfl rfl (m := 0) rfl ?_
 intro E hP hn hE
 refine qz hP hn ?_
 refine s_op k_bxf ?_
 refine s_op k_as ?_
 refine qx hP hn ?_
 refine o3 ?_
 refine o2 ?_
 refine s_nil trivial (n_wp (w_ret ?_))
 exact d_ret hP hn hE [] (by first | exact r_tmp Tryz.results64 | exact r_tmpa Tryz.results64)

theorem eqf_y (L : List Pc) (U : List Nat) (hLb : L.length ≤ 1000000) (hUL : L.length = U.length) (hall : ∀ i, i < L.length → (L.getD i p0).1 = U.getD i 0) : Con Tryz.prog 63 [.s (PARS L), .s (.fzi .u16 (zs U)), .s (.val (.func (.func 64) #[] #[]))] [] (.s (.bool true)) [] := by
 refine con_in 32 Tryz.func63 rfl rfl (m := 0) rfl ?_
 intro E hP hn hE
 refine qz hP hn ?_
 refine s_op k_as ?_
 refine s_nil trivial (n_wp (w_seq (w_seq ?_)))
 refine w_weak (weak_conv 2 rfl (conv_vf (q := capF []))) ?_
 have hzl : (zs U).length = U.length := zs_len U
 refine g_reg hP hn ?_
 refine o3 ?_
 refine o2 ?_
 refine s_nil trivial (n_wp ?_)
 refine w_F rfl ?_ (by rw [zs_len, decide_eq_true hUL]; rfl)
 refine w_skip (n_wp (w_seq (qz hP hn ?_)))
 refine o3 ?_
 refine s_nil trivial (n_wp (w_block ?_))
 refine c_loop (fun m_ T H => ∃ i, i ≤ L.length ∧ m_ = L.length - i ∧ (∀ k, k < i → (L.getD k p0).1 = U.getD k 0) ∧ T = [(1, .s (.fzi .u16 (zs U))), (2, .s (.noid (.clo 64 0 (capF [])))), (15, .s (PARS L)), (16, .s (.int .i64 ((L.length : Nat) : Int))), (17, .s (.int .i64 ((i : Nat) : Int)))] ∧ H = []) (L.length) ⟨0, by omega, rfl, fun k hk => absurd hk (Nat.not_lt_zero k), rfl, rfl⟩ (wk hE []) ?_
 rintro n_ T_ H_ ⟨i, hi, rfl, hup, rfl, rfl⟩
 refine qz hP hn ?_
 refine s_op k_lss ?_
 refine s_nil trivial (n_wp (w_seq ?_))
 refine w_if rfl (fun h_t18 => ?_) (fun h_t18 => ?_)
 · have hsame := hall i h_t18
   refine w_skip (n_wp (w_seq (w_block (qz hP hn ?_))))
   refine o2 ?_
   refine s_op k_ldP ?_
   refine o2 ?_
   refine s_st k_st ?_
   refine qx hP hn ?_
   refine o4 ?_
   rw [zs_getD]
   refine s_op k_as ?_
   refine qx hP hn ?_
   refine o3 ?_
   refine s_op (k_callN [] (con := rd2_c (L.getD i p0) (U.getD i 0))) ?_
   refine s_op k_not ?_
   refine s_nil trivial (n_wp ?_)
   refine w_F rfl ?_ (by rw [decide_eq_true hsame]; rfl)
   refine w_skip (n_blo (n_wp (g_reg hP hn ?_)))
   refine o2 ?_
   refine s_nil trivial ?_
   exact n_round (L.length - (i + 1)) (by omega) ⟨i + 1, by omega, rfl, fun k hk => (Nat.lt_succ_iff_lt_or_eq.1 hk).elim (hup k) (fun e => e ▸ hsame), rfl, rfl⟩ (wk hE [])
 · refine w_exit (x_thn (x_thn (x_eq (n_wp (qz hP hn ?_)))))
   refine s_op k_as ?_
   refine s_nil trivial (n_wp (w_ret ?_))
   exact d_ret hP hn hE [] (by first | exact r_tmp Tryz.results63 | exact r_tmpa Tryz.results63)

end Go.Proofs.X
end

section
set_option maxRecDepth 100000
set_option maxHeartbeats 4000000
open Go Go.Bx Go.Proofs
namespace Go.Proofs.X
attribute [local irreducible] be gN ckS encL enF up8 chk pk0 pkB mayK wd asB tagS
theorem off_ok (s : List Int) : Off Tryz.prog 62 [.s (.ptr 4 0 0), .s (.ptr 3 0 0)] [none, none, none, some ⟨true, [B32 s]⟩, some ⟨true, [.one (.int .i64 0)]⟩] [none, none, none, some ⟨true, [B32 s]⟩, some ⟨true, [.one (.int .i64 0)]⟩] := by
 refine off_in 5 Tryz.func62 rfl rfl rfl ?_
 intro E hP hn hE
 refine qz hP hn ?_
 refine s_op k_ld ?_
 refine s_op (l_bin rfl rfl (b_neq (r := false) (by decide))) ?_
 refine s_nil trivial (n_wp ?_)
 refine w_F rfl ?_ 
 refine w_skip ?_
 exact ⟨.inr rfl, wk hE [0, 1, 2, 3, 4]⟩

theorem reads_ok (p q g a : Nat) (SD ID PE : List Int) (ep : Nat) (OM OC IM IC SA HE TG : List Int) (k : Nat) (L : List Pc) (x : Nat) (U : List Nat) (heq : Con Tryz.prog 63 [.s (PARS L), .s (.fzi .u16 (zs U)), .s (.val (.func (.func 64) #[] #[]))] [] (.s (.bool true)) []) (hPE : PE.length = 16) (hTG : TG.length = 16) (hL : L.length = 3) (h0 : (L.getD 0 p0).2.length = 32) (h1 : (L.getD 1 p0).2.length = 32) (h2 : (L.getD 2 p0).2.length = 64) (hU2 : U8' (L.getD 2 p0).2) (hmac : Con Tryz.prog 67 [.agg (PKT k PE TG L), .agg [B32 HE]] [] (.s (.bool true)) []) (hsig : Con Tryz.prog 68 [.agg (GRP p q g), .agg (PKT k PE TG L), .agg [N4 x]] [] (.s (.bool true)) []) : Con Tryz.prog 37 [.agg [N4 p, N4 q, N4 g, N4 a, B32 SD, B32 ID, B16 PE, .one (.int .u32 ((ep : Nat) : Int)), B32 OM, B16 OC, B32 IM, B16 IC, B32 SA, B32 HE, B16 TG], .agg (PKT k PE TG L), .agg [N4 x], .s (.int .u8 ((k : Nat) : Int)), .s (.fzi .u16 (zs U))] [] (.tup [.agg [.ints .u8 32 (L.getD 0 p0).2], .s (.int .i64 0)]) [] := by
 refine con_off (m := 0) (T1 := [(3, .s (.int .u8 ((k : Nat) : Int))), (4, .s (.fzi .u16 (zs U))), (5, .s (.fptr 273 (cellsF [N4 p, N4 q, N4 g, N4 a, B32 SD, B32 ID, B16 PE, .one (.int .u32 ((ep : Nat) : Int)), B32 OM, B16 OC, B32 IM, B16 IC, B32 SA, B32 HE, B16 TG]) 0 0)), (6, .s (.fptr 34 (cellsF (PKT k PE TG L)) 0 0)), (7, .s (.fptr 4 (cellsF [N4 x]) 0 0)), (10, .s (.ptr 3 0 0)), (11, .s (.ptr 4 0 0))]) (H1 := [none, none, none, some ⟨true, [.ints .u8 32 (zs (List.replicate 32 0))]⟩, some ⟨true, [.one (.int .i64 0)]⟩]) (F := []) (M := []) 102 Tryz.func37 rfl rfl rfl (by exact Clb.h) ?_ rfl rfl (by kernel_rfl) (k_fn [.ptr 4 0 0, .ptr 3 0 0]) ?_
 · intro E hP hn hE
   refine g_reg hP hn ?_
   refine s_op k_bxf ?_
   refine s_op k_bxf ?_
   refine s_op k_bxf ?_
   refine o2 ?_
   refine s_nil trivial ?_
   exact n_off (wk hE [0, 1, 2, 3, 4])
 · intro E hP hn hE
   refine qz hP hn ?_
   refine o3 ?_
   refine s_op (k_call [] (con := heq)) ?_
   refine s_op k_as ?_
   refine s_nil trivial (n_wp (w_seq (qz hP hn ?_)))
   refine o3 ?_
   refine s_op (l_bin rfl rfl (b_neq (r := false) (decide_eq_false (fun h => h rfl)))) ?_
   refine s_op k_mv ?_
   refine s_on rfl rfl rfl k_fa ?_
   refine s_on rfl rfl rfl k_ld ?_
   refine s_on rfl rfl rfl k_fa ?_
   refine s_on rfl rfl rfl k_fa ?_
   refine s_on rfl rfl rfl k_ld ?_
   refine s_on rfl rfl rfl (k_neAA hPE) ?_
   refine o2 ?_
   refine s_on rfl rfl rfl k_fa ?_
   refine s_on rfl rfl rfl k_ld ?_
   refine s_on rfl rfl rfl k_fa ?_
   refine s_on rfl rfl rfl k_ld ?_
   refine s_on rfl rfl rfl (k_neAA hTG) ?_
   refine o2 ?_
   refine s_on rfl rfl rfl k_mv ?_
   refine s_on rfl rfl rfl k_not ?_
   refine s_op k_pk ?_
   refine s_nil trivial (n_wp ?_)
   refine w_F rfl ?_ 
   refine w_skip (n_wp (qz hP hn ?_))
   refine o3 ?_
   refine qx hP hn ?_
   refine o4 ?_
   refine s_op (k_ld (by exact a_loadf (v := .fzi .u8 (L.getD 0 p0).2) rfl (by omega) rfl)) ?_
   refine s_op (k_call [] (con := getsum_c (L.getD 0 p0).2 h0)) ?_
   refine o3 ?_
   refine s_st k_st ?_
   refine s_op k_as ?_
   refine qx hP hn ?_
   refine o4 ?_
   refine s_op (k_ld (by exact a_loadf (v := .fzi .u8 (L.getD 1 p0).2) rfl (by omega) rfl)) ?_
   refine s_op (k_call [] (con := getsum_c (L.getD 1 p0).2 h1)) ?_
   refine o4 ?_
   refine qx hP hn ?_
   refine o4 ?_
   refine s_op (k_ld (by exact a_loadf (v := .fzi .u8 (L.getD 2 p0).2) rfl (by omega) rfl)) ?_
   refine s_op (k_call [] (con := getsig_c (L.getD 2 p0).2 h2 hU2)) ?_
   refine o4 ?_
   refine s_nil trivial (n_wp (w_seq (w_block (qz hP hn ?_))))
   refine o3 ?_
   refine s_on rfl rfl rfl k_mv ?_
   refine s_on rfl rfl rfl k_neq ?_
   refine o2 ?_
   refine s_on rfl rfl rfl k_mv ?_
   refine s_on rfl rfl rfl k_neq ?_
   refine o2 ?_
   refine s_nil trivial (n_wp ?_)
   refine w_F rfl ?_ 
   refine qz hP hn ?_
   refine o4 ?_
   refine s_op (k_call [] (con := hmac)) ?_
   refine o2 ?_
   refine s_nil trivial (n_wp ?_)
   refine w_F rfl ?_ 
   refine qz hP hn ?_
   refine o3 ?_
   refine o2 ?_
   refine s_op (k_call [] (con := hsig)) ?_
   refine o2 ?_
   refine s_nil trivial (n_wp ?_)
   refine w_F rfl ?_ 
   refine w_skip (n_blo (n_wp (qz hP hn ?_)))
   refine s_op k_ld ?_
   refine s_st k_st ?_
   refine s_st k_st ?_
   refine s_nil trivial (n_wp (w_ret ?_))
   exact d_off hP hn [] (off_ok (L.getD 0 p0).2) (ret2 Tryz.results37 r_cella r_cells)

end Go.Proofs.X
end

section
set_option maxRecDepth 100000
set_option maxHeartbeats 4000000
open Go Go.Bx Go.Proofs
namespace Go.Proofs.X
attribute [local irreducible] be gN ckS encL enF up8 chk pk0 pkB mayK wd asB tagS
theorem is_c (p q g a : Nat) (SD ID PE : List Int) (ep : Nat) (OM OC IM IC SA HE : List Int) (x : Nat) (hPE : PE.length = 16) (hne : tagS x ≠ PE) (hkey : Con Tryz.prog 18 [.agg (GRP p q g), .agg [N4 a]] [] (.tup [.agg [N4 x], .s (.int .i64 0)]) [])  : Con Tryz.prog 22 [.agg [N4 p, N4 q, N4 g, N4 a, B32 SD], .agg [B32 ID, B16 PE, .one (.int .u32 ((ep : Nat) : Int)), B32 OM, B16 OC, B32 IM, B16 IC, B32 SA, B32 HE]] [] (.tup [.agg [N4 p, N4 q, N4 g, N4 a, B32 SD, B32 ID, B16 PE, .one (.int .u32 ((ep : Nat) : Int)), B32 OM, B16 OC, B32 IM, B16 IC, B32 SA, B32 HE, .ints .u8 16 (tagS x)], .s (.int .i64 0)]) [] := by
 refine con_in 33 Tryz.func22 rfl rfl (m := 0) rfl ?_
 intro E hP hn hE
 have hTl := tagS_len x
 refine qz hP hn ?_
 refine s_op k_bxf ?_
 refine s_op k_bxf ?_
 refine o2 ?_
 refine qx hP hn ?_
 refine o4 ?_
 refine s_op (k_call [] (con := hkey)) ?_
 refine o4 ?_
 refine s_st k_st ?_
 refine s_op k_as ?_
 refine s_nil trivial (n_wp (w_seq ?_))
 refine g_any hP hn ?_
 refine o3 ?_
 refine s_op (k_call [] (con := tag_c x)) ?_
 refine s_op k_bd ?_
 refine s_op k_al ?_
 refine s_st (k_st (h := by exact a_store_agg rfl rfl rfl (put_w (by kernel_rfl)) (by exact Nat.le_of_ble_eq_true rfl) (by kernel_rfl) (by repeat (first | exact hset_0 | apply hset_s)))) ?_
 refine s_nil (by kernel_rfl) ?_
 refine n_wp (w_seq (qz hP hn ?_))
 refine s_op k_mv ?_
 refine s_op (l_bin rfl rfl (b_neq (r := false) (decide_eq_false (fun h => h rfl)))) ?_
 refine s_op k_mv ?_
 refine s_on rfl rfl rfl k_fa ?_
 refine s_on rfl rfl rfl k_ld ?_
 refine s_on rfl rfl rfl k_fa ?_
 refine s_on rfl rfl rfl k_ld ?_
 refine s_on rfl rfl rfl k_eql ?_
 refine s_op k_pk ?_
 refine s_nil trivial (n_wp ?_)
 refine w_F rfl ?_ (by first | exact decide_eq_false hne | (rw [decide_eq_false hne]; rfl) | (simp [hne]; done))
 refine w_skip (n_wp (qz hP hn ?_))
 refine s_op (k_ld (h := by exact a_load_whole rfl rfl (by kernel_rfl))) ?_
 refine s_st (k_st (h := by exact a_store_agg rfl rfl rfl (put_w (by kernel_rfl)) (by exact Nat.le_of_ble_eq_true rfl) (by kernel_rfl) (by repeat (first | exact hset_0 | apply hset_s)))) ?_
 refine s_op k_as ?_
 refine s_nil trivial (n_wp (w_ret ?_))
 exact d_ret hP hn hE [] (ret2 Tryz.results22 r_cella (by first | exact ri_tmp rfl | exact ri_tmpa rfl))

theorem makes_c (p q g a : Nat) (SD ID PE : List Int) (ep : Nat) (OM OC IM IC SA HE TG : List Int) (kd ty : Nat) (SS : List Int) (hSS : SS.length = 32) (L1 L2 : List Pc) (hm : Con Tryz.prog 56 [.agg [.one (.int .u8 ((kd : Nat) : Int)), B16 TG, B16 PE, .one (.fz 1 2 (gP (kpF [(ty, SS)])))], .agg [B32 SA]] [] (.tup [.agg (PKT kd TG PE L1), .s (.int .i64 0)]) []) (hs : Con Tryz.prog 57 [.agg (GRP p q g), .agg (PKT kd TG PE L1), .agg [N4 a]] [] (.tup [.agg (PKT kd TG PE L2), .s (.int .i64 0)]) []) : Con Tryz.prog 24 [.agg [N4 p, N4 q, N4 g, N4 a, B32 SD, B32 ID, B16 PE, .one (.int .u32 ((ep : Nat) : Int)), B32 OM, B16 OC, B32 IM, B16 IC, B32 SA, B32 HE, B16 TG], .s (.int .u8 ((kd : Nat) : Int)), .s (.int .u16 ((ty : Nat) : Int)), .agg [B32 SS]] [] (.agg (PKT kd TG PE L2)) [] := by
 refine con_in 42 Tryz.func24 rfl rfl (m := 0) rfl ?_
 intro E hP hn hE
 refine qz hP hn ?_
 refine s_op k_bxf ?_
 refine s_op k_bxf ?_
 refine s_op k_al ?_
 refine s_nil trivial (n_wp (w_seq ?_))
 refine g_any hP hn ?_
 refine o4 ?_
 refine o4 ?_
 refine s_op (k_call [] (con := psum_n SS hSS)) ?_
 refine s_op k_bd ?_
 refine s_op (k_bsR [PR (ty, SS)]) ?_
 refine s_op k_bd ?_
 refine s_op k_al ?_
 refine s_st k_st ?_
 refine s_nil (by kernel_rfl) ?_
 refine n_wp (qz hP hn ?_)
 refine o4 ?_
 refine s_op (k_call [] (con := hm) (hargs := by exact .cons rfl (conv_agg (R := []) (.same (.same (.same (.one (conv_fz (fun i j hi hj => match i, hi with | 0, _ => rfl)) .nil))))) (.cons rfl cv .nil))) ?_
 refine o3 ?_
 refine s_st k_st ?_
 refine qx hP hn ?_
 refine o4 ?_
 refine o3 ?_
 refine s_op (k_call [] (con := hs)) ?_
 refine o3 ?_
 refine s_st k_st ?_
 refine qx hP hn ?_
 refine s_op k_ld ?_
 refine s_st k_st ?_
 refine s_nil trivial (n_wp (w_ret ?_))
 exact d_ret hP hn hE [] (r_cell Tryz.results24)

theorem answer_y (p q g a : Nat) (SD ID PE : List Int) (ep : Nat) (OM OC IM IC SA HE : List Int) (x : Nat) (k : Nat) (A B : List Int) (L : List Pc) (y : Nat) (SS : List Int) (L2 : List Pc) (his : Con Tryz.prog 22 [.agg [N4 p, N4 q, N4 g, N4 a, B32 SD], .agg [B32 ID, B16 PE, .one (.int .u32 ((ep : Nat) : Int)), B32 OM, B16 OC, B32 IM, B16 IC, B32 SA, B32 HE]] [] (.tup [.agg [N4 p, N4 q, N4 g, N4 a, B32 SD, B32 ID, B16 PE, .one (.int .u32 ((ep : Nat) : Int)), B32 OM, B16 OC, B32 IM, B16 IC, B32 SA, B32 HE, .ints .u8 16 (tagS x)], .s (.int .i64 0)]) []) (hrd : Con Tryz.prog 37 [.agg [N4 p, N4 q, N4 g, N4 a, B32 SD, B32 ID, B16 PE, .one (.int .u32 ((ep : Nat) : Int)), B32 OM, B16 OC, B32 IM, B16 IC, B32 SA, B32 HE, .ints .u8 16 (tagS x)], .agg (PKT k A B L), .agg [N4 y], .s (.int .u8 ((6 : Nat) : Int)), .s (.fzi .u16 (zs [897, 61505, 61697]))] [] (.tup [.agg [B32 SS], .s (.int .i64 0)]) []) (hmk : Con Tryz.prog 24 [.agg [N4 p, N4 q, N4 g, N4 a, B32 SD, B32 ID, B16 PE, .one (.int .u32 ((ep : Nat) : Int)), B32 OM, B16 OC, B32 IM, B16 IC, B32 SA, B32 HE, .ints .u8 16 (tagS x)], .s (.int .u8 ((7 : Nat) : Int)), .s (.int .u16 ((961 : Nat) : Int)), .agg [B32 SS]] [] (.agg (PKT 7 (tagS x) PE L2)) [])  : Con Tryz.prog 11 [.agg [N4 p, N4 q, N4 g, N4 a, B32 SD], .agg [B32 ID, B16 PE, .one (.int .u32 ((ep : Nat) : Int)), B32 OM, B16 OC, B32 IM, B16 IC, B32 SA, B32 HE], .agg [N4 y], .agg (PKT k A B L)] [] (.tup [.agg (PKT 7 (tagS x) PE L2), .s (.int .i64 0)]) [] := by
 refine con_in 38 Tryz.func11 rfl rfl (m := 0) rfl ?_
 intro E hP hn hE
 refine qz hP hn ?_
 refine s_op k_bxf ?_
 refine s_op k_bxf ?_
 refine s_op k_bxf ?_
 refine s_op k_bxf ?_
 refine o2 ?_
 refine qx hP hn ?_
 refine o2 ?_
 refine s_op (k_call [] (con := his)) ?_
 refine o4 ?_
 refine s_st (k_st (h := by exact a_store_agg rfl rfl rfl (put_w (by kernel_rfl)) (by exact Nat.le_of_ble_eq_true rfl) (by kernel_rfl) (by repeat (first | exact hset_0 | apply hset_s)))) ?_
 refine s_op k_as ?_
 refine s_nil trivial (n_wp (w_seq (qz hP hn ?_)))
 refine s_op k_mv ?_
 refine s_op (l_bin rfl rfl (b_neq (r := false) (decide_eq_false (fun h => h rfl)))) ?_
 refine s_nil trivial (n_wp ?_)
 refine w_F rfl ?_ 
 refine w_skip (n_wp (qz hP hn ?_))
 refine s_op (k_ld (h := by exact a_load_whole rfl rfl (by kernel_rfl))) ?_
 refine o2 ?_
 refine s_op k_bsf ?_
 refine s_op (k_call [] (con := hrd)) ?_
 refine o4 ?_
 refine s_st k_st ?_
 refine s_op k_as ?_
 refine s_nil trivial (n_wp (w_seq (qz hP hn ?_)))
 refine s_op k_mv ?_
 refine s_op (l_bin rfl rfl (b_neq (r := false) (decide_eq_false (fun h => h rfl)))) ?_
 refine s_nil trivial (n_wp ?_)
 refine w_F rfl ?_ 
 refine w_skip (n_wp (qz hP hn ?_))
 refine s_op (k_ld (h := by exact a_load_whole rfl rfl (by kernel_rfl))) ?_
 refine s_op k_ld ?_
 refine s_op (k_call [] (con := hmk)) ?_
 refine s_st k_st ?_
 refine s_op k_as ?_
 refine s_nil trivial (n_wp (w_ret ?_))
 exact d_ret hP hn hE [] (ret2 Tryz.results11 r_cella (by first | exact ri_tmp rfl | exact ri_tmpa rfl))

end Go.Proofs.X
end

section
set_option maxRecDepth 100000
set_option maxHeartbeats 4000000
open Go Go.Bx Go.Proofs
namespace Go.Proofs.X
attribute [local irreducible] be gN ckS encL enF up8 chk pk0 pkB mayK wd asB tagS
theorem there_0 (p q g a : Nat) (SD ID PE : List Int) (ep : Nat) (OM OC IM IC SA HE TG : List Int) (y : Nat) (SS : List Int) (sp : Nat) (Bp : List Int) (left tries : Int) (hsp : sp ≠ 0) : Con Tryz.prog 26 [.s (.ptr 0 0 0)] [some ⟨true, [N4 p, N4 q, N4 g, N4 a, B32 SD, B32 ID, B16 PE, .one (.int .u32 ((ep : Nat) : Int)), B32 OM, B16 OC, B32 IM, B16 IC, B32 SA, B32 HE, B16 TG, N4 y, B32 SS, .one (.int .u32 0), .one (.int .u32 ((sp : Nat) : Int)), .one (.fzi .u8 Bp), .one (.int .i64 left), .one (.int .i64 tries), .one .nils]⟩] (.s (.bool true)) [some ⟨true, [N4 p, N4 q, N4 g, N4 a, B32 SD, B32 ID, B16 PE, .one (.int .u32 ((ep : Nat) : Int)), B32 OM, B16 OC, B32 IM, B16 IC, B32 SA, B32 HE, B16 TG, N4 y, B32 SS, .one (.int .u32 0), .one (.int .u32 ((sp : Nat) : Int)), .one (.fzi .u8 Bp), .one (.int .i64 left), .one (.int .i64 tries), .one .nils]⟩] := by
 refine con_in 13 Tryz.func26 rfl rfl (m := 1) rfl ?_
 intro E hP hn hE
 refine qz hP hn ?_
 refine s_op k_as ?_
 refine qx hP hn ?_
 refine o3 ?_
 refine s_on rfl rfl rfl k_mv ?_
 refine s_on rfl rfl rfl k_nc ?_
 refine s_on rfl rfl rfl k_fa ?_
 refine s_on rfl rfl rfl k_fa ?_
 refine s_on rfl rfl rfl k_ld ?_
 refine s_on rfl rfl rfl (l_bin rfl rfl (b_neq (r := true) (decide_eq_true (by omega)))) ?_
 refine o2 ?_
 refine s_nil trivial (n_wp (w_ret ?_))
 exact d_ret hP hn hE [0] (by first | exact r_tmp Tryz.results26 | exact r_tmpa Tryz.results26)

theorem there_1 (p q g a : Nat) (SD ID PE : List Int) (ep : Nat) (OM OC IM IC SA HE TG : List Int) (y : Nat) (SS : List Int) (sp : Nat) (Bp : List Int) (left tries : Int) (hsp : sp ≠ 0) : Con Tryz.prog 26 [.s (.ptr 0 0 0)] [some ⟨true, [N4 p, N4 q, N4 g, N4 a, B32 SD, B32 ID, B16 PE, .one (.int .u32 ((ep : Nat) : Int)), B32 OM, B16 OC, B32 IM, B16 IC, B32 SA, B32 HE, B16 TG, N4 y, B32 SS, .one (.int .u32 0), .one (.int .u32 ((sp : Nat) : Int)), .one (.fzi .u8 Bp), .one (.int .i64 left), .one (.int .i64 tries), .one (.gro 1 3 1)]⟩, some ⟨true, [.rows 1 3 (rowsF fun i => ([[.one (.int .u32 0), .one (.int .u32 ((sp : Nat) : Int)), .one (.fzi .u8 Bp)]] : List (List Seg)).getD i [])]⟩] (.s (.bool true)) [some ⟨true, [N4 p, N4 q, N4 g, N4 a, B32 SD, B32 ID, B16 PE, .one (.int .u32 ((ep : Nat) : Int)), B32 OM, B16 OC, B32 IM, B16 IC, B32 SA, B32 HE, B16 TG, N4 y, B32 SS, .one (.int .u32 0), .one (.int .u32 ((sp : Nat) : Int)), .one (.fzi .u8 Bp), .one (.int .i64 left), .one (.int .i64 tries), .one (.gro 1 3 1)]⟩, some ⟨true, [.rows 1 3 (rowsF fun i => ([[.one (.int .u32 0), .one (.int .u32 ((sp : Nat) : Int)), .one (.fzi .u8 Bp)]] : List (List Seg)).getD i [])]⟩] := by
 refine con_in 13 Tryz.func26 rfl rfl (m := 2) rfl ?_
 intro E hP hn hE
 refine qz hP hn ?_
 refine s_op k_as ?_
 refine qx hP hn ?_
 refine o3 ?_
 refine s_on rfl rfl rfl k_mv ?_
 refine s_on rfl rfl rfl k_nc ?_
 refine s_on rfl rfl rfl k_fa ?_
 refine s_on rfl rfl rfl k_fa ?_
 refine s_on rfl rfl rfl k_ld ?_
 refine s_on rfl rfl rfl (l_bin rfl rfl (b_neq (r := true) (decide_eq_true (by omega)))) ?_
 refine o2 ?_
 refine s_nil trivial (n_wp (w_ret ?_))
 exact d_ret hP hn hE [0, 1] (by first | exact r_tmp Tryz.results26 | exact r_tmpa Tryz.results26)

theorem clpf_n (n q : Nat) (g : Nat → Nat → SV) (hn : n ≤ q) : Con Tryz.prog 27 [.s (.gro 0 3 n)] [some ⟨true, [.rows q 3 g]⟩] (.s (.gro 0 3 n)) [some ⟨true, [.rows q 3 g]⟩] := by
 refine con_in 9 Tryz.func27 rfl rfl (m := 1) rfl ?_
 intro E hP hn hE
 refine qz hP hn ?_
 refine s_op k_as ?_
 refine qx hP hn ?_
 refine o3 ?_
 refine o2 ?_
 refine s_op k_slc ?_
 refine s_op k_as ?_
 refine s_nil trivial (n_wp (w_ret ?_))
 exact d_ret hP hn hE [0] (by first | exact r_tmp Tryz.results27 | exact r_tmpa Tryz.results27)

theorem sends_c (p q g a : Nat) (SD ID PE : List Int) (ep : Nat) (OM OC IM IC SA HE TG : List Int) (y : Nat) (SS : List Int) (sp : Nat) (Bp : List Int) (left tries : Int) (hBp : Bp.length ≤ 1000000) : Con Tryz.prog 25 [.s (.ptr 0 0 0)] [some ⟨true, [N4 p, N4 q, N4 g, N4 a, B32 SD, B32 ID, B16 PE, .one (.int .u32 ((ep : Nat) : Int)), B32 OM, B16 OC, B32 IM, B16 IC, B32 SA, B32 HE, B16 TG, N4 y, B32 SS, .one (.int .u32 0), .one (.int .u32 ((sp : Nat) : Int)), .one (.fzi .u8 Bp), .one (.int .i64 left), .one (.int .i64 tries), .one .nils]⟩] (.tup []) [some ⟨true, [N4 p, N4 q, N4 g, N4 a, B32 SD, B32 ID, B16 PE, .one (.int .u32 ((ep : Nat) : Int)), B32 OM, B16 OC, B32 IM, B16 IC, B32 SA, B32 HE, B16 TG, N4 y, B32 SS, .one (.int .u32 0), .one (.int .u32 ((sp : Nat) : Int)), .one (.fzi .u8 Bp), .one (.int .i64 4), .one (.int .i64 tries), .one (.gro 1 3 1)]⟩, some ⟨true, [.rows 1 3 (rowsF fun i => ([[.one (.int .u32 0), .one (.int .u32 ((sp : Nat) : Int)), .one (.fzi .u8 Bp)]] : List (List Seg)).getD i [])]⟩] := by
 refine con_in 27 Tryz.func25 rfl rfl (m := 1) rfl ?_
 intro E hP hn hE
 refine qz hP hn ?_
 refine o3 ?_
 refine s_st (k_st (h := by exact a_store_one rfl rfl SV.noConfusion rfl rfl (hset_seg (by repeat (first | apply sset_s _ rfl rfl | exact sset_0)) (by repeat (first | exact hset_0 | apply hset_s))))) ?_
 refine s_nil trivial (n_wp ?_)
 refine w_weak ((weak_new (segs := [.rows 0 3 (rowsF fun i => ([[.one (.int .u32 0), .one (.int .u32 ((sp : Nat) : Int)), .one (.fzi .u8 Bp)]] : List (List Seg)).getD i [])]) rfl).trans (weak_row 0 (segs' := [N4 p, N4 q, N4 g, N4 a, B32 SD, B32 ID, B16 PE, .one (.int .u32 ((ep : Nat) : Int)), B32 OM, B16 OC, B32 IM, B16 IC, B32 SA, B32 HE, B16 TG, N4 y, B32 SS, .one (.int .u32 0), .one (.int .u32 ((sp : Nat) : Int)), .one (.fzi .u8 Bp), .one (.int .i64 4), .one (.int .i64 tries), .one (.gro 1 3 0)]) rfl (fun _ _ h => row_gro (pre := [N4 p, N4 q, N4 g, N4 a, B32 SD, B32 ID, B16 PE, .one (.int .u32 ((ep : Nat) : Int)), B32 OM, B16 OC, B32 IM, B16 IC, B32 SA, B32 HE, B16 TG, N4 y, B32 SS, .one (.int .u32 0), .one (.int .u32 ((sp : Nat) : Int)), .one (.fzi .u8 Bp), .one (.int .i64 4), .one (.int .i64 tries)]) h) rfl)) ?_
 refine g_any hP hn ?_
 refine o4 ?_
 refine o4 ?_
 refine o4 ?_
 refine o3 ?_
 refine s_op (k_call [] (con := clone_c Bp hBp)) ?_
 refine s_op (k_call [] (con := clip_f Bp)) ?_
 refine s_op k_bd ?_
 refine s_op (k_bsR [[.one (.int .u32 0), .one (.int .u32 ((sp : Nat) : Int)), .one (.fzi .u8 Bp)]]) ?_
 refine s_op (k_apr (rowsF fun i => ([[.one (.int .u32 0), .one (.int .u32 ((sp : Nat) : Int)), .one (.fzi .u8 Bp)]] : List (List Seg)).getD i []) (hg := by exact fun _ _ h => absurd h (Nat.not_lt_zero _)) (hgn := by exact fun a b ha hb => match a, ha with | 0, _ => rfl)) ?_
 refine o2 ?_
 refine s_st (k_st (h := by exact a_store_one rfl rfl SV.noConfusion rfl rfl (hset_seg (by repeat (first | apply sset_s _ rfl rfl | exact sset_0)) (by repeat (first | exact hset_0 | apply hset_s))))) ?_
 refine s_nil (by kernel_rfl) ?_
 exact d_ret hP hn hE [0, 3] (ret_none Tryz.results25)

theorem say_1 (p q g a : Nat) (SD ID PE : List Int) (ep : Nat) (OM OC IM IC SA HE TG : List Int) (y : Nat) (SS : List Int) (sp : Nat) (Bp : List Int) (left tries : Int) (hsp : sp ≠ 0) : Con Tryz.prog 9 [.s (.ptr 0 0 0)] [some ⟨true, [N4 p, N4 q, N4 g, N4 a, B32 SD, B32 ID, B16 PE, .one (.int .u32 ((ep : Nat) : Int)), B32 OM, B16 OC, B32 IM, B16 IC, B32 SA, B32 HE, B16 TG, N4 y, B32 SS, .one (.int .u32 0), .one (.int .u32 ((sp : Nat) : Int)), .one (.fzi .u8 Bp), .one (.int .i64 left), .one (.int .i64 tries), .one (.gro 1 3 1)]⟩, some ⟨true, [.rows 1 3 (rowsF fun i => ([[.one (.int .u32 0), .one (.int .u32 ((sp : Nat) : Int)), .one (.fzi .u8 Bp)]] : List (List Seg)).getD i [])]⟩] (.s (.fz 1 3 (rowsF fun i => ([[.one (.int .u32 0), .one (.int .u32 ((sp : Nat) : Int)), .one (.fzi .u8 Bp)]] : List (List Seg)).getD i []))) [some ⟨true, [N4 p, N4 q, N4 g, N4 a, B32 SD, B32 ID, B16 PE, .one (.int .u32 ((ep : Nat) : Int)), B32 OM, B16 OC, B32 IM, B16 IC, B32 SA, B32 HE, B16 TG, N4 y, B32 SS, .one (.int .u32 0), .one (.int .u32 ((sp : Nat) : Int)), .one (.fzi .u8 Bp), .one (.int .i64 left), .one (.int .i64 tries), .one .nils]⟩, none] := by
 refine con_in 16 Tryz.func9 rfl rfl (m := 2) rfl ?_
 intro E hP hn hE
 refine qz hP hn ?_
 refine s_op k_as ?_
 refine s_nil trivial (n_wp (w_seq (qz hP hn ?_)))
 refine s_op k_mv ?_
 refine s_op (k_call [0, 1] (con := there_1 p q g a SD ID PE ep OM OC IM IC SA HE TG y SS sp Bp left tries hsp)) ?_
 refine s_op k_not ?_
 refine s_nil trivial (n_wp ?_)
 refine w_F rfl ?_ 
 refine w_skip (n_wp (qz hP hn ?_))
 refine o3 ?_
 refine o2 ?_
 refine qx hP hn ?_
 refine o3 ?_
 refine s_st (k_st (h := by exact a_store_one rfl rfl SV.noConfusion rfl rfl (hset_seg (by repeat (first | apply sset_s _ rfl rfl | exact sset_0)) (by repeat (first | exact hset_0 | apply hset_s))))) ?_
 refine qx hP hn ?_
 refine s_op k_mv ?_
 refine s_op (k_call [1] (con := clpf_n 1 1 (rowsF fun i => ([[.one (.int .u32 0), .one (.int .u32 ((sp : Nat) : Int)), .one (.fzi .u8 Bp)]] : List (List Seg)).getD i []) (Nat.le_refl _))) ?_
 refine s_op k_as ?_
 refine s_nil trivial (n_wp ?_)
 refine w_weak (frz_grz 2) ?_
 refine w_ret ?_
 exact d_ret hP hn hE [0, 1] (by first | exact r_tmp Tryz.results9 | exact r_tmpa Tryz.results9)

theorem clonew_c (p q g a : Nat) (SD ID PE : List Int) (ep : Nat) (OM OC IM IC SA HE : List Int) (x : Nat) (y : Nat) (SS : List Int) (sp : Nat) (L2 : List Pc) (Bp : List Int) (hBp : Bp.length ≤ 1000000) (hsp : sp ≠ 0) (his : Con Tryz.prog 22 [.agg [N4 p, N4 q, N4 g, N4 a, B32 SD], .agg [B32 ID, B16 PE, .one (.int .u32 ((ep : Nat) : Int)), B32 OM, B16 OC, B32 IM, B16 IC, B32 SA, B32 HE]] [] (.tup [.agg [N4 p, N4 q, N4 g, N4 a, B32 SD, B32 ID, B16 PE, .one (.int .u32 ((ep : Nat) : Int)), B32 OM, B16 OC, B32 IM, B16 IC, B32 SA, B32 HE, .ints .u8 16 (tagS x)], .s (.int .i64 0)]) []) (hmk : Con Tryz.prog 24 [.agg [N4 p, N4 q, N4 g, N4 a, B32 SD, B32 ID, B16 PE, .one (.int .u32 ((ep : Nat) : Int)), B32 OM, B16 OC, B32 IM, B16 IC, B32 SA, B32 HE, .ints .u8 16 (tagS x)], .s (.int .u8 ((6 : Nat) : Int)), .s (.int .u16 ((897 : Nat) : Int)), .agg [B32 SS]] [] (.agg (PKT 6 (tagS x) PE L2)) []) (hput : Con Tryz.prog 23 [.agg (PKT 6 (tagS x) PE L2)] [] (.tup [.s (.fzi .u8 Bp), .s (.int .i64 0)]) []) : Con Tryz.prog 8 [.agg [N4 p, N4 q, N4 g, N4 a, B32 SD], .agg [B32 ID, B16 PE, .one (.int .u32 ((ep : Nat) : Int)), B32 OM, B16 OC, B32 IM, B16 IC, B32 SA, B32 HE], .agg [N4 y], .agg [B32 SS], .s (.int .u32 ((sp : Nat) : Int))] [] (.tup [.s (.ptr 0 0 0), .s (.int .i64 0)]) [some ⟨true, [N4 p, N4 q, N4 g, N4 a, B32 SD, B32 ID, B16 PE, .one (.int .u32 ((ep : Nat) : Int)), B32 OM, B16 OC, B32 IM, B16 IC, B32 SA, B32 HE, .ints .u8 16 (tagS x), N4 y, B32 SS, .one (.int .u32 0), .one (.int .u32 ((sp : Nat) : Int)), .one (.fzi .u8 Bp), .one (.int .i64 4), .one (.int .i64 5), .one (.gro 1 3 1)]⟩, some ⟨true, [.rows 1 3 (rowsF fun i => ([[.one (.int .u32 0), .one (.int .u32 ((sp : Nat) : Int)), .one (.fzi .u8 Bp)]] : List (List Seg)).getD i [])]⟩] := by
 refine con_in 47 Tryz.func8 rfl rfl (m := 0) rfl ?_
 intro E hP hn hE
 refine qz hP hn ?_
 refine s_op k_bxf ?_
 refine s_op k_bxf ?_
 refine s_op k_bxf ?_
 refine s_op k_bxf ?_
 refine o2 ?_
 refine qx hP hn ?_
 refine o2 ?_
 refine s_op (k_call [] (con := his)) ?_
 refine o4 ?_
 refine s_st (k_st (h := by exact a_store_agg rfl rfl rfl (put_w (by kernel_rfl)) (by exact Nat.le_of_ble_eq_true rfl) (by kernel_rfl) (by repeat (first | exact hset_0 | apply hset_s)))) ?_
 refine s_op k_as ?_
 refine s_nil trivial (n_wp (w_seq (qz hP hn ?_)))
 refine s_op k_mv ?_
 refine s_op (l_bin rfl rfl (b_neq (r := false) (decide_eq_false (fun h => h rfl)))) ?_
 refine s_op k_mv ?_
 refine s_on rfl rfl rfl k_mv ?_
 refine s_on rfl rfl rfl (l_bin rfl rfl (b_eql (r := false) (decide_eq_false (by omega)))) ?_
 refine s_op k_pk ?_
 refine s_nil trivial (n_wp ?_)
 refine w_F rfl ?_ 
 refine w_skip (n_wp (qz hP hn ?_))
 refine s_op (k_ld (h := by exact a_load_whole rfl rfl (by kernel_rfl))) ?_
 refine s_op k_ld ?_
 refine s_op (k_call [] (con := hmk)) ?_
 refine s_op (k_call [] (con := hput)) ?_
 refine o3 ?_
 refine o2 ?_
 refine qx hP hn ?_
 refine s_op (k_ld (h := by exact a_load_whole rfl rfl (by kernel_rfl))) ?_
 refine o4 ?_
 refine s_op k_bd ?_
 refine s_op k_bd ?_
 refine s_op k_bx ?_
 refine s_op k_as ?_
 refine qx hP hn ?_
 refine s_op k_mv ?_
 refine s_op (k_call [5] (con := sends_c p q g a SD ID PE ep OM OC IM IC SA HE (tagS x) y SS sp Bp 0 5 hBp)) ?_
 refine qx hP hn ?_
 refine o3 ?_
 refine s_nil trivial (n_wp (w_ret ?_))
 exact d_ret hP hn hE [5, 6] (ret2 Tryz.results8 (by first | exact ri_tmp rfl | exact ri_tmpa rfl) (by first | exact ri_tmp rfl | exact ri_tmpa rfl))

theorem tick_w (p q g a : Nat) (SD ID PE : List Int) (ep : Nat) (OM OC IM IC SA HE TG : List Int) (y : Nat) (SS : List Int) (sp : Nat) (Bp : List Int) (left tries : Nat) (hsp : sp ≠ 0) (hl : left ≤ 1000) (ht : tries ≤ 1000) (h1 : 1 < left) : Con Tryz.prog 14 [.s (.ptr 0 0 0)] [some ⟨true, [N4 p, N4 q, N4 g, N4 a, B32 SD, B32 ID, B16 PE, .one (.int .u32 ((ep : Nat) : Int)), B32 OM, B16 OC, B32 IM, B16 IC, B32 SA, B32 HE, B16 TG, N4 y, B32 SS, .one (.int .u32 0), .one (.int .u32 ((sp : Nat) : Int)), .one (.fzi .u8 Bp), .one (.int .i64 ((left : Nat) : Int)), .one (.int .i64 ((tries : Nat) : Int)), .one .nils]⟩] (.s (.int .i64 0)) [some ⟨true, [N4 p, N4 q, N4 g, N4 a, B32 SD, B32 ID, B16 PE, .one (.int .u32 ((ep : Nat) : Int)), B32 OM, B16 OC, B32 IM, B16 IC, B32 SA, B32 HE, B16 TG, N4 y, B32 SS, .one (.int .u32 0), .one (.int .u32 ((sp : Nat) : Int)), .one (.fzi .u8 Bp), .one (.int .i64 ((left - 1 : Nat) : Int)), .one (.int .i64 ((tries : Nat) : Int)), .one .nils]⟩] := by
 refine con_in 35 Tryz.func14 rfl rfl (m := 1) rfl ?_
 intro E hP hn hE
 refine qz hP hn ?_
 refine s_op k_as ?_
 refine s_nil trivial (n_wp (w_seq (w_block (qz hP hn ?_))))
 refine s_op k_mv ?_
 refine s_op (k_call [0] (con := there_0 p q g a SD ID PE ep OM OC IM IC SA HE TG y SS sp Bp (left : Int) (tries : Int) hsp)) ?_
 refine o2 ?_
 refine s_nil trivial (n_wp ?_)
 refine w_F rfl ?_ 
 refine qz hP hn ?_
 refine o4 ?_
 refine o2 ?_
 refine s_nil trivial (n_wp ?_)
 refine w_T rfl ?_ (decide_eq_true (by omega))
 refine qz hP hn ?_
 refine o4 ?_
 refine s_op (l_bin rfl rfl (b_sub (r := ((left - 1 : Nat) : Int)) (by rw [wrap_i64 (by omega)]; omega))) ?_
 refine o2 ?_
 refine s_st (k_st (h := by exact a_store_one rfl rfl SV.noConfusion rfl rfl (hset_seg (by repeat (first | apply sset_s _ rfl rfl | exact sset_0)) (by repeat (first | exact hset_0 | apply hset_s))))) ?_
 refine qx hP hn ?_
 refine s_op k_as ?_
 refine s_nil trivial (n_wp (w_ret (r_blo (r_thn ?_))))
 exact d_ret hP hn hE [0] (by first | exact r_tmp Tryz.results14 | exact r_tmpa Tryz.results14)

theorem tick_o (p q g a : Nat) (SD ID PE : List Int) (ep : Nat) (OM OC IM IC SA HE TG : List Int) (y : Nat) (SS : List Int) (sp : Nat) (Bp : List Int) (left tries : Nat) (hsp : sp ≠ 0) (hl : left ≤ 1000) (ht : tries ≤ 1000) (h1 : left ≤ 1) (h0 : tries = 0) : Con Tryz.prog 14 [.s (.ptr 0 0 0)] [some ⟨true, [N4 p, N4 q, N4 g, N4 a, B32 SD, B32 ID, B16 PE, .one (.int .u32 ((ep : Nat) : Int)), B32 OM, B16 OC, B32 IM, B16 IC, B32 SA, B32 HE, B16 TG, N4 y, B32 SS, .one (.int .u32 0), .one (.int .u32 ((sp : Nat) : Int)), .one (.fzi .u8 Bp), .one (.int .i64 ((left : Nat) : Int)), .one (.int .i64 ((tries : Nat) : Int)), .one .nils]⟩] (.s (.int .i64 13)) [some ⟨true, [N4 p, N4 q, N4 g, N4 a, B32 SD, B32 ID, B16 PE, .one (.int .u32 ((ep : Nat) : Int)), B32 OM, B16 OC, B32 IM, B16 IC, B32 SA, B32 HE, B16 TG, N4 y, B32 SS, .one (.int .u32 0), .one (.int .u32 ((sp : Nat) : Int)), .one (.fzi .u8 Bp), .one (.int .i64 ((left : Nat) : Int)), .one (.int .i64 ((tries : Nat) : Int)), .one .nils]⟩] := by
 refine con_in 35 Tryz.func14 rfl rfl (m := 1) rfl ?_
 intro E hP hn hE
 refine qz hP hn ?_
 refine s_op k_as ?_
 refine s_nil trivial (n_wp (w_seq (w_block (qz hP hn ?_))))
 refine s_op k_mv ?_
 refine s_op (k_call [0] (con := there_0 p q g a SD ID PE ep OM OC IM IC SA HE TG y SS sp Bp (left : Int) (tries : Int) hsp)) ?_
 refine o2 ?_
 refine s_nil trivial (n_wp ?_)
 refine w_F rfl ?_ 
 refine qz hP hn ?_
 refine o4 ?_
 refine o2 ?_
 refine s_nil trivial (n_wp ?_)
 refine w_F rfl ?_ (decide_eq_false (by omega))
 refine qz hP hn ?_
 refine o4 ?_
 refine o2 ?_
 refine s_nil trivial (n_wp ?_)
 refine w_T rfl ?_ (decide_eq_true (by omega))
 refine qz hP hn ?_
 refine s_op k_as ?_
 refine s_nil trivial (n_wp (w_ret (r_blo (r_thn ?_))))
 exact d_ret hP hn hE [0] (by first | exact r_tmp Tryz.results14 | exact r_tmpa Tryz.results14)

theorem tick_s (p q g a : Nat) (SD ID PE : List Int) (ep : Nat) (OM OC IM IC SA HE TG : List Int) (y : Nat) (SS : List Int) (sp : Nat) (Bp : List Int) (left tries : Nat) (hsp : sp ≠ 0) (hl : left ≤ 1000) (ht : tries ≤ 1000) (h1 : left ≤ 1) (h0 : tries ≠ 0) (hBp : Bp.length ≤ 1000000) : Con Tryz.prog 14 [.s (.ptr 0 0 0)] [some ⟨true, [N4 p, N4 q, N4 g, N4 a, B32 SD, B32 ID, B16 PE, .one (.int .u32 ((ep : Nat) : Int)), B32 OM, B16 OC, B32 IM, B16 IC, B32 SA, B32 HE, B16 TG, N4 y, B32 SS, .one (.int .u32 0), .one (.int .u32 ((sp : Nat) : Int)), .one (.fzi .u8 Bp), .one (.int .i64 ((left : Nat) : Int)), .one (.int .i64 ((tries : Nat) : Int)), .one .nils]⟩] (.s (.int .i64 0)) [some ⟨true, [N4 p, N4 q, N4 g, N4 a, B32 SD, B32 ID, B16 PE, .one (.int .u32 ((ep : Nat) : Int)), B32 OM, B16 OC, B32 IM, B16 IC, B32 SA, B32 HE, B16 TG, N4 y, B32 SS, .one (.int .u32 0), .one (.int .u32 ((sp : Nat) : Int)), .one (.fzi .u8 Bp), .one (.int .i64 4), .one (.int .i64 ((tries - 1 : Nat) : Int)), .one (.gro 1 3 1)]⟩, some ⟨true, [.rows 1 3 (rowsF fun i => ([[.one (.int .u32 0), .one (.int .u32 ((sp : Nat) : Int)), .one (.fzi .u8 Bp)]] : List (List Seg)).getD i [])]⟩] := by
 refine con_in 35 Tryz.func14 rfl rfl (m := 1) rfl ?_
 intro E hP hn hE
 refine qz hP hn ?_
 refine s_op k_as ?_
 refine s_nil trivial (n_wp (w_seq (w_block (qz hP hn ?_))))
 refine s_op k_mv ?_
 refine s_op (k_call [0] (con := there_0 p q g a SD ID PE ep OM OC IM IC SA HE TG y SS sp Bp (left : Int) (tries : Int) hsp)) ?_
 refine o2 ?_
 refine s_nil trivial (n_wp ?_)
 refine w_F rfl ?_ 
 refine qz hP hn ?_
 refine o4 ?_
 refine o2 ?_
 refine s_nil trivial (n_wp ?_)
 refine w_F rfl ?_ (decide_eq_false (by omega))
 refine qz hP hn ?_
 refine o4 ?_
 refine o2 ?_
 refine s_nil trivial (n_wp ?_)
 refine w_F rfl ?_ (decide_eq_false (by omega))
 refine w_skip (n_blo (n_wp (qz hP hn ?_)))
 refine o4 ?_
 refine s_op (l_bin rfl rfl (b_sub (r := ((tries - 1 : Nat) : Int)) (by rw [wrap_i64 (by omega)]; omega))) ?_
 refine o2 ?_
 refine s_st (k_st (h := by exact a_store_one rfl rfl SV.noConfusion rfl rfl (hset_seg (by repeat (first | apply sset_s _ rfl rfl | exact sset_0)) (by repeat (first | exact hset_0 | apply hset_s))))) ?_
 refine qx hP hn ?_
 refine s_op k_mv ?_
 refine s_op (k_call [0] (con := sends_c p q g a SD ID PE ep OM OC IM IC SA HE TG y SS sp Bp (left : Int) ((tries - 1 : Nat) : Int) hBp)) ?_
 refine qx hP hn ?_
 refine s_op k_as ?_
 refine s_nil trivial (n_wp (w_ret ?_))
 exact d_ret hP hn hE [0, 1] (by first | exact r_tmp Tryz.results14 | exact r_tmpa Tryz.results14)

theorem came_y (p q g a : Nat) (SD ID PE : List Int) (ep : Nat) (OM OC IM IC SA HE TG : List Int) (y : Nat) (SS : List Int) (sp : Nat) (Bp : List Int) (left tries : Int) (hsp : sp ≠ 0) (k : Nat) (A B : List Int) (L : List Pc) (s : List Int) (hs : s.length = 32) (hSS : SS.length = 32) (hy : s = SS) (hrd : Con Tryz.prog 37 [.agg [N4 p, N4 q, N4 g, N4 a, B32 SD, B32 ID, B16 PE, .one (.int .u32 ((ep : Nat) : Int)), B32 OM, B16 OC, B32 IM, B16 IC, B32 SA, B32 HE, B16 TG], .agg (PKT k A B L), .agg [N4 y], .s (.int .u8 ((7 : Nat) : Int)), .s (.fzi .u16 (zs [961, 61505, 61697]))] [] (.tup [.agg [B32 s], .s (.int .i64 0)]) [])  : Con Tryz.prog 13 [.s (.ptr 0 0 0), .agg (PKT k A B L)] [some ⟨true, [N4 p, N4 q, N4 g, N4 a, B32 SD, B32 ID, B16 PE, .one (.int .u32 ((ep : Nat) : Int)), B32 OM, B16 OC, B32 IM, B16 IC, B32 SA, B32 HE, B16 TG, N4 y, B32 SS, .one (.int .u32 0), .one (.int .u32 ((sp : Nat) : Int)), .one (.fzi .u8 Bp), .one (.int .i64 left), .one (.int .i64 tries), .one .nils]⟩] (.s (.int .i64 0)) [some ⟨true, [N4 p, N4 q, N4 g, N4 a, B32 SD, B32 ID, B16 PE, .one (.int .u32 ((ep : Nat) : Int)), B32 OM, B16 OC, B32 IM, B16 IC, B32 SA, B32 HE, B16 TG, N4 y, B32 SS, .one (.int .u32 0), .one (.int .u32 ((sp : Nat) : Int)), .one (.fzi .u8 Bp), .one (.int .i64 left), .one (.int .i64 tries), .one .nils]⟩] := by
 refine con_in 35 Tryz.func13 rfl rfl (m := 1) rfl ?_
 intro E hP hn hE
 refine qz hP hn ?_
 refine s_op k_bxf ?_
 refine s_op k_as ?_
 refine s_nil trivial (n_wp (w_seq (qz hP hn ?_)))
 refine s_op k_mv ?_
 refine s_op (k_call [0] (con := there_0 p q g a SD ID PE ep OM OC IM IC SA HE TG y SS sp Bp left tries hsp)) ?_
 refine s_op k_not ?_
 refine s_nil trivial (n_wp ?_)
 refine w_F rfl ?_ 
 refine w_skip (n_wp (w_seq ?_))
 refine g_any hP hn ?_
 refine o3 ?_
 refine s_op (k_ld (h := by exact a_load_agg (sub := [N4 p, N4 q, N4 g, N4 a, B32 SD, B32 ID, B16 PE, .one (.int .u32 ((ep : Nat) : Int)), B32 OM, B16 OC, B32 IM, B16 IC, B32 SA, B32 HE, B16 TG]) (r := [N4 p, N4 q, N4 g, N4 a, B32 SD, B32 ID, B16 PE, .one (.int .u32 ((ep : Nat) : Int)), B32 OM, B16 OC, B32 IM, B16 IC, B32 SA, B32 HE, B16 TG, N4 y, B32 SS, .one (.int .u32 0), .one (.int .u32 ((sp : Nat) : Int)), .one (.fzi .u8 Bp), .one (.int .i64 left), .one (.int .i64 tries), .one .nils]) rfl rfl (by kernel_rfl) (by kernel_rfl))) ?_
 refine o4 ?_
 refine s_op (k_ld (h := by exact a_load_agg (sub := [N4 y]) (r := [N4 y, B32 SS, .one (.int .u32 0), .one (.int .u32 ((sp : Nat) : Int)), .one (.fzi .u8 Bp), .one (.int .i64 left), .one (.int .i64 tries), .one .nils]) rfl rfl (by kernel_rfl) (by kernel_rfl))) ?_
 refine s_op k_bsf ?_
 refine s_op (k_call [] (con := hrd)) ?_
 refine o4 ?_
 refine s_st k_st ?_
 refine s_op k_as ?_
 refine s_nil (by kernel_rfl) ?_
 refine n_wp (w_seq (w_seq ?_))
 refine g_any hP hn ?_
 refine s_op k_mv ?_
 refine s_op (l_bin rfl rfl (b_eql (r := true) (decide_eq_true rfl))) ?_
 refine s_op k_mv ?_
 refine s_on rfl rfl rfl k_ld ?_
 refine s_on rfl rfl rfl k_mv ?_
 refine s_on rfl rfl rfl k_nc ?_
 refine s_on rfl rfl rfl k_fa ?_
 refine s_on rfl rfl rfl (k_ld (h := by exact a_load_agg (sub := [B32 SS]) (r := [B32 SS, .one (.int .u32 0), .one (.int .u32 ((sp : Nat) : Int)), .one (.fzi .u8 Bp), .one (.int .i64 left), .one (.int .i64 tries), .one .nils]) rfl rfl (by kernel_rfl) (by kernel_rfl))) ?_
 refine s_on rfl rfl rfl k_neq ?_
 refine s_op k_pk ?_
 refine s_nil (by kernel_rfl) ?_
 refine n_wp ?_
 refine w_F rfl ?_ (by subst hy; simp)
 refine w_skip (n_wp (qz hP hn ?_))
 refine o2 ?_
 refine s_nil trivial (n_wp (w_ret ?_))
 exact d_ret hP hn hE [0] (by first | exact r_tmp Tryz.results13 | exact r_tmpa Tryz.results13)

theorem came_n (p q g a : Nat) (SD ID PE : List Int) (ep : Nat) (OM OC IM IC SA HE TG : List Int) (y : Nat) (SS : List Int) (sp : Nat) (Bp : List Int) (left tries : Int) (hsp : sp ≠ 0) (k : Nat) (A B : List Int) (L : List Pc) (s : List Int) (hs : s.length = 32) (hSS : SS.length = 32) (hy : s ≠ SS) (hrd : Con Tryz.prog 37 [.agg [N4 p, N4 q, N4 g, N4 a, B32 SD, B32 ID, B16 PE, .one (.int .u32 ((ep : Nat) : Int)), B32 OM, B16 OC, B32 IM, B16 IC, B32 SA, B32 HE, B16 TG], .agg (PKT k A B L), .agg [N4 y], .s (.int .u8 ((7 : Nat) : Int)), .s (.fzi .u16 (zs [961, 61505, 61697]))] [] (.tup [.agg [B32 s], .s (.int .i64 0)]) [])  : Con Tryz.prog 13 [.s (.ptr 0 0 0), .agg (PKT k A B L)] [some ⟨true, [N4 p, N4 q, N4 g, N4 a, B32 SD, B32 ID, B16 PE, .one (.int .u32 ((ep : Nat) : Int)), B32 OM, B16 OC, B32 IM, B16 IC, B32 SA, B32 HE, B16 TG, N4 y, B32 SS, .one (.int .u32 0), .one (.int .u32 ((sp : Nat) : Int)), .one (.fzi .u8 Bp), .one (.int .i64 left), .one (.int .i64 tries), .one .nils]⟩] (.s (.int .i64 7)) [some ⟨true, [N4 p, N4 q, N4 g, N4 a, B32 SD, B32 ID, B16 PE, .one (.int .u32 ((ep : Nat) : Int)), B32 OM, B16 OC, B32 IM, B16 IC, B32 SA, B32 HE, B16 TG, N4 y, B32 SS, .one (.int .u32 0), .one (.int .u32 ((sp : Nat) : Int)), .one (.fzi .u8 Bp), .one (.int .i64 left), .one (.int .i64 tries), .one .nils]⟩] := by
 refine con_in 35 Tryz.func13 rfl rfl (m := 1) rfl ?_
 intro E hP hn hE
 refine qz hP hn ?_
 refine s_op k_bxf ?_
 refine s_op k_as ?_
 refine s_nil trivial (n_wp (w_seq (qz hP hn ?_)))
 refine s_op k_mv ?_
 refine s_op (k_call [0] (con := there_0 p q g a SD ID PE ep OM OC IM IC SA HE TG y SS sp Bp left tries hsp)) ?_
 refine s_op k_not ?_
 refine s_nil trivial (n_wp ?_)
 refine w_F rfl ?_ 
 refine w_skip (n_wp (w_seq ?_))
 refine g_any hP hn ?_
 refine o3 ?_
 refine s_op (k_ld (h := by exact a_load_agg (sub := [N4 p, N4 q, N4 g, N4 a, B32 SD, B32 ID, B16 PE, .one (.int .u32 ((ep : Nat) : Int)), B32 OM, B16 OC, B32 IM, B16 IC, B32 SA, B32 HE, B16 TG]) (r := [N4 p, N4 q, N4 g, N4 a, B32 SD, B32 ID, B16 PE, .one (.int .u32 ((ep : Nat) : Int)), B32 OM, B16 OC, B32 IM, B16 IC, B32 SA, B32 HE, B16 TG, N4 y, B32 SS, .one (.int .u32 0), .one (.int .u32 ((sp : Nat) : Int)), .one (.fzi .u8 Bp), .one (.int .i64 left), .one (.int .i64 tries), .one .nils]) rfl rfl (by kernel_rfl) (by kernel_rfl))) ?_
 refine o4 ?_
 refine s_op (k_ld (h := by exact a_load_agg (sub := [N4 y]) (r := [N4 y, B32 SS, .one (.int .u32 0), .one (.int .u32 ((sp : Nat) : Int)), .one (.fzi .u8 Bp), .one (.int .i64 left), .one (.int .i64 tries), .one .nils]) rfl rfl (by kernel_rfl) (by kernel_rfl))) ?_
 refine s_op k_bsf ?_
 refine s_op (k_call [] (con := hrd)) ?_
 refine o4 ?_
 refine s_st k_st ?_
 refine s_op k_as ?_
 refine s_nil (by kernel_rfl) ?_
 refine n_wp (w_seq (w_seq ?_))
 refine g_any hP hn ?_
 refine s_op k_mv ?_
 refine s_op (l_bin rfl rfl (b_eql (r := true) (decide_eq_true rfl))) ?_
 refine s_op k_mv ?_
 refine s_on rfl rfl rfl k_ld ?_
 refine s_on rfl rfl rfl k_mv ?_
 refine s_on rfl rfl rfl k_nc ?_
 refine s_on rfl rfl rfl k_fa ?_
 refine s_on rfl rfl rfl (k_ld (h := by exact a_load_agg (sub := [B32 SS]) (r := [B32 SS, .one (.int .u32 0), .one (.int .u32 ((sp : Nat) : Int)), .one (.fzi .u8 Bp), .one (.int .i64 left), .one (.int .i64 tries), .one .nils]) rfl rfl (by kernel_rfl) (by kernel_rfl))) ?_
 refine s_on rfl rfl rfl k_neq ?_
 refine s_op k_pk ?_
 refine s_nil (by kernel_rfl) ?_
 refine n_wp ?_
 refine w_T rfl ?_ (by rw [decide_eq_false hy]; rfl)
 refine qz hP hn ?_
 refine s_op k_as ?_
 refine s_nil trivial (n_wp (w_ret (r_thn ?_)))
 exact d_ret hP hn hE [0] (by first | exact r_tmp Tryz.results13 | exact r_tmpa Tryz.results13)

end Go.Proofs.X
end

section
set_option maxRecDepth 100000
set_option maxHeartbeats 4000000
open Go Go.Bx Go.Proofs
namespace Go.Proofs.X
attribute [local irreducible] be gN ckS encL enF up8 chk pk0 pkB mayK wd asB tagS
theorem tag_ok (p q g a : Nat) (SD : List Int) (x : Nat) (hkey : Con Tryz.prog 18 [.agg (GRP p q g), .agg [.ints .u64 4 (zs (wd a))]] [] (.tup [.agg [.ints .u64 4 (zs (wd x))], .s (.int .i64 0)]) []) : Con Tryz.prog 17 [.agg [.ints .u64 4 (zs (wd p)), .ints .u64 4 (zs (wd q)), .ints .u64 4 (zs (wd g)), .ints .u64 4 (zs (wd a)), .ints .u8 32 SD]] [] (.tup [.agg [.ints .u8 16 (tagS x)], .s (.bool true)]) [] := by
 refine con_in 18 Tryz.func17 rfl rfl (m := 0) rfl ?_
 intro E hP hn hE
 refine qz hP hn ?_
 refine s_op k_bxf ?_
 refine o2 ?_
 refine qx hP hn ?_
 refine o4 ?_
 refine s_op (k_call [] (con := hkey)) ?_
 refine o4 ?_
 refine s_st k_st ?_
 refine s_op k_as ?_
 refine qx hP hn ?_
 refine s_op k_ld ?_
 refine s_op (k_call [] (con := tag_c x)) ?_
 refine s_op k_mv ?_
 refine s_op (l_bin rfl rfl (b_eql (r := true) (by decide))) ?_
 refine s_st k_st ?_
 refine s_op k_as ?_
 refine s_nil trivial (n_wp (w_ret ?_))
 exact d_ret hP hn hE [] (ret2 Tryz.results17 r_cella (by first | exact ri_tmp rfl | exact ri_tmpa rfl))

theorem tag_no (p q g a : Nat) (SD : List Int) (x : Nat) (hkey : Con Tryz.prog 18 [.agg (GRP p q g), .agg [.ints .u64 4 (zs (wd a))]] [] (.tup [.agg [.ints .u64 4 (zs (wd x))], .s (.int .i64 1)]) []) : Con Tryz.prog 17 [.agg [.ints .u64 4 (zs (wd p)), .ints .u64 4 (zs (wd q)), .ints .u64 4 (zs (wd g)), .ints .u64 4 (zs (wd a)), .ints .u8 32 SD]] [] (.tup [.agg [.ints .u8 16 (tagS x)], .s (.bool false)]) [] := by
 refine con_in 18 Tryz.func17 rfl rfl (m := 0) rfl ?_
 intro E hP hn hE
 refine qz hP hn ?_
 refine s_op k_bxf ?_
 refine o2 ?_
 refine qx hP hn ?_
 refine o4 ?_
 refine s_op (k_call [] (con := hkey)) ?_
 refine o4 ?_
 refine s_st k_st ?_
 refine s_op k_as ?_
 refine qx hP hn ?_
 refine s_op k_ld ?_
 refine s_op (k_call [] (con := tag_c x)) ?_
 refine s_op k_mv ?_
 refine s_op (l_bin rfl rfl (b_eql (r := false) (by decide))) ?_
 refine s_st k_st ?_
 refine s_op k_as ?_
 refine s_nil trivial (n_wp (w_ret ?_))
 exact d_ret hP hn hE [] (ret2 Tryz.results17 r_cella (by first | exact ri_tmp rfl | exact ri_tmpa rfl))

theorem known17_c  : Con Tryz.prog 50 [] [] (.agg [.ints .u64 4 [23, 0, 0, 0], .ints .u64 4 [11, 0, 0, 0], .ints .u64 4 [4, 0, 0, 0], .ints .u64 4 [3, 0, 0, 0], .ints .u8 32 [7, 0, 0, 0, 0, 0, 0, 0, 0, 0, 0, 0, 0, 0, 0, 0, 0, 0, 0, 0, 0, 0, 0, 0, 0, 0, 0, 0, 0, 0, 0, 0]]) [] := by
 refine con_in 8 Tryz.func50 rfl rfl (m := 0) rfl ?_
 intro E hP hn hE
 refine qz hP hn ?_
 refine s_op k_al ?_
 refine qx hP hn ?_
 refine s_op k_bd ?_
 refine s_op k_bd ?_
 refine s_op k_bd ?_
 refine s_op k_bd ?_
 refine s_op k_bd ?_
 refine s_op k_bd ?_
 refine s_op k_bd ?_
 refine s_st k_st ?_
 refine s_nil trivial (n_wp (w_ret ?_))
 exact d_ret hP hn hE [] (r_cell Tryz.results50)

theorem public_y (p q g n : Nat) (hn2 : n < 2 ^ 256) (hin : Con Tryz.prog 74 [.agg (GRP p q g), .agg [.ints .u64 4 (zs (wd n))]] [] (.s (.bool true)) []) (h1 : n ≠ 1) : Con Tryz.prog 46 [.agg (GRP p q g), .agg [.ints .u64 4 (zs (wd n))]] [] (.s (.bool true)) [] := by
 refine con_in 13 Tryz.func46 rfl rfl (m := 0) rfl ?_
 intro E hP hn hE
 refine qz hP hn ?_
 refine s_op k_bxf ?_
 refine s_op k_bxf ?_
 refine s_op k_as ?_
 refine qx hP hn ?_
 refine o2 ?_
 refine s_op (k_call [] (con := hin)) ?_
 refine s_op k_mv ?_
 refine s_on rfl rfl rfl k_ld ?_
 refine s_on rfl rfl rfl k_bd ?_
 refine s_on rfl rfl rfl (k_neN n 1 hn2 (by decide) (hy := congrArg (fun l => AV.agg [.ints .u64 4 l]) e1w)) ?_
 rw [decide_eq_false h1]
 refine o2 ?_
 refine s_nil trivial (n_wp (w_ret ?_))
 exact d_ret hP hn hE [] (by first | exact r_tmp Tryz.results46 | exact r_tmpa Tryz.results46)

theorem cut_s {B : List Int} {n : Nat} (h : B.length = n) : spl (zs (List.replicate n 0)) B 0 n n = B := by
 have h2 := spl_all (B := B) h
 rw [List.take_of_length_le (by omega)] at h2
 rw [zs_rep]; exact h2
theorem cut_z {B : List Int} {i : Nat} (hB : B.length = 192) (hi : i < 4) : (List.take ((List.take 48 (List.drop (48 * i) B)).length - 32) (List.drop 32 (List.take 48 (List.drop (48 * i) B)))).take 16 = List.take 16 (List.drop 32 (List.take 48 (List.drop (48 * i) B))) := by
 have hz : (List.take 48 (List.drop (48 * i) B)).length = 48 := by simp; omega
 rw [hz, List.take_take]; rfl

theorem cut_c (B : List Int) (i : Nat) (hB : B.length = 192) (hi : i < 4) : Con Tryz.prog 48 [.s (.fzi .u8 B), .s (.int .i64 ((i : Nat) : Int))] [] (.tup [.agg [.ints .u8 32 (((B.drop (48 * i)).take 48).take 32), .ints .u8 16 ((((B.drop (48 * i)).take 48).drop 32).take 16)], .s (.int .i64 0)]) [] := by
 refine con_in 37 Tryz.func48 rfl rfl (m := 0) rfl ?_
 intro E hP hn hE
 refine qz hP hn ?_
 refine o2 ?_
 refine s_nil trivial (n_wp (w_seq (w_block (qz hP hn ?_))))
 refine o3 ?_
 refine s_nil trivial (n_wp ?_)
 refine w_F rfl ?_ (decide_eq_false (by omega))
 refine qz hP hn ?_
 refine o3 ?_
 refine s_op (l_bin rfl rfl (b_quo (r := ((4 : Nat) : Int)) (by decide) (by rw [hB]; decide))) ?_
 refine o2 ?_
 refine s_nil trivial (n_wp ?_)
 refine w_F rfl ?_ (decide_eq_false (by omega))
 refine w_skip (n_blo (n_wp (qz hP hn ?_)))
 refine o4 ?_
 refine o3 ?_
 refine o2 ?_
 refine s_op (l_sli (ys := (B.drop (48 * i)).take 48) (l := 48 * i) (h := 48 * (i + 1)) rfl ⟨_, _, rfl, rfl⟩ ⟨_, _, rfl, rfl⟩ (.inr ⟨48 * (i + 1), ⟨_, rfl, _, _, rfl, rfl⟩, Nat.le_refl _, (by omega)⟩) rfl Und.h Sz.h (by omega) (by omega) (by rw [show 48 * (i + 1) - 48 * i = 48 by omega])) ?_
 refine s_op k_as ?_
 refine qx hP hn ?_
 refine s_op k_fa ?_
 refine s_op k_sl ?_
 refine s_op k_mv ?_
 refine s_op (k_cpn 32) ?_
 refine s_nil trivial (n_wp (w_seq ?_))
 have hz : (List.take 48 (List.drop (48 * i) B)).length = 48 := by simp; omega
 refine g_any hP hn ?_
 refine s_op k_fa ?_
 refine s_op k_sl ?_
 refine s_op k_mv ?_
 refine s_op k_sl ?_
 refine s_op (k_cpn 16 (hz := cut_z hB hi)) ?_
 refine s_nil (by kernel_rfl) ?_
 refine n_wp (w_seq ?_)
 rw [show spl (zs (List.replicate 32 0)) (List.take 32 (List.take 48 (List.drop (48 * i) B))) 0 32 32 = List.take 32 (List.take 48 (List.drop (48 * i) B)) from cut_s (by simp; omega), show spl (zs (List.replicate 16 0)) (List.take 16 (List.drop 32 (List.take 48 (List.drop (48 * i) B)))) 0 16 16 = List.take 16 (List.drop 32 (List.take 48 (List.drop (48 * i) B))) from cut_s (by simp; omega)]
 refine g_reg hP hn ?_
 refine s_op k_ld ?_
 refine s_st k_st ?_
 refine s_op k_as ?_
 refine s_nil trivial (n_wp (w_ret ?_))
 exact d_ret hP hn hE [] (ret2 Tryz.results48 r_cella (by first | exact ri_tmp rfl | exact ri_tmpa rfl))

end Go.Proofs.X
end

section
/- Hosts of one group of primes: their keys, what they sign, what two of them share. No program. -/
open Go Go.Bx
namespace Go.Proofs.X
def prmN (n : Nat) : Prop := 2 ≤ n ∧ ∀ d, 2 ≤ d → d * d ≤ n → n % d ≠ 0
theorem prm_dvd {n d : Nat} (h : prmN n) (hd : d ∣ n) (h1 : d ≠ 1) : d = n := by
  obtain ⟨e, rfl⟩ := hd
  have h2 := h.1
  have hd0 : d ≠ 0 := fun e0 => by subst e0; omega
  have he0 : e ≠ 0 := fun e0 => by subst e0; omega
  rcases Nat.lt_or_ge e 2 with h3 | h3
  · have : e = 1 := by omega
    subst this; omega
  · exfalso
    rcases Nat.le_total d e with h4 | h4
    · exact h.2 d (by omega) (Nat.mul_le_mul_left d h4) (Nat.mul_mod_right d e)
    · exact h.2 e h3 (Nat.mul_le_mul_right e h4) (Nat.mul_mod_left d e)
theorem pow_mod' (p g n : Nat) : (g % p) ^ n % p = g ^ n % p := (Nat.pow_mod g n p).symm
theorem pow_q {p q g : Nat} (h1 : g ^ q % p = 1 % p) (n : Nat) : g ^ n % p = g ^ (n % q) % p := by
  have e : g ^ n = (g ^ q) ^ (n / q) * g ^ (n % q) := by rw [← Nat.pow_mul, ← Nat.pow_add, Nat.div_add_mod]
  rw [e, Nat.mul_mod, Nat.pow_mod, h1, ← Nat.pow_mod, Nat.one_pow, ← Nat.mul_mod, Nat.one_mul]
theorem gcd_one {p g : Nat} : ∀ (a b : Nat), g ^ a % p = 1 % p → g ^ b % p = 1 % p → g ^ Nat.gcd a b % p = 1 % p := by
  intro a b
  induction a, b using Nat.gcd.induction with
  | H0 n => intro _ h; rwa [Nat.gcd_zero_left]
  | H1 m n _ ih =>
    intro h1 h2
    rw [Nat.gcd_rec]
    exact ih (by rw [← pow_q h1]; exact h2) h1
theorem fine_1 {p q g : Nat} (h : fineP p q g = true) : 1 < p ∧ 1 < q ∧ g ≠ 1 ∧ g ≠ 0 ∧ g < p ∧ g ^ q % p = 1 := by
  simp only [fineP, inP, Bool.and_eq_true, Bool.not_eq_true', decide_eq_true_eq, decide_eq_false_iff_not] at h
  have h2 := (mayP_iff p g).1 h.2.1
  exact ⟨h2.1, h.1.1, h.1.2, h2.2.1, h2.2.2, h.2.2⟩
theorem expP_fine {p q g : Nat} (h : fineP p q g = true) (n : Nat) : expP p g n = g ^ n % p := if_pos (fine_may h).1
theorem key_n1 {p q g a : Nat} (h : fineP p q g = true) (hq : prmN q) (h0 : a ≠ 0) (haq : a < q) : expP p g a ≠ 1 := by
  intro h1
  obtain ⟨hp, _, g1, _, gp, hgq⟩ := fine_1 h
  have e1 : 1 % p = 1 := Nat.mod_eq_of_lt hp
  rw [expP_fine h] at h1
  have h2 := gcd_one (p := p) (g := g) a q (by rw [e1]; exact h1) (by rw [e1]; exact hgq)
  have h3 : Nat.gcd a q = 1 := by
    refine Classical.byContradiction fun hn => ?_
    have := prm_dvd hq (Nat.gcd_dvd_right a q) hn
    have := Nat.le_of_dvd (by omega) (Nat.gcd_dvd_left a q)
    omega
  rw [h3, Nat.pow_one, e1, Nat.mod_eq_of_lt gp] at h2
  exact g1 h2
theorem key_in {p q g a : Nat} (h : fineP p q g = true) (haq : a ≤ q) : inP p q (expP p g a) = true := by
  obtain ⟨hp, _, _, _, _, hgq⟩ := fine_1 h
  simp only [inP, Bool.and_eq_true, decide_eq_true_eq]
  refine ⟨expP_may (fine_in h) haq, ?_⟩
  have e : (g ^ a) ^ q = (g ^ q) ^ a := by rw [← Nat.pow_mul, ← Nat.pow_mul, Nat.mul_comm]
  rw [expP_fine h, pow_mod', e, Nat.pow_mod, hgq, Nat.one_pow, Nat.mod_eq_of_lt hp]
theorem exp_exp {p q g a : Nat} (h : fineP p q g = true) (haq : a ≤ q) (b : Nat) : expP p (expP p g a) b = g ^ (a * b) % p := by
  rw [expP, if_pos (expP_may (fine_in h) haq), expP_fine h, pow_mod', ← Nat.pow_mul]
theorem shared_eq {p q g a b : Nat} (h : fineP p q g = true) (ha : a ≤ q) (hb : b ≤ q) : expP p (expP p g a) b = expP p (expP p g b) a := by
  rw [exp_exp h ha, exp_exp h hb, Nat.mul_comm]
theorem sign_num {q d a c : Nat} (hd : d < q) (hc : c < q) : ((d + a * c % q) % q + a * (q - c)) % q = d := by
  have e : a * c + a * (q - c) = a * q := by rw [← Nat.mul_add]; congr 1; omega
  have e2 : (d + a * c % q) % q = (d + a * c) % q := by rw [Nat.add_mod, Nat.mod_mod, ← Nat.add_mod]
  rw [e2, Nat.add_mod, Nat.mod_mod, ← Nat.add_mod, Nat.add_assoc, e, Nat.add_mul_mod_self_right, Nat.mod_eq_of_lt hd]
theorem sign_ck {p q g a : Nat} (B : List Int) (h : fineP p q g = true) (h0 : a ≠ 0) (haq : a < q) (hk : expP p g a ≠ 1) :
    ckB p q g (expP p g a) B (sg0 q (expP p g a) (expP p g (drP q a B)) B) ((drP q a B + a * sg0 q (expP p g a) (expP p g (drP q a B)) B % q) % q) = true := by
  obtain ⟨hp, hq1, _, _, _, hgq⟩ := fine_1 h
  have hc : sg0 q (expP p g a) (expP p g (drP q a B)) B < q := sg0_lt hq1
  have hd : drP q a B < q := drP_lt hq1
  have hck : ckA p q g (expP p g a) B (sg0 q (expP p g a) (expP p g (drP q a B)) B) ((drP q a B + a * sg0 q (expP p g a) (expP p g (drP q a B)) B % q) % q) = true := by
    refine decide_eq_true ?_
    have hr : ∀ c, c < q → expP p g ((drP q a B + a * c % q) % q) * expP p (expP p g a) (q - c) % p = expP p g (drP q a B) := fun c hc => by
      rw [exp_exp h (Nat.le_of_lt haq), expP_fine h, expP_fine h, ← Nat.mul_mod, ← Nat.pow_add, pow_q (q := q) (by rw [hgq, Nat.mod_eq_of_lt hp]), sign_num hd hc]
    rw [hr _ hc]
  unfold ckB
  rw [hck, h, key_in h (Nat.le_of_lt haq), decide_eq_false hk, decide_eq_true hc, decide_eq_true (Nat.mod_lt _ (by omega))]
  rfl
end Go.Proofs.X
end
