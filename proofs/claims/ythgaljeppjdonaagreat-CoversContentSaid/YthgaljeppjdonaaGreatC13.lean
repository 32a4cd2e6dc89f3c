/- A part of the proofs of this claim: BGet4, BGet5, BGet6. No conditions. -/
import Derived.Test.YthgaljeppjdonaaGreatC12
set_option linter.unusedVariables false
set_option linter.unusedSimpArgs false
section
open Go Go.Bx Go.Proofs
namespace Go.Proofs.X
attribute [local irreducible] be gN ckS encL enF up8 chk pk0 pkB mayK
set_option maxRecDepth 100000 in
set_option maxHeartbeats 4000000 in
theorem same1_c (p q : Pc) (hp : p.2.length ≤ 1000000) : Con Tryz.prog 84 [.agg (PR p), .agg (PR q)] [] (.s (.bool (decide (p.1 = q.1) && decide (p.2 = q.2)))) [] := by
 refine con_in 17 Tryz.func84 rfl rfl (m := 0) rfl ?_
 intro E hP hn hE
 refine w_seq ?_
 refine g_reg hP hn ?_
 refine s_op k_bxf ?_
 refine s_op k_bxf ?_
 refine s_op k_as ?_
 refine s_nil trivial ?_
 refine n_wp ?_
 refine w_seq ?_
 refine g_reg hP hn ?_
 refine s_op k_fa ?_
 refine s_op k_ld ?_
 refine s_op k_fa ?_
 refine s_op k_ld ?_
 refine s_op k_eql ?_
 refine s_op k_mv ?_
 refine s_opt rfl rfl (fun hB => by rw [hB]; (try simp only [Bool.or_eq_true, Bool.or_eq_false_iff, Bool.and_eq_true, Bool.not_eq_true', Bool.not_eq_false', decide_eq_true_eq, decide_eq_false_iff_not] at hB); exact k_fa) ?_
 refine s_opt rfl rfl (fun hB => by rw [hB]; (try simp only [Bool.or_eq_true, Bool.or_eq_false_iff, Bool.and_eq_true, Bool.not_eq_true', Bool.not_eq_false', decide_eq_true_eq, decide_eq_false_iff_not] at hB); exact k_ld) ?_
 refine s_opt rfl rfl (fun hB => by rw [hB]; (try simp only [Bool.or_eq_true, Bool.or_eq_false_iff, Bool.and_eq_true, Bool.not_eq_true', Bool.not_eq_false', decide_eq_true_eq, decide_eq_false_iff_not] at hB); exact k_fa) ?_
 refine s_opt rfl rfl (fun hB => by rw [hB]; (try simp only [Bool.or_eq_true, Bool.or_eq_false_iff, Bool.and_eq_true, Bool.not_eq_true', Bool.not_eq_false', decide_eq_true_eq, decide_eq_false_iff_not] at hB); exact k_ld) ?_
 refine s_opt rfl rfl (fun hB => by rw [hB]; (try simp only [Bool.or_eq_true, Bool.or_eq_false_iff, Bool.and_eq_true, Bool.not_eq_true', Bool.not_eq_false', decide_eq_true_eq, decide_eq_false_iff_not] at hB); exact k_call [] (con := sameb_c p.2 q.2 (by omega))) ?_
 refine s_op k_pk ?_
 refine s_op k_as ?_
 refine s_nil trivial ?_
 refine n_wp ?_
 refine w_ret ?_
 exact d_ret hP hn hE [] (by first | exact r_tmp Tryz.results84 | exact r_tmpa Tryz.results84)

set_option maxRecDepth 100000 in
set_option maxHeartbeats 4000000 in
theorem sames_len (L N : List Pc) (hLb : L.length ≤ 1000000) (hbd : ∀ i, i < L.length → (L.getD i p0).2.length ≤ 1000000) (hN : N.length ≤ 1000000) (h : L.length ≠ N.length) : Con Tryz.prog 48 [.s (PARS L), .s (PARS N)] [] (.s (.bool false)) [] := by
 refine con_in 27 Tryz.func48 rfl rfl (m := 0) rfl ?_
 intro E hP hn hE
 refine w_seq ?_
 refine g_reg hP hn ?_
 refine s_op k_as ?_
 refine s_nil trivial ?_
 refine n_wp ?_
 refine w_seq ?_
 refine w_seq ?_
 refine g_reg hP hn ?_
 refine s_op k_mv ?_
 refine s_op k_len ?_
 refine s_op k_mv ?_
 refine s_op k_len ?_
 refine s_op k_neq ?_
 refine s_nil trivial ?_
 refine n_wp ?_
 refine w_T rfl ?_ (by rw [decide_eq_false h]; rfl)
 refine w_seq ?_
 refine g_reg hP hn ?_
 refine s_op k_as ?_
 refine s_nil trivial ?_
 refine n_wp ?_
 refine w_ret ?_
 refine r_thn ?_
 exact d_ret hP hn hE [] (by first | exact r_tmp Tryz.results48 | exact r_tmpa Tryz.results48)

set_option maxRecDepth 100000 in
set_option maxHeartbeats 4000000 in
theorem sames_y (L N : List Pc) (hLb : L.length ≤ 1000000) (hbd : ∀ i, i < L.length → (L.getD i p0).2.length ≤ 1000000) (h : L.length = N.length) (hall : ∀ i, i < L.length → L.getD i p0 = N.getD i p0) : Con Tryz.prog 48 [.s (PARS L), .s (PARS N)] [] (.s (.bool true)) [] := by
 refine con_in 27 Tryz.func48 rfl rfl (m := 0) rfl ?_
 intro E hP hn hE
 refine w_seq ?_
 refine g_reg hP hn ?_
 refine s_op k_as ?_
 refine s_nil trivial ?_
 refine n_wp ?_
 refine w_seq ?_
 refine w_seq ?_
 refine g_reg hP hn ?_
 refine s_op k_mv ?_
 refine s_op k_len ?_
 refine s_op k_mv ?_
 refine s_op k_len ?_
 refine s_op k_neq ?_
 refine s_nil trivial ?_
 refine n_wp ?_
 refine w_F rfl ?_ (by rw [decide_eq_true h]; rfl)
 refine w_skip ?_
 refine n_wp ?_
 refine w_seq ?_
 refine w_seq ?_
 refine g_reg hP hn ?_
 refine s_op k_as ?_
 refine s_nil trivial ?_
 refine n_wp ?_
 refine w_block ?_
 refine c_loop (fun m_ T H => ∃ i, i ≤ L.length ∧ m_ = L.length - i ∧ (∀ k, k < i → L.getD k p0 = N.getD k p0) ∧ T = [(0, .s (PARS L)), (1, .s (PARS N)), (5, .s (.int .i64 ((i : Nat) : Int)))] ∧ H = []) (L.length) ⟨0, by omega, rfl, fun k hk => absurd hk (Nat.not_lt_zero k), rfl, rfl⟩ (wk hE []) ?_
 rintro n_ T_ H_ ⟨i, hi, rfl, hup, rfl, rfl⟩
 refine w_seq ?_
 refine w_seq ?_
 refine g_reg hP hn ?_
 refine s_op k_mv ?_
 refine s_op k_mv ?_
 refine s_op k_len ?_
 refine s_op k_lss ?_
 refine s_nil trivial ?_
 refine n_wp ?_
 refine w_if rfl (fun h_t14 => ?_) (fun h_t14 => ?_)
 · skip
   have hsame := hall i h_t14
   refine w_skip ?_
   refine n_wp ?_
   refine w_seq ?_
   refine w_block ?_
   refine w_seq ?_
   refine g_any hP hn ?_
   refine s_op k_mv ?_
   refine s_op k_mv ?_
   refine s_op k_ix ?_
   refine s_op k_ldP ?_
   refine s_op k_mv ?_
   refine s_op k_mv ?_
   refine s_op k_ix ?_
   refine s_op k_ldP ?_
   refine s_op (k_call [] (con := same1_c (L.getD i p0) (N.getD i p0) (hbd i (by omega)))) ?_
   refine s_op k_not ?_
   refine s_nil (by kernel_rfl) ?_
   refine n_wp ?_
   refine w_F rfl ?_ (by rw [hsame]; simp)
   refine w_skip ?_
   refine n_blo ?_
   refine n_wp ?_
   refine g_reg hP hn ?_
   refine s_op k_mv ?_
   refine s_op k_add ?_
   refine s_op k_as ?_
   refine s_nil trivial ?_
   exact n_round (L.length - (i + 1)) (by omega) ⟨i + 1, by omega, rfl, fun k hk => (Nat.lt_succ_iff_lt_or_eq.1 hk).elim (hup k) (fun e => e ▸ hsame), rfl, rfl⟩ (wk hE [])
 · skip
   refine w_exit ?_
   refine x_thn ?_
   refine x_thn ?_
   refine x_eq ?_
   refine n_wp ?_
   refine w_seq ?_
   refine g_reg hP hn ?_
   refine s_op k_as ?_
   refine s_nil trivial ?_
   refine n_wp ?_
   refine w_ret ?_
   exact d_ret hP hn hE [] (by first | exact r_tmp Tryz.results48 | exact r_tmpa Tryz.results48)

set_option maxRecDepth 100000 in
set_option maxHeartbeats 4000000 in
theorem sames_n (L N : List Pc) (hLb : L.length ≤ 1000000) (hbd : ∀ i, i < L.length → (L.getD i p0).2.length ≤ 1000000) (h : L.length = N.length) (j : Nat) (hj : j < L.length) (hne : L.getD j p0 ≠ N.getD j p0) : Con Tryz.prog 48 [.s (PARS L), .s (PARS N)] [] (.s (.bool false)) [] := by
 refine con_in 27 Tryz.func48 rfl rfl (m := 0) rfl ?_
 intro E hP hn hE
 refine w_seq ?_
 refine g_reg hP hn ?_
 refine s_op k_as ?_
 refine s_nil trivial ?_
 refine n_wp ?_
 refine w_seq ?_
 refine w_seq ?_
 refine g_reg hP hn ?_
 refine s_op k_mv ?_
 refine s_op k_len ?_
 refine s_op k_mv ?_
 refine s_op k_len ?_
 refine s_op k_neq ?_
 refine s_nil trivial ?_
 refine n_wp ?_
 refine w_F rfl ?_ (by rw [decide_eq_true h]; rfl)
 refine w_skip ?_
 refine n_wp ?_
 refine w_seq ?_
 refine w_seq ?_
 refine g_reg hP hn ?_
 refine s_op k_as ?_
 refine s_nil trivial ?_
 refine n_wp ?_
 refine w_block ?_
 refine c_loop (fun m_ T H => ∃ i, i ≤ L.length ∧ m_ = L.length - i ∧ (∀ k, k < i → L.getD k p0 = N.getD k p0) ∧ T = [(0, .s (PARS L)), (1, .s (PARS N)), (5, .s (.int .i64 ((i : Nat) : Int)))] ∧ H = []) (L.length) ⟨0, by omega, rfl, fun k hk => absurd hk (Nat.not_lt_zero k), rfl, rfl⟩ (wk hE []) ?_
 rintro n_ T_ H_ ⟨i, hi, rfl, hup, rfl, rfl⟩
 refine w_seq ?_
 refine w_seq ?_
 refine g_reg hP hn ?_
 refine s_op k_mv ?_
 refine s_op k_mv ?_
 refine s_op k_len ?_
 refine s_op k_lss ?_
 refine s_nil trivial ?_
 refine n_wp ?_
 have hij : i ≤ j := Nat.le_of_not_lt fun h => hne (hup j h)
 have h_t14 : i < L.length := by omega
 refine w_T rfl ?_ (decide_eq_true h_t14)
 refine w_skip ?_
 refine n_wp ?_
 refine w_seq ?_
 refine w_block ?_
 refine w_seq ?_
 refine g_any hP hn ?_
 refine s_op k_mv ?_
 refine s_op k_mv ?_
 refine s_op k_ix ?_
 refine s_op k_ldP ?_
 refine s_op k_mv ?_
 refine s_op k_mv ?_
 refine s_op k_ix ?_
 refine s_op k_ldP ?_
 refine s_op (k_call [] (con := same1_c (L.getD i p0) (N.getD i p0) (hbd i (by omega)))) ?_
 refine s_op k_not ?_
 refine s_nil (by kernel_rfl) ?_
 refine n_wp ?_
 refine w_cond rfl (fun h_t26 => ?_) (fun h_t26 => ?_)
 · skip
   refine w_seq ?_
   refine g_reg hP hn ?_
   refine s_op k_as ?_
   refine s_nil trivial ?_
   refine n_wp ?_
   refine w_ret ?_
   refine r_blo ?_
   refine r_thn ?_
   refine r_thn ?_
   refine r_blo ?_
   refine r_thn ?_
   exact d_ret hP hn hE [] (by first | exact r_tmp Tryz.results48 | exact r_tmpa Tryz.results48)
 · skip
   have hsame : L.getD i p0 = N.getD i p0 := by
    simp only [Bool.not_eq_false', Bool.and_eq_true, decide_eq_true_eq] at h_t26
    exact Prod.ext h_t26.1 h_t26.2
   refine w_skip ?_
   refine n_blo ?_
   refine n_wp ?_
   refine g_reg hP hn ?_
   refine s_op k_mv ?_
   refine s_op k_add ?_
   refine s_op k_as ?_
   refine s_nil trivial ?_
   exact n_round (L.length - (i + 1)) (by omega) ⟨i + 1, by omega, rfl, fun k hk => (Nat.lt_succ_iff_lt_or_eq.1 hk).elim (hup k) (fun e => e ▸ hsame), rfl, rfl⟩ (wk hE [])

theorem sames_c (L N : List Pc) (hLb : L.length ≤ 1000000) (hbd : ∀ i, i < L.length → (L.getD i p0).2.length ≤ 1000000) (hN : N.length ≤ 1000000) : Con Tryz.prog 48 [.s (PARS L), .s (PARS N)] [] (.s (.bool (decide (L = N)))) [] := by
 by_cases h : L.length = N.length
 · by_cases h2 : ∀ i, i < L.length → L.getD i p0 = N.getD i p0
   · have e : L = N := by
       refine List.ext_getElem h fun i h1 h3 => ?_
       have := h2 i h1
       rwa [List.getD_eq_getElem?_getD, List.getD_eq_getElem?_getD, List.getElem?_eq_getElem h1, List.getElem?_eq_getElem h3] at this
     rw [decide_eq_true e]; exact sames_y L N hLb hbd h h2
   · obtain ⟨j, hj⟩ := Classical.not_forall.1 h2
     obtain ⟨hj1, hj2⟩ := Classical.not_imp.1 hj
     rw [decide_eq_false (fun e => hj2 (by rw [e]))]; exact sames_n L N hLb hbd h j hj1 hj2
 · rw [decide_eq_false (fun e => h (by rw [e]))]; exact sames_len L N hLb hbd hN h

set_option maxRecDepth 100000 in
set_option maxHeartbeats 4000000 in
theorem samepk_c (k l : Nat) (A B C D : List Int) (L N : List Pc) (hA : A.length = 16) (hB : B.length = 16) (hC : C.length = 16) (hD : D.length = 16) (hLb : L.length ≤ 1000000) (hbd : ∀ i, i < L.length → (L.getD i p0).2.length ≤ 1000000) (hN : N.length ≤ 1000000) : Con Tryz.prog 14 [.agg (PKT k A B L), .agg (PKT l C D N)] [] (.s (.bool (decide (k = l) && decide (A = C) && decide (B = D) && decide (L = N)))) [] := by
 refine con_in 31 Tryz.func14 rfl rfl (m := 0) rfl ?_
 intro E hP hn hE
 refine w_seq ?_
 refine g_reg hP hn ?_
 refine s_op k_bxf ?_
 refine s_op k_bxf ?_
 refine s_op k_as ?_
 refine s_nil trivial ?_
 refine n_wp ?_
 refine w_seq ?_
 refine g_reg hP hn ?_
 refine s_op k_fa ?_
 refine s_op k_ld ?_
 refine s_op k_fa ?_
 refine s_op k_ld ?_
 refine s_op k_eql ?_
 refine s_op k_mv ?_
 refine s_opt rfl rfl (fun hB => by rw [hB]; (try simp only [Bool.or_eq_true, Bool.or_eq_false_iff, Bool.and_eq_true, Bool.not_eq_true', Bool.not_eq_false', decide_eq_true_eq, decide_eq_false_iff_not] at hB); exact k_fa) ?_
 refine s_opt rfl rfl (fun hB => by rw [hB]; (try simp only [Bool.or_eq_true, Bool.or_eq_false_iff, Bool.and_eq_true, Bool.not_eq_true', Bool.not_eq_false', decide_eq_true_eq, decide_eq_false_iff_not] at hB); exact k_ld) ?_
 refine s_opt rfl rfl (fun hB => by rw [hB]; (try simp only [Bool.or_eq_true, Bool.or_eq_false_iff, Bool.and_eq_true, Bool.not_eq_true', Bool.not_eq_false', decide_eq_true_eq, decide_eq_false_iff_not] at hB); exact k_fa) ?_
 refine s_opt rfl rfl (fun hB => by rw [hB]; (try simp only [Bool.or_eq_true, Bool.or_eq_false_iff, Bool.and_eq_true, Bool.not_eq_true', Bool.not_eq_false', decide_eq_true_eq, decide_eq_false_iff_not] at hB); exact k_ld) ?_
 refine s_opt rfl rfl (fun hB => by rw [hB]; (try simp only [Bool.or_eq_true, Bool.or_eq_false_iff, Bool.and_eq_true, Bool.not_eq_true', Bool.not_eq_false', decide_eq_true_eq, decide_eq_false_iff_not] at hB); exact k_eql) ?_
 refine s_op k_pk ?_
 refine s_op k_mv ?_
 refine s_opt rfl rfl (fun hB => by rw [hB]; (try simp only [Bool.or_eq_true, Bool.or_eq_false_iff, Bool.and_eq_true, Bool.not_eq_true', Bool.not_eq_false', decide_eq_true_eq, decide_eq_false_iff_not] at hB); exact k_fa) ?_
 refine s_opt rfl rfl (fun hB => by rw [hB]; (try simp only [Bool.or_eq_true, Bool.or_eq_false_iff, Bool.and_eq_true, Bool.not_eq_true', Bool.not_eq_false', decide_eq_true_eq, decide_eq_false_iff_not] at hB); exact k_ld) ?_
 refine s_opt rfl rfl (fun hB => by rw [hB]; (try simp only [Bool.or_eq_true, Bool.or_eq_false_iff, Bool.and_eq_true, Bool.not_eq_true', Bool.not_eq_false', decide_eq_true_eq, decide_eq_false_iff_not] at hB); exact k_fa) ?_
 refine s_opt rfl rfl (fun hB => by rw [hB]; (try simp only [Bool.or_eq_true, Bool.or_eq_false_iff, Bool.and_eq_true, Bool.not_eq_true', Bool.not_eq_false', decide_eq_true_eq, decide_eq_false_iff_not] at hB); exact k_ld) ?_
 refine s_opt rfl rfl (fun hB => by rw [hB]; (try simp only [Bool.or_eq_true, Bool.or_eq_false_iff, Bool.and_eq_true, Bool.not_eq_true', Bool.not_eq_false', decide_eq_true_eq, decide_eq_false_iff_not] at hB); exact k_eql) ?_
 refine s_op k_pk ?_
 refine s_op k_mv ?_
 refine s_opt rfl rfl (fun hB => by rw [hB]; (try simp only [Bool.or_eq_true, Bool.or_eq_false_iff, Bool.and_eq_true, Bool.not_eq_true', Bool.not_eq_false', decide_eq_true_eq, decide_eq_false_iff_not] at hB); exact k_fa) ?_
 refine s_opt rfl rfl (fun hB => by rw [hB]; (try simp only [Bool.or_eq_true, Bool.or_eq_false_iff, Bool.and_eq_true, Bool.not_eq_true', Bool.not_eq_false', decide_eq_true_eq, decide_eq_false_iff_not] at hB); exact k_ld) ?_
 refine s_opt rfl rfl (fun hB => by rw [hB]; (try simp only [Bool.or_eq_true, Bool.or_eq_false_iff, Bool.and_eq_true, Bool.not_eq_true', Bool.not_eq_false', decide_eq_true_eq, decide_eq_false_iff_not] at hB); exact k_fa) ?_
 refine s_opt rfl rfl (fun hB => by rw [hB]; (try simp only [Bool.or_eq_true, Bool.or_eq_false_iff, Bool.and_eq_true, Bool.not_eq_true', Bool.not_eq_false', decide_eq_true_eq, decide_eq_false_iff_not] at hB); exact k_ld) ?_
 refine s_opt rfl rfl (fun hB => by rw [hB]; (try simp only [Bool.or_eq_true, Bool.or_eq_false_iff, Bool.and_eq_true, Bool.not_eq_true', Bool.not_eq_false', decide_eq_true_eq, decide_eq_false_iff_not] at hB); exact k_call [] (con := sames_c L N hLb hbd hN)) ?_
 refine s_op k_pk ?_
 refine s_op k_as ?_
 refine s_nil trivial ?_
 refine n_wp ?_
 refine w_ret ?_
 exact d_ret hP hn hE [] (by first | exact r_tmp Tryz.results14 | exact r_tmpa Tryz.results14)

end Go.Proofs.X
end

section
open Go Go.Bx Go.Proofs
namespace Go.Proofs.X
attribute [local irreducible] be gN ckS encL enF up8 chk pk0 pkB mayK
theorem below_s (L : List Pc) (hw : WfL L) : Con Tryz.prog 12 [.s (PARS L), .s (.int .u16 ((61697 : Nat) : Int))] [] (.s (PARS (sgL L))) [] := below_f L 61697 (by have := hw.len; omega) (fun i _ => by have := (hw.get i).2.2; omega)
attribute [local irreducible] sgL
set_option maxRecDepth 100000 in
set_option maxHeartbeats 4000000 in
theorem law_g (k l : Nat) (A B C D : List Int) (L R : List Pc) (x y : Bool) (hx : Con Tryz.prog 5 [.agg (PKT k A B L)] [] (.s (.bool x)) []) (hy : Con Tryz.prog 5 [.agg (PKT l D C R)] [] (.s (.bool y)) []) (h : (((x || y) || decide (k = 2)) || decide (l = 2)) = true) : Con Tryz.prog 4 [.agg (PKT k A B L), .agg (PKT l D C R)] [] (.s (.bool true)) [] := by
 refine con_in 77 Tryz.func4 rfl rfl (m := 0) rfl ?_
 intro E hP hn hE
 refine w_seq ?_
 refine g_reg hP hn ?_
 refine s_op k_bx ?_
 refine s_op k_bx ?_
 refine s_op k_as ?_
 refine s_nil trivial ?_
 refine n_wp ?_
 refine w_seq ?_
 refine w_seq ?_
 refine g_reg hP hn ?_
 refine s_op k_ld ?_
 refine s_op (k_call [] (con := hx)) ?_
 refine s_op k_mv ?_
 refine s_opf rfl rfl (fun hB => by rw [hB]; (try simp only [Bool.or_eq_true, Bool.or_eq_false_iff, Bool.and_eq_true, Bool.not_eq_true', Bool.not_eq_false', decide_eq_true_eq, decide_eq_false_iff_not] at hB); exact k_ld) ?_
 refine s_opf rfl rfl (fun hB => by rw [hB]; (try simp only [Bool.or_eq_true, Bool.or_eq_false_iff, Bool.and_eq_true, Bool.not_eq_true', Bool.not_eq_false', decide_eq_true_eq, decide_eq_false_iff_not] at hB); exact k_call [] (con := hy)) ?_
 refine s_op k_pk ?_
 refine s_op k_mv ?_
 refine s_opf rfl rfl (fun hB => by rw [hB]; (try simp only [Bool.or_eq_true, Bool.or_eq_false_iff, Bool.and_eq_true, Bool.not_eq_true', Bool.not_eq_false', decide_eq_true_eq, decide_eq_false_iff_not] at hB); exact k_fa) ?_
 refine s_opf rfl rfl (fun hB => by rw [hB]; (try simp only [Bool.or_eq_true, Bool.or_eq_false_iff, Bool.and_eq_true, Bool.not_eq_true', Bool.not_eq_false', decide_eq_true_eq, decide_eq_false_iff_not] at hB); exact k_ld) ?_
 refine s_opf rfl rfl (fun hB => by rw [hB]; (try simp only [Bool.or_eq_true, Bool.or_eq_false_iff, Bool.and_eq_true, Bool.not_eq_true', Bool.not_eq_false', decide_eq_true_eq, decide_eq_false_iff_not] at hB); exact k_eql) ?_
 refine s_op k_pk ?_
 refine s_op k_mv ?_
 refine s_opf rfl rfl (fun hB => by rw [hB]; (try simp only [Bool.or_eq_true, Bool.or_eq_false_iff, Bool.and_eq_true, Bool.not_eq_true', Bool.not_eq_false', decide_eq_true_eq, decide_eq_false_iff_not] at hB); exact k_fa) ?_
 refine s_opf rfl rfl (fun hB => by rw [hB]; (try simp only [Bool.or_eq_true, Bool.or_eq_false_iff, Bool.and_eq_true, Bool.not_eq_true', Bool.not_eq_false', decide_eq_true_eq, decide_eq_false_iff_not] at hB); exact k_ld) ?_
 refine s_opf rfl rfl (fun hB => by rw [hB]; (try simp only [Bool.or_eq_true, Bool.or_eq_false_iff, Bool.and_eq_true, Bool.not_eq_true', Bool.not_eq_false', decide_eq_true_eq, decide_eq_false_iff_not] at hB); exact k_eql) ?_
 refine s_op k_pk ?_
 refine s_nil trivial ?_
 refine n_wp ?_
 refine w_T rfl ?_ h
 refine w_seq ?_
 refine g_reg hP hn ?_
 refine s_op (k_call [] (con := alive_c)) ?_
 refine s_op k_as ?_
 refine s_nil trivial ?_
 refine n_wp ?_
 refine w_ret ?_
 refine r_thn ?_
 exact d_ret hP hn hE [] (by first | exact r_tmp Tryz.results4 | exact r_tmpa Tryz.results4)

set_option maxRecDepth 100000 in
set_option maxHeartbeats 4000000 in
theorem law_e (k l : Nat) (A B C D : List Int) (L R : List Pc) (x y : Bool) (hx : Con Tryz.prog 5 [.agg (PKT k A B L)] [] (.s (.bool x)) []) (hy : Con Tryz.prog 5 [.agg (PKT l D C R)] [] (.s (.bool y)) []) (h : (((x || y) || decide (k = 2)) || decide (l = 2)) = false) (c1 c2 : List Int) (e1 e2 : Int) (he : (decide (e1 ≠ 0) || decide (e2 ≠ 0)) = true) (hca : Con Tryz.prog 10 [.agg (PKT k A B L)] [] (.tup [.s (.fzi .u8 c1), .s (.int .i64 e1)]) []) (hcb : Con Tryz.prog 10 [.agg (PKT l D C R)] [] (.tup [.s (.fzi .u8 c2), .s (.int .i64 e2)]) []) : Con Tryz.prog 4 [.agg (PKT k A B L), .agg (PKT l D C R)] [] (.s (.bool true)) [] := by
 refine con_in 77 Tryz.func4 rfl rfl (m := 0) rfl ?_
 intro E hP hn hE
 refine w_seq ?_
 refine g_reg hP hn ?_
 refine s_op k_bx ?_
 refine s_op k_bx ?_
 refine s_op k_as ?_
 refine s_nil trivial ?_
 refine n_wp ?_
 refine w_seq ?_
 refine w_seq ?_
 refine g_reg hP hn ?_
 refine s_op k_ld ?_
 refine s_op (k_call [] (con := hx)) ?_
 refine s_op k_mv ?_
 refine s_opf rfl rfl (fun hB => by rw [hB]; (try simp only [Bool.or_eq_true, Bool.or_eq_false_iff, Bool.and_eq_true, Bool.not_eq_true', Bool.not_eq_false', decide_eq_true_eq, decide_eq_false_iff_not] at hB); exact k_ld) ?_
 refine s_opf rfl rfl (fun hB => by rw [hB]; (try simp only [Bool.or_eq_true, Bool.or_eq_false_iff, Bool.and_eq_true, Bool.not_eq_true', Bool.not_eq_false', decide_eq_true_eq, decide_eq_false_iff_not] at hB); exact k_call [] (con := hy)) ?_
 refine s_op k_pk ?_
 refine s_op k_mv ?_
 refine s_opf rfl rfl (fun hB => by rw [hB]; (try simp only [Bool.or_eq_true, Bool.or_eq_false_iff, Bool.and_eq_true, Bool.not_eq_true', Bool.not_eq_false', decide_eq_true_eq, decide_eq_false_iff_not] at hB); exact k_fa) ?_
 refine s_opf rfl rfl (fun hB => by rw [hB]; (try simp only [Bool.or_eq_true, Bool.or_eq_false_iff, Bool.and_eq_true, Bool.not_eq_true', Bool.not_eq_false', decide_eq_true_eq, decide_eq_false_iff_not] at hB); exact k_ld) ?_
 refine s_opf rfl rfl (fun hB => by rw [hB]; (try simp only [Bool.or_eq_true, Bool.or_eq_false_iff, Bool.and_eq_true, Bool.not_eq_true', Bool.not_eq_false', decide_eq_true_eq, decide_eq_false_iff_not] at hB); exact k_eql) ?_
 refine s_op k_pk ?_
 refine s_op k_mv ?_
 refine s_opf rfl rfl (fun hB => by rw [hB]; (try simp only [Bool.or_eq_true, Bool.or_eq_false_iff, Bool.and_eq_true, Bool.not_eq_true', Bool.not_eq_false', decide_eq_true_eq, decide_eq_false_iff_not] at hB); exact k_fa) ?_
 refine s_opf rfl rfl (fun hB => by rw [hB]; (try simp only [Bool.or_eq_true, Bool.or_eq_false_iff, Bool.and_eq_true, Bool.not_eq_true', Bool.not_eq_false', decide_eq_true_eq, decide_eq_false_iff_not] at hB); exact k_ld) ?_
 refine s_opf rfl rfl (fun hB => by rw [hB]; (try simp only [Bool.or_eq_true, Bool.or_eq_false_iff, Bool.and_eq_true, Bool.not_eq_true', Bool.not_eq_false', decide_eq_true_eq, decide_eq_false_iff_not] at hB); exact k_eql) ?_
 refine s_op k_pk ?_
 refine s_nil trivial ?_
 refine n_wp ?_
 refine w_F rfl ?_ h
 refine w_skip ?_
 refine n_wp ?_
 refine w_seq ?_
 refine g_reg hP hn ?_
 refine s_op k_ld ?_
 refine s_op (k_call [] (con := hca)) ?_
 refine s_op k_mv ?_
 refine s_op k_ex ?_
 refine s_op k_ex ?_
 refine s_op k_as ?_
 refine s_op k_as ?_
 refine s_nil trivial ?_
 refine n_wp ?_
 refine w_seq ?_
 refine g_reg hP hn ?_
 refine s_op k_ld ?_
 refine s_op (k_call [] (con := hcb)) ?_
 refine s_op k_mv ?_
 refine s_op k_ex ?_
 refine s_op k_ex ?_
 refine s_op k_as ?_
 refine s_op k_as ?_
 refine s_nil trivial ?_
 refine n_wp ?_
 refine w_seq ?_
 refine w_seq ?_
 refine g_reg hP hn ?_
 refine s_op k_mv ?_
 refine s_op k_neq ?_
 refine s_op k_mv ?_
 refine s_opf rfl rfl (fun hB => by rw [hB]; (try simp only [Bool.or_eq_true, Bool.or_eq_false_iff, Bool.and_eq_true, Bool.not_eq_true', Bool.not_eq_false', decide_eq_true_eq, decide_eq_false_iff_not] at hB); exact k_mv) ?_
 refine s_opf rfl rfl (fun hB => by rw [hB]; (try simp only [Bool.or_eq_true, Bool.or_eq_false_iff, Bool.and_eq_true, Bool.not_eq_true', Bool.not_eq_false', decide_eq_true_eq, decide_eq_false_iff_not] at hB); exact k_neq) ?_
 refine s_op k_pk ?_
 refine s_nil trivial ?_
 refine n_wp ?_
 refine w_T rfl ?_ he
 refine w_seq ?_
 refine g_reg hP hn ?_
 refine s_op (k_call [] (con := alive_c)) ?_
 refine s_op k_as ?_
 refine s_nil trivial ?_
 refine n_wp ?_
 refine w_ret ?_
 refine r_thn ?_
 exact d_ret hP hn hE [] (by first | exact r_tmp Tryz.results4 | exact r_tmpa Tryz.results4)

set_option maxRecDepth 100000 in
set_option maxHeartbeats 4000000 in
theorem law_y (k l : Nat) (A B C D : List Int) (L R : List Pc) (x y : Bool) (hx : Con Tryz.prog 5 [.agg (PKT k A B L)] [] (.s (.bool x)) []) (hy : Con Tryz.prog 5 [.agg (PKT l D C R)] [] (.s (.bool y)) []) (h : (((x || y) || decide (k = 2)) || decide (l = 2)) = false) (c1 c2 : List Int) (hca : Con Tryz.prog 10 [.agg (PKT k A B L)] [] (.tup [.s (.fzi .u8 c1), .s (.int .i64 0)]) []) (hcb : Con Tryz.prog 10 [.agg (PKT l D C R)] [] (.tup [.s (.fzi .u8 c2), .s (.int .i64 0)]) []) (hw : WfL L) (hw2 : WfL R) (b : Bool) (hg : Con Tryz.prog 13 [.s (.fzi .u8 c1)] [] (.tup [.agg (PKT k A B (sgL L)), .s (.int .i64 0)]) []) (hsb : Con Tryz.prog 11 [.s (.fzi .u8 c1), .s (.fzi .u8 c2)] [] (.s (.bool b)) []) (hsp : Con Tryz.prog 14 [.agg (PKT k A B (sgL L)), .agg (PKT l D C (sgL R))] [] (.s (.bool b)) []) (hsq : Con Tryz.prog 14 [.agg (PKT k A B (sgL L)), .agg (PKT k A B (sgL L))] [] (.s (.bool true)) []) : Con Tryz.prog 4 [.agg (PKT k A B L), .agg (PKT l D C R)] [] (.s (.bool true)) [] := by
 refine con_in 77 Tryz.func4 rfl rfl (m := 0) rfl ?_
 intro E hP hn hE
 refine w_seq ?_
 refine g_reg hP hn ?_
 refine s_op k_bx ?_
 refine s_op k_bx ?_
 refine s_op k_as ?_
 refine s_nil trivial ?_
 refine n_wp ?_
 refine w_seq ?_
 refine w_seq ?_
 refine g_reg hP hn ?_
 refine s_op k_ld ?_
 refine s_op (k_call [] (con := hx)) ?_
 refine s_op k_mv ?_
 refine s_opf rfl rfl (fun hB => by rw [hB]; (try simp only [Bool.or_eq_true, Bool.or_eq_false_iff, Bool.and_eq_true, Bool.not_eq_true', Bool.not_eq_false', decide_eq_true_eq, decide_eq_false_iff_not] at hB); exact k_ld) ?_
 refine s_opf rfl rfl (fun hB => by rw [hB]; (try simp only [Bool.or_eq_true, Bool.or_eq_false_iff, Bool.and_eq_true, Bool.not_eq_true', Bool.not_eq_false', decide_eq_true_eq, decide_eq_false_iff_not] at hB); exact k_call [] (con := hy)) ?_
 refine s_op k_pk ?_
 refine s_op k_mv ?_
 refine s_opf rfl rfl (fun hB => by rw [hB]; (try simp only [Bool.or_eq_true, Bool.or_eq_false_iff, Bool.and_eq_true, Bool.not_eq_true', Bool.not_eq_false', decide_eq_true_eq, decide_eq_false_iff_not] at hB); exact k_fa) ?_
 refine s_opf rfl rfl (fun hB => by rw [hB]; (try simp only [Bool.or_eq_true, Bool.or_eq_false_iff, Bool.and_eq_true, Bool.not_eq_true', Bool.not_eq_false', decide_eq_true_eq, decide_eq_false_iff_not] at hB); exact k_ld) ?_
 refine s_opf rfl rfl (fun hB => by rw [hB]; (try simp only [Bool.or_eq_true, Bool.or_eq_false_iff, Bool.and_eq_true, Bool.not_eq_true', Bool.not_eq_false', decide_eq_true_eq, decide_eq_false_iff_not] at hB); exact k_eql) ?_
 refine s_op k_pk ?_
 refine s_op k_mv ?_
 refine s_opf rfl rfl (fun hB => by rw [hB]; (try simp only [Bool.or_eq_true, Bool.or_eq_false_iff, Bool.and_eq_true, Bool.not_eq_true', Bool.not_eq_false', decide_eq_true_eq, decide_eq_false_iff_not] at hB); exact k_fa) ?_
 refine s_opf rfl rfl (fun hB => by rw [hB]; (try simp only [Bool.or_eq_true, Bool.or_eq_false_iff, Bool.and_eq_true, Bool.not_eq_true', Bool.not_eq_false', decide_eq_true_eq, decide_eq_false_iff_not] at hB); exact k_ld) ?_
 refine s_opf rfl rfl (fun hB => by rw [hB]; (try simp only [Bool.or_eq_true, Bool.or_eq_false_iff, Bool.and_eq_true, Bool.not_eq_true', Bool.not_eq_false', decide_eq_true_eq, decide_eq_false_iff_not] at hB); exact k_eql) ?_
 refine s_op k_pk ?_
 refine s_nil trivial ?_
 refine n_wp ?_
 refine w_F rfl ?_ h
 refine w_skip ?_
 refine n_wp ?_
 refine w_seq ?_
 refine g_reg hP hn ?_
 refine s_op k_ld ?_
 refine s_op (k_call [] (con := hca)) ?_
 refine s_op k_mv ?_
 refine s_op k_ex ?_
 refine s_op k_ex ?_
 refine s_op k_as ?_
 refine s_op k_as ?_
 refine s_nil trivial ?_
 refine n_wp ?_
 refine w_seq ?_
 refine g_reg hP hn ?_
 refine s_op k_ld ?_
 refine s_op (k_call [] (con := hcb)) ?_
 refine s_op k_mv ?_
 refine s_op k_ex ?_
 refine s_op k_ex ?_
 refine s_op k_as ?_
 refine s_op k_as ?_
 refine s_nil trivial ?_
 refine n_wp ?_
 refine w_seq ?_
 refine w_seq ?_
 refine g_reg hP hn ?_
 refine s_op k_mv ?_
 refine s_op (l_bin rfl rfl (b_neq (r := false) (decide_eq_false (fun h => h rfl)))) ?_
 refine s_op k_mv ?_
 refine s_on rfl rfl rfl k_mv ?_
 refine s_on rfl rfl rfl (l_bin rfl rfl (b_neq (r := false) (decide_eq_false (fun h => h rfl)))) ?_
 refine s_op k_pk ?_
 refine s_nil trivial ?_
 refine n_wp ?_
 refine w_F rfl ?_ 
 refine w_skip ?_
 refine n_wp ?_
 refine w_seq ?_
 refine g_reg hP hn ?_
 refine s_op k_fa ?_
 refine s_op k_ld ?_
 refine s_op (k_call [] (con := below_s L hw)) ?_
 refine s_op k_fa ?_
 refine s_st k_st ?_
 refine s_nil trivial ?_
 refine n_wp ?_
 refine w_seq ?_
 refine g_reg hP hn ?_
 refine s_op k_fa ?_
 refine s_op k_ld ?_
 refine s_op (k_call [] (con := below_s R hw2)) ?_
 refine s_op k_fa ?_
 refine s_st k_st ?_
 refine s_nil trivial ?_
 refine n_wp ?_
 refine w_seq ?_
 refine g_reg hP hn ?_
 refine s_op k_mv ?_
 refine s_op (k_call [] (con := hg)) ?_
 refine s_op k_mv ?_
 refine s_op k_ex ?_
 refine s_op k_ex ?_
 refine s_op k_al ?_
 refine s_st k_st ?_
 refine s_op k_as ?_
 refine s_nil trivial ?_
 refine n_wp ?_
 refine w_seq ?_
 refine g_any hP hn ?_
 refine s_op (k_call [] (con := alive_c)) ?_
 refine s_op k_mv ?_
 refine s_on rfl rfl rfl k_mv ?_
 refine s_on rfl rfl rfl k_mv ?_
 refine s_on rfl rfl rfl (k_call [] (con := hsb)) ?_
 refine s_on rfl rfl rfl k_ld ?_
 refine s_on rfl rfl rfl k_ld ?_
 refine s_on rfl rfl rfl (k_call [] (con := hsp)) ?_
 refine s_on rfl rfl rfl k_eqbb ?_
 refine s_op k_pk ?_
 refine s_op k_mv ?_
 refine s_on rfl rfl rfl k_mv ?_
 refine s_on rfl rfl rfl (l_bin rfl rfl (b_eql (r := true) (decide_eq_true rfl))) ?_
 refine s_op k_pk ?_
 refine s_op k_mv ?_
 refine s_on rfl rfl rfl k_ld ?_
 refine s_on rfl rfl rfl k_ld ?_
 refine s_on rfl rfl rfl (k_call [] (con := hsq)) ?_
 refine s_op k_pk ?_
 refine s_op k_as ?_
 refine s_nil (by kernel_rfl) ?_
 refine n_wp ?_
 refine w_ret ?_
 exact d_ret hP hn hE [] (by first | exact r_tmp Tryz.results4 | exact r_tmpa Tryz.results4)

end Go.Proofs.X
end

section
open Go Go.Bx Go.Proofs
namespace Go.Proofs.X
theorem encL_inj : ∀ (M N : List Pc), (∀ p ∈ M, p.1 < 65536 ∧ p.2.length < 65536) → (∀ p ∈ N, p.1 < 65536 ∧ p.2.length < 65536) → encL M = encL N → M = N
  | [], [], _, _, _ => rfl
  | [], q :: r, _, _, h => by
    rw [encL_cons] at h
    have := congrArg List.length h
    rw [List.length_append, encP_len] at this
    have h1 := (up8_le (4 + q.2.length)).1
    have h2 : (encL []).length = 0 := rfl
    omega
  | p :: r, [], _, _, h => by
    rw [encL_cons] at h
    have := congrArg List.length h
    rw [List.length_append, encP_len] at this
    have h1 := (up8_le (4 + p.2.length)).1
    have h2 : (encL []).length = 0 := rfl
    omega
  | p :: r, q :: s, hM, hN, h => by
    rw [encL_cons, encL_cons] at h
    have hp := hM p (by simp)
    have hq := hN q (by simp)
    have a := rdP p (encL r) hp.1 hp.2
    have b := rdP q (encL s) hq.1 hq.2
    rw [h] at a
    have e1 : p.1 = q.1 := a.ty.symm.trans b.ty
    have e2 : p.2.length = q.2.length := a.sz.symm.trans b.sz
    have e3 : p.2 = q.2 := by rw [← a.by_, ← b.by_, e2]
    have e4 : encL r = encL s := a.re.symm.trans (by rw [e2]; exact b.re)
    rw [encL_inj r s (fun x hx => hM x (by simp [hx])) (fun x hx => hN x (by simp [hx])) e4, Prod.ext e1 e3]
theorem okP.small {k : Nat} {M : List Pc} (hw : WfL M) (ok : okP k M) : ∀ p ∈ M, p.1 < 65536 ∧ p.2.length < 65536 := fun p hp => by
  obtain ⟨i, hi, e⟩ := List.mem_iff_getElem.1 hp
  have h1 := ok.bd i hi
  have e2 : M.getD i p0 = p := by rw [List.getD_eq_getElem?_getD, List.getElem?_eq_getElem hi]; exact e
  rw [e2] at h1
  exact ⟨(hw.all p hp).1, by omega⟩
theorem pkB_dec {k l : Nat} {A B C D : List Int} {M N : List Pc} (f1 : PkF (pkB k A B (encL M)) (pk0 k A B (encL M)) k A B (encL M)) (f2 : PkF (pkB l C D (encL N)) (pk0 l C D (encL N)) l C D (encL N)) (hM : ∀ p ∈ M, p.1 < 65536 ∧ p.2.length < 65536) (hN : ∀ p ∈ N, p.1 < 65536 ∧ p.2.length < 65536) :
    decide (pkB k A B (encL M) = pkB l C D (encL N)) = (decide (k = l) && decide (A = C) && decide (B = D) && decide (M = N)) := by
  by_cases h : pkB k A B (encL M) = pkB l C D (encL N)
  · rw [decide_eq_true h]
    have e1 : k = l := by
      have := f1.b1
      rw [h, f2.b1] at this
      omega
    have e2 : A = C := by rw [← f1.fr, ← f2.fr, h]
    have e3 : B = D := by rw [← f1.to, ← f2.to, h]
    have e4 : M = N := encL_inj M N hM hN (by rw [← f1.re, ← f2.re, h])
    rw [decide_eq_true e1, decide_eq_true e2, decide_eq_true e3, decide_eq_true e4]; rfl
  · rw [decide_eq_false h]
    symm
    simp only [Bool.and_eq_false_iff, decide_eq_false_iff_not]
    refine Classical.byContradiction fun hn => h ?_
    simp only [not_or, Classical.not_not] at hn
    obtain ⟨⟨⟨rfl, rfl⟩, rfl⟩, rfl⟩ := hn
    rfl
theorem wf_of (L : List Pc) (hLp : ∀ r ∈ L, r.1 < 65536 ∧ U8' r.2 ∧ r.2.length ≤ mxB) (i0 : Nat) (hstop : i0 = L.length ∨ 1048576 < szA L i0) (hG : ¬ 6000 < 1 + szA L i0) : WfL L := by
  have hi : i0 = L.length := hstop.resolve_right (by omega)
  subst hi
  have hsz := szA_le L L.length
  exact ⟨by omega, fun r hr => by
    obtain ⟨i, hi, e⟩ := List.mem_iff_getElem.1 hr
    have h1 := hsz.2 i hi
    have e2 : L.getD i p0 = r := by rw [List.getD_eq_getElem?_getD, List.getElem?_eq_getElem hi]; exact e
    rw [e2] at h1
    exact ⟨(hLp r hr).1, (hLp r hr).2.1, by omega⟩⟩
theorem bd_of (L : List Pc) (hLp : ∀ r ∈ L, r.1 < 65536 ∧ U8' r.2 ∧ r.2.length ≤ mxB) (i : Nat) : (L.getD i p0).2.length ≤ 140737488355328 := by
  have hmx : mxB = 140737488351232 := rfl
  rcases Nat.lt_or_ge i L.length with h | h
  · have := (hLp _ (getD_mem h)).2.2; omega
  · rw [getD_out h]; decide
theorem content_c (k : Nat) (A B : List Int) (L : List Pc) (l : Nat) (D C : List Int) (R : List Pc) (hk : k < 256) (hA : A.length = 16) (hB : B.length = 16) (hUA : U8' A) (hUB : U8' B) (hLm : L.length ≤ mxB) (hLp : ∀ r ∈ L, r.1 < 65536 ∧ U8' r.2 ∧ r.2.length ≤ mxB) (hl : l < 256) (hD : D.length = 16) (hC : C.length = 16) (hUD : U8' D) (hUC : U8' C) (hRm : R.length ≤ mxB) (hRp : ∀ r ∈ R, r.1 < 65536 ∧ U8' r.2 ∧ r.2.length ≤ mxB) : Con Tryz.prog 4 [.agg (PKT k A B L), .agg (PKT l D C R)] [] (.s (.bool true)) [] := by
 have hmx : mxB = 140737488351232 := rfl
 obtain ⟨i0, hi0, hstop, hgo⟩ := sz_ex L 1048576
 obtain ⟨j0, hj0, hstop2, hgo2⟩ := sz_ex R 1048576
 have hgr := great_c k A B L (by omega) (bd_of L hLp) i0 hi0 hstop hgo
 have hgr2 := great_c l D C R (by omega) (bd_of R hRp) j0 hj0 hstop2 hgo2
 by_cases h : (((decide (6000 < 1 + szA L i0) || decide (6000 < 1 + szA R j0)) || decide (k = 2)) || decide (l = 2)) = true
 · exact law_g k l A B C D L R _ _ hgr hgr2 h
 rw [Bool.not_eq_true] at h
 have h' := h
 simp only [Bool.or_eq_false_iff, decide_eq_false_iff_not] at h'
 obtain ⟨⟨⟨hG1, hG2⟩, hk2⟩, hl2⟩ := h'
 have hw := wf_of L hLp i0 hstop hG1
 have hw2 := wf_of R hRp j0 hstop2 hG2
 have hne : ∀ e : Int, e ≠ 0 → decide (e ≠ 0) = true := fun e he => decide_eq_true he
 by_cases ok1 : okP k (sgK k L)
 · have hc1 := cont_ok k A B L hw ok1 hk hA hB hUA hUB
   by_cases ok2 : okP l (sgK l R)
   · have hc2 := cont_ok l D C R hw2 ok2 hl hD hC hUD hUC
     have e1 : sgK k L = sgL L := if_neg hk2
     have e2 : sgK l R = sgL R := if_neg hl2
     have e3 : sgT k B = B := if_neg hk2
     have e4 : sgT l C = C := if_neg hl2
     rw [e1] at hc1 ok1
     rw [e2] at hc2 ok2
     rw [e3] at hc1
     rw [e4] at hc2
     have t1 := ok1.tot
     have t2 := ok2.tot
     have f1 := pkF hk hA hB hUA hUB (U8'_encL fun p hp => (hw.sgL.all p hp).2.1) (E := encL (sgL L)) (by omega)
     have f2 := pkF hl hD hC hUD hUC (U8'_encL fun p hp => (hw2.sgL.all p hp).2.1) (E := encL (sgL R)) (by omega)
     have hg := kget_y _ _ k A B _ f1 (by omega) ok1.kind (sgL L) (pget_y k (sgL L) hw.sgL ok1)
     have n1 := ok1.n
     have n2 := ok2.n
     have hsp := samepk_c k l A B D C (sgL L) (sgL R) hA hB hD hC (by omega) (fun i hi => by have := ok1.bd i hi; omega) (by omega)
     have hsq := samepk_c k k A B A B (sgL L) (sgL L) hA hB hA hB (by omega) (fun i hi => by have := ok1.bd i hi; omega) (by omega)
     rw [decide_eq_true rfl, decide_eq_true rfl, decide_eq_true rfl, decide_eq_true rfl] at hsq
     have hsb := sameb_c (pkB k A B (encL (sgL L))) (pkB l D C (encL (sgL R))) (by rw [f1.len]; omega)
     rw [pkB_dec f1 f2 (ok1.small hw.sgL) (ok2.small hw2.sgL)] at hsb
     exact law_y k l A B C D L R _ _ hgr hgr2 h _ _ hc1 hc2 hw hw2 _ hg hsb hsp hsq
   · obtain ⟨e, he, hc2⟩ := cont_no l D C R hw2 ok2 hD
     exact law_e k l A B C D L R _ _ hgr hgr2 h _ [] 0 e (by rw [hne e he, Bool.or_true]) hc1 (con_nilz hc2)
 · obtain ⟨e, he, hc1⟩ := cont_no k A B L hw ok1 hA
   by_cases ok2 : okP l (sgK l R)
   · exact law_e k l A B C D L R _ _ hgr hgr2 h [] _ e 0 (by rw [hne e he, Bool.true_or]) (con_nilz hc1) (cont_ok l D C R hw2 ok2 hl hD hC hUD hUC)
   · obtain ⟨e', he', hc2⟩ := cont_no l D C R hw2 ok2 hD
     exact law_e k l A B C D L R _ _ hgr hgr2 h [] [] e e' (by rw [hne e he, Bool.true_or]) (con_nilz hc1) (con_nilz hc2)

end Go.Proofs.X
end
