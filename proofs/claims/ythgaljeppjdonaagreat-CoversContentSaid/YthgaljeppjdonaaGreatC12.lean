/- A part of the proofs of this claim: BCov4, BCovQ, BCov5, BCovR, BCov6, BThT, BTh1, BTh2, BTh3, Bx42, BLft, BTh4, Bx43, BGetT, BGetS, BGet1, BGet2, BGet3. No conditions. -/
import Derived.Test.YthgaljeppjdonaaGreatC11
import Derived.Test.YthgaljeppjdonaaGreatC10
import Derived.Test.YthgaljeppjdonaaGreatC5
import Derived.ScopeJumps
import Derived.Test.YthgaljeppjdonaaGreatC8
set_option linter.unusedVariables false
set_option linter.unusedSimpArgs false
section
open Go Go.Bx Go.Proofs
namespace Go.Proofs.X
attribute [local irreducible] be gN ckS encL chk pk0 pkB macS wd sg0 drP asB expP szA
set_option maxRecDepth 100000 in
set_option maxHeartbeats 4000000 in
theorem same_c (A B : List Int) (h : A.length = B.length) (hA : A.length ≤ 140737488355000) : Con Tryz.prog 92 [.s (.fzi .u8 A), .s (.fzi .u8 B)] [] (.s (.bool (decide (mo A B A.length = 0)))) [] := by
 refine con_in 31 Tryz.func92 rfl rfl (m := 0) rfl ?_
 intro E hP hn hE
 refine w_seq ?_
 refine g_reg hP hn ?_
 refine s_op k_as ?_
 refine s_nil trivial ?_
 refine n_wp ?_
 refine w_seq ?_
 refine w_seq ?_
 refine g_reg hP hn ?_
 refine s_op k_mv ?_
 refine s_op k_len ?_
 refine s_op k_mv ?_
 refine s_op k_len ?_
 refine s_op k_neq ?_
 refine s_nil trivial ?_
 refine n_wp ?_
 refine w_F rfl ?_ (by rw [h]; simp)
 refine w_skip ?_
 refine n_wp ?_
 refine w_seq ?_
 refine g_reg hP hn ?_
 refine s_op k_as ?_
 refine s_nil trivial ?_
 refine n_wp ?_
 refine w_seq ?_
 refine w_seq ?_
 refine g_reg hP hn ?_
 refine s_op k_mv ?_
 refine s_op k_len ?_
 refine s_op k_mv ?_
 refine s_nil trivial ?_
 refine n_wp ?_
 refine w_block ?_
 refine c_loop (fun m T H => ∃ i, i ≤ A.length ∧ m = A.length - i ∧ T = [(0, .s (.fzi .u8 A)), (1, .s (.fzi .u8 B)), (5, .s (.int .u8 (mo A B i))), (13, .s (.int .i64 ((A.length : Nat) : Int))), (14, .s (.int .i64 ((i : Nat) : Int)))] ∧ H = []) (A.length) ⟨0, by omega, rfl, rfl, rfl⟩ (wk hE []) ?_
 rintro n_ T_ H_ ⟨i, hi, rfl, rfl, rfl⟩
 refine w_seq ?_
 refine g_reg hP hn ?_
 refine s_op k_lss ?_
 refine s_nil trivial ?_
 refine n_wp ?_
 refine w_seq ?_
 refine w_if rfl (fun h_t15 => ?_) (fun h_t15 => ?_)
 · skip
   refine w_skip ?_
   refine n_wp ?_
   refine w_seq ?_
   refine w_block ?_
   refine w_seq ?_
   refine g_reg hP hn ?_
   refine s_op k_mv ?_
   refine s_op k_as ?_
   refine s_nil trivial ?_
   refine n_wp ?_
   refine g_any hP hn ?_
   refine s_op k_mv ?_
   refine s_op k_mv ?_
   refine s_op k_mv ?_
   refine s_op k_ix ?_
   refine s_op k_ld ?_
   refine s_op k_mv ?_
   refine s_op k_mv ?_
   refine s_op k_ix ?_
   refine s_op k_ld ?_
   refine s_op k_xor ?_
   refine s_op k_or ?_
   refine s_op k_as ?_
   refine s_nil (by kernel_rfl) ?_
   refine n_blo ?_
   refine n_wp ?_
   refine g_reg hP hn ?_
   refine s_op k_add ?_
   refine s_op k_mv ?_
   refine s_nil trivial ?_
   exact n_round (A.length - (i + 1)) (by omega) ⟨i + 1, by omega, rfl, rfl, rfl⟩ (wk hE [])
 · skip
   have hi : i = A.length := by omega
   rw [hi]
   refine w_exit ?_
   refine x_thn ?_
   refine x_thn ?_
   refine x_eq ?_
   refine n_wp ?_
   refine w_seq ?_
   refine g_reg hP hn ?_
   refine s_op k_mv ?_
   refine s_op k_eql ?_
   refine s_op k_as ?_
   refine s_nil trivial ?_
   refine n_wp ?_
   refine w_ret ?_
   exact d_ret hP hn hE [] (by first | exact r_tmp Tryz.results92 | exact r_tmpa Tryz.results92)

theorem same_ok (A B : List Int) (h : A = B) (hA : A.length ≤ 140737488355000) : Con Tryz.prog 92 [.s (.fzi .u8 A), .s (.fzi .u8 B)] [] (.s (.bool true)) [] := by
 subst h
 have h := same_c A A rfl hA
 rwa [show decide (mo A A A.length = 0) = true from decide_eq_true (mo_self A _)] at h

set_option maxRecDepth 100000 in
set_option maxHeartbeats 4000000 in
theorem bsz_c (B : List Int) : Con Tryz.prog 110 [.s (.fzi .u8 B)] [] (.s (.int .i64 ((B.length : Nat) : Int))) [] := by
 refine con_in 5 Tryz.func110 rfl rfl (m := 0) rfl ?_
 intro E hP hn hE
 refine w_seq ?_
 refine g_reg hP hn ?_
 refine s_op k_as ?_
 refine s_nil trivial ?_
 refine n_wp ?_
 refine w_seq ?_
 refine g_reg hP hn ?_
 refine s_op k_mv ?_
 refine s_op k_len ?_
 refine s_op k_as ?_
 refine s_nil trivial ?_
 refine n_wp ?_
 refine w_ret ?_
 exact d_ret hP hn hE [] (by first | exact r_tmp Tryz.results110 | exact r_tmpa Tryz.results110)

set_option maxRecDepth 100000 in
set_option maxHeartbeats 4000000 in
theorem psz1_c (p : Pc) (hB : p.2.length ≤ 140737488355328) : Con Tryz.prog 85 [.agg (PR p)] [] (.s (.int .i64 (((1 + p.2.length) : Nat) : Int))) [] := by
 refine con_in 12 Tryz.func85 rfl rfl (m := 0) rfl ?_
 intro E hP hn hE
 refine w_seq ?_
 refine g_reg hP hn ?_
 refine s_op k_bxf ?_
 refine s_op k_as ?_
 refine s_nil trivial ?_
 refine n_wp ?_
 refine w_seq ?_
 refine g_reg hP hn ?_
 refine s_op k_as ?_
 refine s_nil trivial ?_
 refine n_wp ?_
 refine w_seq ?_
 refine w_seq ?_
 refine g_reg hP hn ?_
 refine s_op k_mv ?_
 refine s_op k_leq ?_
 refine s_nil trivial ?_
 refine n_wp ?_
 refine w_T rfl ?_ (by decide)
 refine g_reg hP hn ?_
 refine s_op k_mv ?_
 refine s_op k_fa ?_
 refine s_op k_ld ?_
 refine s_op (k_call [] (con := bsz_c p.2)) ?_
 refine s_op k_add ?_
 refine s_op k_as ?_
 refine s_nil trivial ?_
 refine n_wp ?_
 refine w_seq ?_
 refine g_reg hP hn ?_
 refine s_op k_mv ?_
 refine s_op k_as ?_
 refine s_nil trivial ?_
 refine n_wp ?_
 refine w_ret ?_
 exact d_ret hP hn hE [] (by first | exact r_tmp Tryz.results85 | exact r_tmpa Tryz.results85)

set_option maxRecDepth 100000 in
set_option maxHeartbeats 4000000 in
theorem psz_c (L : List Pc) (hLb : L.length ≤ 140737488355328) (hbd : ∀ k, (L.getD k p0).2.length ≤ 140737488355328) (i0 : Nat) (hi0 : i0 ≤ L.length) (hstop : i0 = L.length ∨ 1048576 < szA L i0) (hgo : ∀ k, k < i0 → szA L k ≤ 1048576)  : Con Tryz.prog 49 [.s (PARS L)] [] (.s (.int .i64 ((szA L i0 : Nat) : Int))) [] := by
 refine con_in 25 Tryz.func49 rfl rfl (m := 0) rfl ?_
 intro E hP hn hE
 refine w_seq ?_
 refine g_reg hP hn ?_
 refine s_op k_as ?_
 refine s_nil trivial ?_
 refine n_wp ?_
 refine w_seq ?_
 refine g_reg hP hn ?_
 refine s_op k_mv ?_
 refine s_op k_len ?_
 refine s_op k_as ?_
 refine s_nil trivial ?_
 refine n_wp ?_
 refine w_seq ?_
 refine w_seq ?_
 refine g_reg hP hn ?_
 refine s_op k_as ?_
 refine s_nil trivial ?_
 refine n_wp ?_
 refine w_block ?_
 refine c_loop (fun m_ T H => ∃ i, i ≤ i0 ∧ m_ = i0 - i ∧ T = [(0, .s (PARS L)), (3, .s (.int .i64 ((szA L i : Nat) : Int))), (4, .s (.int .i64 ((i : Nat) : Int)))] ∧ H = []) (i0) ⟨0, by omega, rfl, by rw [szA_0], rfl⟩ (wk hE []) ?_
 rintro n_ T_ H_ ⟨i, hi, rfl, rfl, rfl⟩
 refine w_seq ?_
 refine w_seq ?_
 refine g_reg hP hn ?_
 refine s_op k_mv ?_
 refine s_op k_mv ?_
 refine s_op k_len ?_
 refine s_op k_lss ?_
 refine s_op k_mv ?_
 refine s_opt rfl rfl (fun hB => by rw [hB]; (try simp only [Bool.or_eq_true, Bool.or_eq_false_iff, Bool.and_eq_true, Bool.not_eq_true', Bool.not_eq_false', decide_eq_true_eq, decide_eq_false_iff_not] at hB); exact k_mv) ?_
 refine s_opt rfl rfl (fun hB => by rw [hB]; (try simp only [Bool.or_eq_true, Bool.or_eq_false_iff, Bool.and_eq_true, Bool.not_eq_true', Bool.not_eq_false', decide_eq_true_eq, decide_eq_false_iff_not] at hB); exact (l_bin rfl rfl (b_leq (r := decide (szA L i ≤ 1048576)) (decide_eq_decide.2 (by omega))))) ?_
 refine s_op k_pk ?_
 refine s_nil trivial ?_
 refine n_wp ?_
 refine w_cond rfl (fun h_t14 => ?_) (fun h_t14 => ?_)
 · skip
   simp only [Bool.and_eq_true, decide_eq_true_eq] at h_t14
   have hib := hbd i
   have hlt : i < i0 := by
    rcases Nat.lt_or_ge i i0 with h | h
    · exact h
    · obtain rfl : i = i0 := Nat.le_antisymm hi h
      omega
   refine w_skip ?_
   refine n_wp ?_
   refine w_seq ?_
   refine w_block ?_
   refine g_reg hP hn ?_
   refine s_op k_mv ?_
   refine s_op k_mv ?_
   refine s_op k_mv ?_
   refine s_op k_ix ?_
   refine s_op k_ldP ?_
   refine s_op (k_call [] (con := psz1_c (L.getD i p0) (hbd i))) ?_
   refine s_op k_add ?_
   refine s_op k_as ?_
   refine s_nil trivial ?_
   refine n_blo ?_
   refine n_wp ?_
   refine g_reg hP hn ?_
   refine s_op k_mv ?_
   refine s_op k_add ?_
   refine s_op k_as ?_
   refine s_nil trivial ?_
   exact n_round (i0 - (i + 1)) (by omega) ⟨i + 1, by omega, rfl, by rw [← szA_s], rfl⟩ (wk hE [])
 · skip
   simp only [Bool.and_eq_false_iff, decide_eq_false_iff_not] at h_t14
   obtain rfl : i = i0 := by
    rcases Nat.lt_or_ge i i0 with h | h
    · have := hgo i h
      omega
    · exact Nat.le_antisymm hi h
   refine w_exit ?_
   refine x_thn ?_
   refine x_thn ?_
   refine x_eq ?_
   refine n_wp ?_
   refine w_seq ?_
   refine g_reg hP hn ?_
   refine s_op k_mv ?_
   refine s_op k_as ?_
   refine s_nil trivial ?_
   refine n_wp ?_
   refine w_ret ?_
   exact d_ret hP hn hE [] (by first | exact r_tmp Tryz.results49 | exact r_tmpa Tryz.results49)

theorem sz_bd (L : List Pc) (hLb : L.length ≤ 140737488355328) (hbd : ∀ k, (L.getD k p0).2.length ≤ 140737488355328) (i0 : Nat) (hi0 : i0 ≤ L.length) (hstop : i0 = L.length ∨ 1048576 < szA L i0) (hgo : ∀ k, k < i0 → szA L k ≤ 1048576) : szA L i0 ≤ 1000000000000000 := by
 cases i0 with
 | zero => rw [szA_0]; omega
 | succ i => have := hgo i (Nat.lt_succ_self i); have := hbd i; rw [← szA_s]; omega

set_option maxRecDepth 100000 in
set_option maxHeartbeats 4000000 in
theorem pksz_c (k : Nat) (A B : List Int) (L : List Pc) (hLb : L.length ≤ 140737488355328) (hbd : ∀ k, (L.getD k p0).2.length ≤ 140737488355328) (i0 : Nat) (hi0 : i0 ≤ L.length) (hstop : i0 = L.length ∨ 1048576 < szA L i0) (hgo : ∀ k, k < i0 → szA L k ≤ 1048576)  : Con Tryz.prog 15 [.agg (PKT k A B L)] [] (.s (.int .i64 (((1 + szA L i0) : Nat) : Int))) [] := by
 refine con_in 12 Tryz.func15 rfl rfl (m := 0) rfl ?_
 intro E hP hn hE
 have hsb := sz_bd L hLb hbd i0 hi0 hstop hgo
 refine w_seq ?_
 refine g_reg hP hn ?_
 refine s_op k_bxf ?_
 refine s_op k_as ?_
 refine s_nil trivial ?_
 refine n_wp ?_
 refine w_seq ?_
 refine g_reg hP hn ?_
 refine s_op k_as ?_
 refine s_nil trivial ?_
 refine n_wp ?_
 refine w_seq ?_
 refine w_seq ?_
 refine g_reg hP hn ?_
 refine s_op k_mv ?_
 refine s_op k_leq ?_
 refine s_nil trivial ?_
 refine n_wp ?_
 refine w_T rfl ?_ (by decide)
 refine g_reg hP hn ?_
 refine s_op k_mv ?_
 refine s_op k_fa ?_
 refine s_op k_ld ?_
 refine s_op (k_call [] (con := psz_c L hLb hbd i0 hi0 hstop hgo)) ?_
 refine s_op k_add ?_
 refine s_op k_as ?_
 refine s_nil trivial ?_
 refine n_wp ?_
 refine w_seq ?_
 refine g_reg hP hn ?_
 refine s_op k_mv ?_
 refine s_op k_as ?_
 refine s_nil trivial ?_
 refine n_wp ?_
 refine w_ret ?_
 exact d_ret hP hn hE [] (by first | exact r_tmp Tryz.results15 | exact r_tmpa Tryz.results15)

set_option maxRecDepth 100000 in
set_option maxHeartbeats 4000000 in
theorem great_c (k : Nat) (A B : List Int) (L : List Pc) (hLb : L.length ≤ 140737488355328) (hbd : ∀ k, (L.getD k p0).2.length ≤ 140737488355328) (i0 : Nat) (hi0 : i0 ≤ L.length) (hstop : i0 = L.length ∨ 1048576 < szA L i0) (hgo : ∀ k, k < i0 → szA L k ≤ 1048576)  : Con Tryz.prog 5 [.agg (PKT k A B L)] [] (.s (.bool (decide (6000 < 1 + szA L i0)))) [] := by
 refine con_in 6 Tryz.func5 rfl rfl (m := 0) rfl ?_
 intro E hP hn hE
 refine w_seq ?_
 refine g_reg hP hn ?_
 refine s_op k_bxf ?_
 refine s_op k_as ?_
 refine s_nil trivial ?_
 refine n_wp ?_
 refine w_seq ?_
 refine g_reg hP hn ?_
 refine s_op k_ld ?_
 refine s_op (k_call [] (con := pksz_c k A B L hLb hbd i0 hi0 hstop hgo)) ?_
 refine s_op k_gtr ?_
 refine s_op k_as ?_
 refine s_nil trivial ?_
 refine n_wp ?_
 refine w_ret ?_
 exact d_ret hP hn hE [] (by first | exact r_tmp Tryz.results5 | exact r_tmpa Tryz.results5)

set_option maxRecDepth 100000 in
set_option maxHeartbeats 4000000 in
theorem numb_c (B : List Int) (h : 32 ≤ B.length) (hU : U8' B) : Con Tryz.prog 96 [.s (.fzi .u8 B)] [] (.agg [.ints .u64 4 (zs (wd (gN B 32)))]) [] := by
 refine con_in 11 Tryz.func96 rfl rfl (m := 0) rfl ?_
 intro E hP hn hE
 refine w_seq ?_
 refine g_reg hP hn ?_
 refine s_op k_al ?_
 refine s_nil trivial ?_
 refine n_wp ?_
 refine w_seq ?_
 refine g_reg hP hn ?_
 refine s_op k_mv ?_
 refine s_op (k_call [] (con := gl_n B h hU)) ?_
 refine s_op k_mv ?_
 refine s_op k_ex ?_
 refine s_op k_ex ?_
 refine s_op k_al ?_
 refine s_st k_st ?_
 refine s_op k_as ?_
 refine s_nil trivial ?_
 refine n_wp ?_
 refine w_seq ?_
 refine g_reg hP hn ?_
 refine s_op k_ld ?_
 refine s_st k_st ?_
 refine s_nil trivial ?_
 refine n_wp ?_
 refine w_ret ?_
 exact d_ret hP hn hE [] (r_cell Tryz.results96)

set_option maxRecDepth 100000 in
set_option maxHeartbeats 4000000 in
theorem gsig1_c (B : List Int) (hB : B.length = 64) (hU : U8' B) : Con Tryz.prog 95 [.s (.fzi .u8 B)] [] (.agg [.ints .u64 4 (zs (wd (gN (B.take 32) 32))), .ints .u64 4 (zs (wd (gN (B.drop 32) 32)))]) [] := by
 refine con_in 10 Tryz.func95 rfl rfl (m := 0) rfl ?_
 intro E hP hn hE
 refine w_seq ?_
 refine g_reg hP hn ?_
 refine s_op k_al ?_
 refine s_nil trivial ?_
 refine n_wp ?_
 refine w_seq ?_
 refine g_any hP hn ?_
 refine s_op k_mv ?_
 refine s_op (l_sli (ys := B.take 32) (l := 0) (h := 32) rfl rfl ⟨_, _, rfl, rfl⟩ (.inl rfl) rfl Und.h Sz.h (Nat.zero_le _) (by omega) (by simp)) ?_
 refine s_op (k_call [] (con := numb_c (B.take 32) (by simp; omega) (U8'_take hU 32))) ?_
 refine s_op k_mv ?_
 refine s_op (l_sli (ys := B.drop 32) (l := 32) (h := B.length) rfl ⟨_, _, rfl, rfl⟩ rfl (.inl rfl) rfl Und.h Sz.h (by omega) (Nat.le_refl _) (List.take_of_length_le (by simp))) ?_
 refine s_op (k_call [] (con := numb_c (B.drop 32) (by simp; omega) (U8'_drop hU 32))) ?_
 refine s_op k_bd ?_
 refine s_st k_st ?_
 refine s_nil (by kernel_rfl) ?_
 refine n_wp ?_
 refine w_ret ?_
 exact d_ret hP hn hE [] (r_cell Tryz.results95)

set_option maxRecDepth 100000 in
set_option maxHeartbeats 4000000 in
theorem exsig_c (B : List Int) (hB : B.length = 64) (hU : U8' B) : Con Tryz.prog 94 [.s (.fzi .u8 B), .s (.int .i64 64), .s (.val (.func (.func 95) #[] #[])), .s .nils] [] (.tup [.agg [.ints .u64 4 (zs (wd (gN (B.take 32) 32))), .ints .u64 4 (zs (wd (gN (B.drop 32) 32)))], .s (.int .i64 0)]) [] := by
 refine con_in 32 Tryz.func94 rfl rfl (m := 0) rfl ?_
 intro E hP hn hE
 refine w_seq ?_
 refine g_reg hP hn ?_
 refine s_op k_al ?_
 refine s_op k_as ?_
 refine s_nil trivial ?_
 refine n_wp ?_
 refine w_seq ?_
 refine w_seq ?_
 refine g_reg hP hn ?_
 refine s_op k_mv ?_
 refine s_op k_len ?_
 refine s_op k_mv ?_
 refine s_op k_neq ?_
 refine s_nil trivial ?_
 refine n_wp ?_
 refine w_F rfl ?_ (by rw [hB]; rfl)
 refine w_skip ?_
 refine n_wp ?_
 refine w_seq ?_
 refine w_seq ?_
 refine g_reg hP hn ?_
 refine s_op k_mv ?_
 refine s_op k_len ?_
 refine s_op k_mv ?_
 refine s_nil trivial ?_
 refine n_wp ?_
 refine w_block ?_
 refine c_loop (fun m_ T H => T = [(0, .s (.fzi .u8 B)), (2, .s (.val (.func (.func 95) #[] #[]))), (8, .s (.ptr 0 0 0)), (18, .s (.int .i64 ((0 : Nat) : Int))), (19, .s (.int .i64 ((0 : Nat) : Int)))] ∧ H = [some ⟨true, [.ints .u64 4 (zs (List.replicate 4 0)), .ints .u64 4 (zs (List.replicate 4 0))]⟩]) (0) ⟨rfl, rfl⟩ (wk hE [0]) ?_
 rintro n_ T_ H_ ⟨rfl, rfl⟩
 refine w_seq ?_
 refine g_reg hP hn ?_
 refine s_op k_lss ?_
 refine s_nil trivial ?_
 refine n_wp ?_
 refine w_seq ?_
 refine w_F rfl ?_ 
 refine w_exit ?_
 refine x_thn ?_
 refine x_thn ?_
 refine x_eq ?_
 refine n_wp ?_
 refine w_seq ?_
 refine w_weak (weak_conv 2 rfl (conv_vf (q := capF []))) ?_
 refine g_reg hP hn ?_
 refine s_op k_mv ?_
 refine s_op k_mv ?_
 refine s_op (k_callN [] (con := gsig1_c B hB hU)) ?_
 refine s_st k_st ?_
 refine s_op k_as ?_
 refine s_nil trivial ?_
 refine n_wp ?_
 refine w_ret ?_
 exact d_ret hP hn hE [] (ret2 Tryz.results94 r_cella (by first | exact ri_tmp rfl | exact ri_tmpa rfl))

set_option maxRecDepth 100000 in
set_option maxHeartbeats 4000000 in
theorem getsig_c (B : List Int) (hB : B.length = 64) (hU : U8' B) : Con Tryz.prog 56 [.s (.fzi .u8 B)] [] (.tup [.agg [.ints .u64 4 (zs (wd (gN (B.take 32) 32))), .ints .u64 4 (zs (wd (gN (B.drop 32) 32)))], .s (.int .i64 0)]) [] := by
 refine con_in 8 Tryz.func56 rfl rfl (m := 0) rfl ?_
 intro E hP hn hE
 refine w_seq ?_
 refine g_reg hP hn ?_
 refine s_op k_al ?_
 refine s_op k_as ?_
 refine s_nil trivial ?_
 refine n_wp ?_
 refine w_seq ?_
 refine g_reg hP hn ?_
 refine s_op k_mv ?_
 refine s_op (k_call [] (con := exsig_c B hB hU)) ?_
 refine s_op k_ex ?_
 refine s_op k_ex ?_
 refine s_st k_st ?_
 refine s_op k_as ?_
 refine s_nil trivial ?_
 refine n_wp ?_
 refine w_ret ?_
 exact d_ret hP hn hE [] (ret2 Tryz.results56 r_cella (by first | exact ri_tmp rfl | exact ri_tmpa rfl))

end Go.Proofs.X
end

section
/- Bytes that are alike. No program. -/
open Go Go.Bx
namespace Go.Proofs.X
def AlikeTo (A B : List Int) (i : Nat) : Prop := ∀ k, k < i → A.getD k 0 = B.getD k 0
theorem AlikeTo.all {A B : List Int} (hl : A.length = B.length) (h : AlikeTo A B A.length) : A = B := eqI hl h
theorem AlikeTo.next {A B : List Int} {i : Nat} (h : AlikeTo A B i) (e : A.getD i 0 = B.getD i 0) : AlikeTo A B (i + 1) := fun k hk => by
  by_cases hki : k = i
  · subst hki; exact e
  · exact h k (by omega)
theorem alike_not {A B : List Int} {i : Nat} (h : A.getD i 0 ≠ B.getD i 0) : A ≠ B := fun e => h (by rw [e])
end Go.Proofs.X
end

section
open Go Go.Bx Go.Proofs
namespace Go.Proofs.X
set_option maxRecDepth 100000 in
set_option maxHeartbeats 4000000 in
theorem sameb_c (A B : List Int) (hA : A.length ≤ 140737488355000) : Con Tryz.prog 11 [.s (.fzi .u8 A), .s (.fzi .u8 B)] [] (.s (.bool (decide (A = B)))) [] := by
 refine con_in 26 Tryz.func11 rfl rfl (m := 0) rfl ?_
 intro E hP hn hE
 refine w_seq ?_
 refine g_reg hP hn ?_
 refine s_op k_as ?_
 refine s_nil trivial ?_
 refine n_wp ?_
 refine w_seq ?_
 refine w_seq ?_
 refine g_reg hP hn ?_
 refine s_op k_mv ?_
 refine s_op k_len ?_
 refine s_op k_mv ?_
 refine s_op k_len ?_
 refine s_op k_neq ?_
 refine s_nil trivial ?_
 refine n_wp ?_
 refine w_ifn rfl (fun h_t10 => ?_) (fun h_t10 => ?_)
 · skip
   rw [decide_eq_false (fun e : A = B => h_t10 (by rw [e]))]
   refine w_seq ?_
   refine g_reg hP hn ?_
   refine s_op k_as ?_
   refine s_nil trivial ?_
   refine n_wp ?_
   refine w_ret ?_
   refine r_thn ?_
   exact d_ret hP hn hE [] (by first | exact r_tmp Tryz.results11 | exact r_tmpa Tryz.results11)
 · skip
   refine w_skip ?_
   refine n_wp ?_
   refine w_seq ?_
   refine w_seq ?_
   refine g_reg hP hn ?_
   refine s_op k_as ?_
   refine s_nil trivial ?_
   refine n_wp ?_
   refine w_block ?_
   refine c_loop (fun m T H => ∃ i, i ≤ A.length ∧ m = A.length - i ∧ AlikeTo A B i ∧ T = [(0, .s (.fzi .u8 A)), (1, .s (.fzi .u8 B)), (5, .s (.int .i64 ((i : Nat) : Int)))] ∧ H = []) (A.length) ⟨0, by omega, rfl, fun k hk => absurd hk (Nat.not_lt_zero k), rfl, rfl⟩ (wk hE []) ?_
   rintro n_ T_ H_ ⟨i, hi, rfl, hal, rfl, rfl⟩
   refine w_seq ?_
   refine w_seq ?_
   refine g_reg hP hn ?_
   refine s_op k_mv ?_
   refine s_op k_mv ?_
   refine s_op k_len ?_
   refine s_op k_lss ?_
   refine s_nil trivial ?_
   refine n_wp ?_
   refine w_if rfl (fun h_t14 => ?_) (fun h_t14 => ?_)
   · skip
     refine w_skip ?_
     refine n_wp ?_
     refine w_seq ?_
     refine w_block ?_
     refine w_seq ?_
     refine g_any hP hn ?_
     refine s_op k_mv ?_
     refine s_op k_mv ?_
     refine s_op k_ix ?_
     refine s_op k_ld ?_
     refine s_op k_mv ?_
     refine s_op k_mv ?_
     refine s_op k_ix ?_
     refine s_op k_ld ?_
     refine s_op k_neq ?_
     refine s_nil (by kernel_rfl) ?_
     refine n_wp ?_
     refine w_if rfl (fun h_t25 => ?_) (fun h_t25 => ?_)
     · skip
       rw [decide_eq_false (alike_not h_t25)]
       refine w_seq ?_
       refine g_reg hP hn ?_
       refine s_op k_as ?_
       refine s_nil trivial ?_
       refine n_wp ?_
       refine w_ret ?_
       refine r_blo ?_
       refine r_thn ?_
       refine r_thn ?_
       refine r_blo ?_
       refine r_thn ?_
       exact d_ret hP hn hE [] (by first | exact r_tmp Tryz.results11 | exact r_tmpa Tryz.results11)
     · skip
       have hnext := hal.next (Decidable.of_not_not h_t25)
       refine w_skip ?_
       refine n_blo ?_
       refine n_wp ?_
       refine g_reg hP hn ?_
       refine s_op k_mv ?_
       refine s_op k_add ?_
       refine s_op k_as ?_
       refine s_nil trivial ?_
       exact n_round (A.length - (i + 1)) (by omega) ⟨i + 1, by omega, rfl, hnext, rfl, rfl⟩ (wk hE [])
   · skip
     rw [decide_eq_true (AlikeTo.all h_t10 (by rw [show i = A.length by omega] at hal; exact hal))]
     refine w_exit ?_
     refine x_thn ?_
     refine x_thn ?_
     refine x_eq ?_
     refine n_wp ?_
     refine w_seq ?_
     refine g_reg hP hn ?_
     refine s_op k_as ?_
     refine s_nil trivial ?_
     refine n_wp ?_
     refine w_ret ?_
     exact d_ret hP hn hE [] (by first | exact r_tmp Tryz.results11 | exact r_tmpa Tryz.results11)

theorem as1_c (Y : List Int) (hY0 : 0 < Y.length) (hY : Y.length ≤ 900000) : Con Tryz.prog 24 [.s (.val (.string signedS)), .s (ROWS [Y])] [] (.agg [.ints .u8 32 (asB (strL signedS) [Y])]) [] := as_n signedS [Y] (by decide) (by decide) (Nat.le_of_ble_eq_true rfl) (fun i hi => by obtain rfl : i = 0 := Nat.lt_one_iff.1 hi; exact ⟨hY0, hY⟩)
theorem as1_len (Y : List Int) : (asB (strL signedS) [Y]).length = 32 := asB_len _ _
attribute [local irreducible] be gN ckS encL chk pk0 pkB macS wd sg0 drP asB expP szA secP fineP inP mayP

set_option maxRecDepth 100000 in
set_option maxHeartbeats 4000000 in
theorem sign1_y (k : Nat) (A B : List Int) (L : List Pc) (p q g : Nat) (hp : p < 2 ^ 256) (hq : q < 2 ^ 256) (hg : g < 2 ^ 256) (a : Nat) (ha : a < 2 ^ 256) (Y : List Int) (hY0 : 0 < Y.length) (hY : Y.length ≤ 900000) (hc : Con Tryz.prog 10 [.agg (PKT k A B L)] [] (.tup [.s (.fzi .u8 (Y)), .s (.int .i64 0)]) []) (hf : fineP p q g = true) (h0 : a ≠ 0) (haq : a < q) : Con Tryz.prog 22 [.agg (PKT k A B L), .s (.fptr 12 (cellsF (GRP p q g)) 0 0), .s (.fptr 4 (cellsF [.ints .u64 4 (zs (wd a))]) 0 0)] [] (.tup [.s (.fzi .u8 (be 32 (sg0 q (expP p g a) (expP p g (drP q a (asB (strL signedS) [Y]))) (asB (strL signedS) [Y])) ++ be 32 ((drP q a (asB (strL signedS) [Y]) + a * (sg0 q (expP p g a) (expP p g (drP q a (asB (strL signedS) [Y]))) (asB (strL signedS) [Y])) % q) % q))), .s (.int .i64 0)]) [] := by
 refine con_in 29 Tryz.func22 rfl rfl (m := 0) rfl ?_
 intro E hP hn hE
 refine w_seq ?_
 refine g_reg hP hn ?_
 refine s_op k_bx ?_
 refine s_op k_as ?_
 refine s_op k_as ?_
 refine s_nil trivial ?_
 refine n_wp ?_
 refine w_seq ?_
 refine g_reg hP hn ?_
 refine s_op k_ld ?_
 refine s_op (k_call [] (con := hc)) ?_
 refine s_op k_mv ?_
 refine s_op k_ex ?_
 refine s_op k_ex ?_
 refine s_op k_as ?_
 refine s_op k_as ?_
 refine s_nil trivial ?_
 refine n_wp ?_
 refine w_seq ?_
 refine w_seq ?_
 refine g_reg hP hn ?_
 refine s_op k_mv ?_
 refine s_op (l_bin rfl rfl (b_neq (r := false) (decide_eq_false (fun h => h rfl)))) ?_
 refine s_nil trivial ?_
 refine n_wp ?_
 refine w_F rfl ?_ 
 refine w_skip ?_
 refine n_wp ?_
 refine w_seq ?_
 refine g_any hP hn ?_
 refine s_op k_ld ?_
 refine s_op k_ld ?_
 refine s_op k_mv ?_
 refine s_op (k_bsz [.fzi .u8 Y]) ?_
 refine s_op (k_call [] (con := as1_c Y hY0 hY)) ?_
 refine s_op (k_call [] (con := sign_y p q g hp hq hg a (asB (strL signedS) [Y]) ha (as1_len Y) hf h0 haq)) ?_
 refine s_op k_mv ?_
 refine s_op k_ex ?_
 refine s_op k_ex ?_
 refine s_op k_al ?_
 refine s_st k_st ?_
 refine s_op k_as ?_
 refine s_nil (by kernel_rfl) ?_
 refine n_wp ?_
 refine w_seq ?_
 refine g_reg hP hn ?_
 refine s_op k_ld ?_
 refine s_op (k_call [] (con := psig_n (sg0 q (expP p g a) (expP p g (drP q a (asB (strL signedS) [Y]))) (asB (strL signedS) [Y])) ((drP q a (asB (strL signedS) [Y]) + a * (sg0 q (expP p g a) (expP p g (drP q a (asB (strL signedS) [Y]))) (asB (strL signedS) [Y])) % q) % q))) ?_
 refine s_op k_mv ?_
 refine s_op k_as ?_
 refine s_op k_as ?_
 refine s_nil trivial ?_
 refine n_wp ?_
 refine w_ret ?_
 exact d_ret hP hn hE [] (ret2 Tryz.results22 (by first | exact ri_tmp rfl | exact ri_tmpa rfl) (by first | exact ri_tmp rfl | exact ri_tmpa rfl))

set_option maxRecDepth 100000 in
set_option maxHeartbeats 4000000 in
theorem is_y (k : Nat) (A B : List Int) (L : List Pc) (t : Nat) (K : List Int) (hw : WfL L) (j : Nat) (hj : j < L.length) (hno : ∀ k, k < j → decide ((L.getD k p0).1 = t) = false) (hy : decide ((L.getD j p0).1 = t) = true) (Y : List Int) (hcb : Con Tryz.prog 58 [.agg (PKT k A B (keepL (fun x => decide (t ≤ x)) L)), .s (KEYP K)] [] (.tup [.s (.fzi .u8 (Y)), .s (.int .i64 0)]) []) (hs : (L.getD j p0).2 = Y) : Con Tryz.prog 54 [.agg (SEAL 58 1 t [KEYP K]), .agg (PKT k A B L)] [] (.s (.bool true)) [] := by
 refine con_in 37 Tryz.func54 rfl rfl (m := 0) rfl ?_
 intro E hP hn hE
 refine w_seq ?_
 refine g_reg hP hn ?_
 refine s_op k_bxf ?_
 refine s_op k_bxf ?_
 refine s_op k_as ?_
 refine s_nil trivial ?_
 refine n_wp ?_
 refine w_seq ?_
 refine g_reg hP hn ?_
 refine s_op k_fa ?_
 refine s_op k_ld ?_
 refine s_op k_fa ?_
 refine s_op k_ld ?_
 refine s_op (k_call [] (con := find_y L t (by have := hw.len; omega) j hj hno hy (by have := (hw.get j).2.2; omega))) ?_
 refine s_op k_mv ?_
 refine s_op k_ex ?_
 refine s_op k_ex ?_
 refine s_op k_as ?_
 refine s_op k_as ?_
 refine s_nil trivial ?_
 refine n_wp ?_
 refine w_seq ?_
 refine g_any hP hn ?_
 refine s_op k_fa ?_
 refine s_op k_ld ?_
 refine s_op k_ld ?_
 refine s_op k_fa ?_
 refine s_op k_ld ?_
 refine s_op (k_call [] (con := below16_c k A B L t hw)) ?_
 refine s_op (k_callN [KEYP K] (con := hcb)) ?_
 refine s_op k_mv ?_
 refine s_op k_ex ?_
 refine s_op k_ex ?_
 refine s_op k_as ?_
 refine s_op k_as ?_
 refine s_nil (by kernel_rfl) ?_
 refine n_wp ?_
 refine w_seq ?_
 refine g_reg hP hn ?_
 refine s_op k_mv ?_
 refine s_op k_mv ?_
 refine s_on rfl rfl rfl k_mv ?_
 refine s_on rfl rfl rfl (l_bin rfl rfl (b_eql (r := true) (by decide))) ?_
 refine s_op k_pk ?_
 refine s_op k_mv ?_
 refine s_on rfl rfl rfl k_mv ?_
 refine s_on rfl rfl rfl k_mv ?_
 refine s_on rfl rfl rfl (k_call [] (con := same_ok _ _ hs (by have := (hw.get j).2.2; omega))) ?_
 refine s_op k_pk ?_
 refine s_op k_as ?_
 refine s_nil trivial ?_
 refine n_wp ?_
 refine w_ret ?_
 exact d_ret hP hn hE [] (by first | exact r_tmp Tryz.results54 | exact r_tmpa Tryz.results54)

set_option maxRecDepth 100000 in
set_option maxHeartbeats 4000000 in
theorem is_n (k : Nat) (A B : List Int) (L : List Pc) (t : Nat) (K : List Int) (hw : WfL L) (hno : ∀ k, k < L.length → decide ((L.getD k p0).1 = t) = false) (Y : List Int) (hcb : Con Tryz.prog 58 [.agg (PKT k A B (keepL (fun x => decide (t ≤ x)) L)), .s (KEYP K)] [] (.tup [.s (.fzi .u8 (Y)), .s (.int .i64 0)]) [])  : Con Tryz.prog 54 [.agg (SEAL 58 1 t [KEYP K]), .agg (PKT k A B L)] [] (.s (.bool false)) [] := by
 refine con_in 37 Tryz.func54 rfl rfl (m := 0) rfl ?_
 intro E hP hn hE
 refine w_seq ?_
 refine g_reg hP hn ?_
 refine s_op k_bxf ?_
 refine s_op k_bxf ?_
 refine s_op k_as ?_
 refine s_nil trivial ?_
 refine n_wp ?_
 refine w_seq ?_
 refine g_reg hP hn ?_
 refine s_op k_fa ?_
 refine s_op k_ld ?_
 refine s_op k_fa ?_
 refine s_op k_ld ?_
 refine s_op (k_call [] (con := find_n L t (by have := hw.len; omega) hno)) ?_
 refine s_op k_mv ?_
 refine s_op k_ex ?_
 refine s_op k_ex ?_
 refine s_op k_as ?_
 refine s_op k_as ?_
 refine s_nil trivial ?_
 refine n_wp ?_
 refine w_seq ?_
 refine g_any hP hn ?_
 refine s_op k_fa ?_
 refine s_op k_ld ?_
 refine s_op k_ld ?_
 refine s_op k_fa ?_
 refine s_op k_ld ?_
 refine s_op (k_call [] (con := below16_c k A B L t hw)) ?_
 refine s_op (k_callN [KEYP K] (con := hcb)) ?_
 refine s_op k_mv ?_
 refine s_op k_ex ?_
 refine s_op k_ex ?_
 refine s_op k_as ?_
 refine s_op k_as ?_
 refine s_nil (by kernel_rfl) ?_
 refine n_wp ?_
 refine w_seq ?_
 refine g_reg hP hn ?_
 refine s_op k_mv ?_
 refine s_op k_mv ?_
 refine s_off rfl rfl rfl ?_
 refine s_off rfl rfl rfl ?_
 refine s_op k_pk ?_
 refine s_op k_mv ?_
 refine s_off rfl rfl rfl ?_
 refine s_off rfl rfl rfl ?_
 refine s_off rfl rfl rfl ?_
 refine s_op k_pk ?_
 refine s_op k_as ?_
 refine s_nil trivial ?_
 refine n_wp ?_
 refine w_ret ?_
 exact d_ret hP hn hE [] (by first | exact r_tmp Tryz.results54 | exact r_tmpa Tryz.results54)

set_option maxRecDepth 100000 in
set_option maxHeartbeats 4000000 in
theorem hasm_c (k : Nat) (A B : List Int) (L : List Pc) (K : List Int) (hK : K.length = 32) (b : Bool) (his : Con Tryz.prog 54 [.agg (SEAL 58 1 61505 [KEYP K]), .agg (PKT k A B L)] [] (.s (.bool b)) []) : Con Tryz.prog 18 [.agg (PKT k A B L), .agg [.ints .u8 32 K]] [] (.s (.bool b)) [] := by
 refine con_in 9 Tryz.func18 rfl rfl (m := 0) rfl ?_
 intro E hP hn hE
 refine w_seq ?_
 refine g_reg hP hn ?_
 refine s_op k_bxf ?_
 refine s_op k_bxf ?_
 refine s_op k_as ?_
 refine s_nil trivial ?_
 refine n_wp ?_
 refine w_seq ?_
 refine g_any hP hn ?_
 refine s_op k_ld ?_
 refine s_op (k_call [] (con := seals_c 61505 K hK)) ?_
 refine s_op k_ld ?_
 refine s_op (k_call [] (con := his)) ?_
 refine s_op k_as ?_
 refine s_nil (by kernel_rfl) ?_
 refine n_wp ?_
 refine w_ret ?_
 exact d_ret hP hn hE [] (by first | exact r_tmp Tryz.results18 | exact r_tmpa Tryz.results18)

theorem getsig2_c (c s : Nat) (hc : c < 2 ^ 256) (hs : s < 2 ^ 256) : Con Tryz.prog 56 [.s (.fzi .u8 (be 32 c ++ be 32 s))] [] (.tup [.agg [.ints .u64 4 (zs (wd c)), .ints .u64 4 (zs (wd s))], .s (.int .i64 0)]) [] := by
 have h := getsig_c (be 32 c ++ be 32 s) (by rw [List.length_append, be_len, be_len]) (U8'_app (U8'_be _ _) (U8'_be _ _))
 rwa [(gN_2 c s hc hs).1, (gN_2 c s hc hs).2] at h

set_option maxRecDepth 100000 in
set_option maxHeartbeats 4000000 in
theorem signed_y (k : Nat) (A B : List Int) (L : List Pc) (hw : WfL L) (p q g : Nat) (hp : p < 2 ^ 256) (hq : q < 2 ^ 256) (hg : g < 2 ^ 256) (x : Nat) (hx : x < 2 ^ 256) (j : Nat) (hj : j < L.length) (hno : ∀ k, k < j → decide ((L.getD k p0).1 = 61697) = false) (hy : decide ((L.getD j p0).1 = 61697) = true) (c s : Nat) (hc2 : c < 2 ^ 256) (hs2 : s < 2 ^ 256) (hb : (L.getD j p0).2 = be 32 c ++ be 32 s) (Y : List Int) (hY0 : 0 < Y.length) (hY : Y.length ≤ 900000) (hc : Con Tryz.prog 10 [.agg (PKT k A B L)] [] (.tup [.s (.fzi .u8 (Y)), .s (.int .i64 0)]) [])  : Con Tryz.prog 19 [.agg (GRP p q g), .agg (PKT k A B L), .agg [.ints .u64 4 (zs (wd x))]] [] (.s (.bool (ckB p q g x (asB (strL signedS) [Y]) c s))) [] := by
 refine con_in 47 Tryz.func19 rfl rfl (m := 0) rfl ?_
 intro E hP hn hE
 refine w_seq ?_
 refine g_reg hP hn ?_
 refine s_op k_bxf ?_
 refine s_op k_bxf ?_
 refine s_op k_bxf ?_
 refine s_op k_as ?_
 refine s_nil trivial ?_
 refine n_wp ?_
 refine w_seq ?_
 refine g_reg hP hn ?_
 refine s_op k_fa ?_
 refine s_op k_ld ?_
 refine s_op (k_call [] (con := find_y L 61697 (by have := hw.len; omega) j hj hno hy (by have := (hw.get j).2.2; omega))) ?_
 refine s_op k_mv ?_
 refine s_op k_ex ?_
 refine s_op k_ex ?_
 refine s_op k_as ?_
 refine s_op k_as ?_
 refine s_nil trivial ?_
 refine n_wp ?_
 refine w_seq ?_
 rw [hb]
 refine g_reg hP hn ?_
 refine s_op k_mv ?_
 refine s_op (k_call [] (con := getsig2_c c s hc2 hs2)) ?_
 refine s_op k_mv ?_
 refine s_op k_ex ?_
 refine s_op k_ex ?_
 refine s_op k_al ?_
 refine s_st k_st ?_
 refine s_op k_as ?_
 refine s_nil trivial ?_
 refine n_wp ?_
 refine w_seq ?_
 refine g_reg hP hn ?_
 refine s_op k_ld ?_
 refine s_op (k_call [] (con := hc)) ?_
 refine s_op k_mv ?_
 refine s_op k_ex ?_
 refine s_op k_ex ?_
 refine s_op k_as ?_
 refine s_op k_as ?_
 refine s_nil trivial ?_
 refine n_wp ?_
 refine w_seq ?_
 refine g_any hP hn ?_
 refine s_op k_mv ?_
 refine s_op k_mv ?_
 refine s_on rfl rfl rfl k_mv ?_
 refine s_on rfl rfl rfl (l_bin rfl rfl (b_eql (r := true) (by decide))) ?_
 refine s_op k_pk ?_
 refine s_op k_mv ?_
 refine s_on rfl rfl rfl k_mv ?_
 refine s_on rfl rfl rfl (l_bin rfl rfl (b_eql (r := true) (by decide))) ?_
 refine s_op k_pk ?_
 refine s_op k_mv ?_
 refine s_on rfl rfl rfl k_ld ?_
 refine s_on rfl rfl rfl k_ld ?_
 refine s_on rfl rfl rfl k_mv ?_
 refine s_on rfl rfl rfl (k_bsz [.fzi .u8 Y]) ?_
 refine s_on rfl rfl rfl (k_call [] (con := as1_c Y hY0 hY)) ?_
 refine s_on rfl rfl rfl k_ld ?_
 refine s_on rfl rfl rfl (k_call [] (con := check_n p q g hp hq hg x (asB (strL signedS) [Y]) c s hx (as1_len Y) hc2 hs2)) ?_
 refine s_op k_pk ?_
 refine s_op k_as ?_
 refine s_nil (by kernel_rfl) ?_
 refine n_wp ?_
 refine w_ret ?_
 exact d_ret hP hn hE [] (by first | exact r_tmp Tryz.results19 | exact r_tmpa Tryz.results19)

end Go.Proofs.X
end

section
/- Lists of pieces: one put behind, one put in, what is covered then. No program. -/
open Go Go.Bx
namespace Go.Proofs.X
theorem ins_last (L : List Pc) (p : Pc) : insL L L.length p = L ++ [p] := by unfold insL; rw [List.take_length, List.drop_length]
/-- Rising types rise all along. -/
theorem up_lt {L : List Pc} (h : ∀ i, i < L.length → lastT L i < (L.getD i p0).1) : ∀ m k, k < m → m < L.length → (L.getD k p0).1 < (L.getD m p0).1
  | 0, k, hk, _ => absurd hk (Nat.not_lt_zero k)
  | m + 1, k, hk, hm => by
    have h1 : (L.getD m p0).1 < (L.getD (m + 1) p0).1 := h (m + 1) hm
    rcases Nat.lt_succ_iff_lt_or_eq.1 hk with h2 | rfl
    · exact Nat.lt_trans (up_lt h m k h2 (by omega)) h1
    · exact h1
/-- Where a type stands, or would. -/
theorem place {L : List Pc} (h : ∀ i, i < L.length → lastT L i < (L.getD i p0).1) (t : Nat) : ∃ i0, i0 ≤ L.length ∧ (∀ k, k < i0 → (L.getD k p0).1 < t) ∧ ∀ k, i0 ≤ k → k < L.length → t ≤ (L.getD k p0).1 := by
  rcases first_or (fun x => decide (t ≤ x)) L with ⟨j, h1, h2, h3, _⟩ | ⟨h1, _⟩
  · refine ⟨j, by omega, fun k hk => ?_, fun k h4 h5 => ?_⟩
    · have := h2 k hk
      simp only [decide_eq_false_iff_not] at this
      omega
    · have h3' := of_decide_eq_true h3
      rcases Nat.lt_or_ge j k with h6 | h6
      · exact Nat.le_trans h3' (Nat.le_of_lt (up_lt h k j h6 h5))
      · have : j = k := by omega
        subst this; exact h3'
  · refine ⟨L.length, Nat.le_refl _, fun k hk => ?_, fun k h2 h3 => by omega⟩
    have := h1 k hk
    simp only [decide_eq_false_iff_not] at this
    omega
theorem WfL.snoc {L : List Pc} (h : WfL L) (hl : L.length ≤ 1000) {p : Pc} (hp : p.1 < 65536 ∧ U8' p.2 ∧ p.2.length ≤ 900000) : WfL (L ++ [p]) := by
  rw [← ins_last]; exact h.ins hl _ hp
theorem encL_cons (p : Pc) (L : List Pc) : encL (p :: L) = encP p ++ encL L := by simp [encL]
theorem sgL_app (L M : List Pc) : sgL (L ++ M) = sgL L ++ sgL M := by simp [sgL, keepL]
theorem sgL_cons_y (p : Pc) (L : List Pc) (h : p.1 < 61697) : sgL (p :: L) = p :: sgL L := by
  unfold sgL keepL; rw [List.filter_cons_of_pos (by simp; omega)]
theorem sgL_cons_n (p : Pc) (L : List Pc) (h : 61697 ≤ p.1) : sgL (p :: L) = sgL L := by
  unfold sgL keepL; rw [List.filter_cons_of_neg (by simp; omega)]
theorem sgL_snoc_n (p : Pc) (L : List Pc) (h : 61697 ≤ p.1) : sgL (L ++ [p]) = sgL L := by
  rw [sgL_app, sgL_cons_n p [] h]; exact List.append_nil _
theorem sgL_all {L : List Pc} (h : ∀ i, i < L.length → decide (61697 ≤ (L.getD i p0).1) = false) : sgL L = L := keep_none h
theorem lastT_map (L : List Pc) : ∀ i, i ≤ L.length → lastT (L.map strip) i = lastT L i
  | 0, _ => rfl
  | i + 1, h => by
    show ((L.map strip).getD i p0).1 = (L.getD i p0).1
    rw [List.getD_eq_getElem?_getD, List.getD_eq_getElem?_getD, List.getElem?_map, List.getElem?_eq_getElem (by omega)]
    exact strip_ty _
theorem getD_strip (L : List Pc) (i : Nat) (h : i < L.length) : ((L.map strip).getD i p0).1 = (L.getD i p0).1 := by
  rw [List.getD_eq_getElem?_getD, List.getD_eq_getElem?_getD, List.getElem?_map, List.getElem?_eq_getElem h]
  exact strip_ty _
/-- What may be signed of a packet without signatures rises, and is not too much. -/
theorem ok_sgK {k : Nat} {L : List Pc} (h : okP k (sgK k L)) (ha : sgL L = L) : (∀ i, i < L.length → lastT L i < (L.getD i p0).1) ∧ L.length ≤ 16 := by
  have hu := h.up
  have hn := h.n
  unfold sgK at hu hn
  rw [ha] at hu hn
  split at hu
  · rename_i h2
    rw [if_pos h2, List.length_map] at hn
    refine ⟨fun i hi => ?_, hn⟩
    have := hu i (by simpa using hi)
    rwa [lastT_map L i (by omega), getD_strip L i hi] at this
  · rename_i h2
    rw [if_neg h2] at hn
    exact ⟨hu, hn⟩
theorem sgT_len {k : Nat} {B : List Int} (h : B.length = 16) : (sgT k B).length = 16 := by
  unfold sgT; split
  · simp [zs]
  · exact h
end Go.Proofs.X
end

section
open Go Go.Bx Go.Proofs
namespace Go.Proofs.X
def macPc (k : Nat) (A B : List Int) (L : List Pc) (K : List Int) : Pc := (61505, macS K (pkB k A B (encL L)))
def sgC (p q g a : Nat) (Y : List Int) : Nat := sg0 q (expP p g a) (expP p g (drP q a (asB (strL signedS) [Y]))) (asB (strL signedS) [Y])
def sgS (p q g a : Nat) (Y : List Int) : Nat := (drP q a (asB (strL signedS) [Y]) + a * sgC p q g a Y % q) % q
def sgPc (k : Nat) (A B : List Int) (L : List Pc) (p q g a : Nat) : Pc := (61697, be 32 (sgC p q g a (pkB k A (sgT k B) (encL (sgK k L)))) ++ be 32 (sgS p q g a (pkB k A (sgT k B) (encL (sgK k L)))))
theorem macPc_wf (k : Nat) (A B : List Int) (L : List Pc) (K : List Int) : (macPc k A B L K).1 < 65536 ∧ U8' (macPc k A B L K).2 ∧ (macPc k A B L K).2.length ≤ 900000 := ⟨(by decide : 61505 < 65536), U8'_sumL _ _, by show (macS _ _).length ≤ _; rw [macS_len]; decide⟩
theorem sgPc_wf (k : Nat) (A B : List Int) (L : List Pc) (p q g a : Nat) : (sgPc k A B L p q g a).1 < 65536 ∧ U8' (sgPc k A B L p q g a).2 ∧ (sgPc k A B L p q g a).2.length ≤ 900000 := ⟨(by decide : 61697 < 65536), U8'_app (U8'_be _ _) (U8'_be _ _), by show (be 32 _ ++ be 32 _).length ≤ _; rw [List.length_append, be_len, be_len]; decide⟩
theorem pkn_app (k : Nat) (A B : List Int) (L : List Pc) (p : Pc) : PKN k A B (L.length + 1) (kpF (insL L L.length p)) = PKT k A B (L ++ [p]) := by
 rw [ins_last]
 show _ = [Seg.one _, Seg.ints .u8 16 A, Seg.ints .u8 16 B, .one (.fz (L ++ [p]).length 2 (gP (kpF (L ++ [p]))))]
 rw [List.length_append]; rfl
theorem with_end (L : List Pc) (hw : WfL L) (p : Pc) (hp : p.1 < 65536 ∧ U8' p.2 ∧ p.2.length ≤ 900000) (hall : ∀ i, i < L.length → lastT L i < (L.getD i p0).1) (h0 : p.1 ≠ 0) (hlo : ∀ k, k < L.length → (L.getD k p0).1 < p.1) (hl : ¬ 16 ≤ L.length) : Con Tryz.prog 9 [.s (PARS L), .agg (PR p)] [] (.tup [.s (.fz (L.length + 1) 2 (gP (kpF (insL L L.length p)))), .s (.int .i64 0)]) [] :=
 with_y L p (by have := hw.len; omega) hall h0 hp.1 (fun k => (hw.get k).1) L.length (Nat.le_refl _) hlo (fun k h1 h2 => by omega) (fun h => absurd h (Nat.lt_irrefl _)) (fun i _ => by have := (hw.get i).2.2; omega) (by have := hp.2.2; omega) hl
/-- A sum is put: when. -/
structure MacOK (k : Nat) (A B : List Int) (L : List Pc) (K : List Int) : Prop where
 up : ∀ i, i < L.length → decide (61505 ≤ (L.getD i p0).1) = false
 ok : okP k L
 n : L.length < 16
 ok2 : okP k (L ++ [macPc k A B L K])
theorem mac_there (k : Nat) (A B : List Int) (L : List Pc) (hw : WfL L) (K : List Int) (hK : K.length = 32) (j : Nat) (hj : j < L.length) (h : 61505 ≤ (L.getD j p0).1) : Con Tryz.prog 7 [.agg (PKT k A B (L)), .agg [.ints .u8 32 K]] [] (.tup [.agg ZPK, .s (.int .i64 8)]) [] := by
 rcases first_or (fun x => decide (61505 ≤ x)) L with ⟨i, h1, h2, h3, _⟩ | ⟨h1, _⟩
 · exact mac_e k A B L K hK 8 (ons_there k A B L 61505 K hK (by have := hw.len; omega) i h1 h2 h3)
 · have := h1 j hj
   simp only [decide_eq_false_iff_not] at this
   exact absurd h this
theorem mac_ok (k : Nat) (A B : List Int) (L : List Pc) (K : List Int) (hK : K.length = 32) (hw : WfL L) (hk : k < 256) (hA : A.length = 16) (hB : B.length = 16) (hUA : U8' A) (hUB : U8' B) (h : MacOK k A B L K) : Con Tryz.prog 7 [.agg (PKT k A B (L)), .agg [.ints .u8 32 K]] [] (.tup [.agg (PKT k A B (L ++ [macPc k A B L K])), .s (.int .i64 0)]) [] := by
 have hLb : L.length ≤ 800000 := by have := hw.len; omega
 have hcp := kput_ok k A B L hw h.ok hk hA hB hUA hUB
 have hpl := pkB_len (k := k) (E := encL L) hA hB
 have hn := h.n
 have hcb := sum1_y k A B L K hK (pkB k A B (encL L)) (by have := h.ok.tot; omega) hcp
 have hlo : ∀ i, i < L.length → (L.getD i p0).1 < (macPc k A B L K).1 := fun i hi => by
   have := h.up i hi
   simp only [decide_eq_false_iff_not] at this
   show _ < 61505
   omega
 have hcw := with_end L hw (macPc k A B L K) (macPc_wf k A B L K) h.ok.up (by show (61505 : Nat) ≠ 0; decide) hlo (by omega)
 have hcp2 := kput_ok k A B (L ++ [macPc k A B L K]) (hw.snoc (by omega) (macPc_wf k A B L K)) h.ok2 hk hA hB hUA hUB
 rw [← pkn_app] at hcp2
 have h := mac_y k A B L K hK (L.length + 1) (kpF (insL L L.length (macPc k A B L K))) (ons_y k A B L 61505 K hK hLb h.up _ hcb _ hcw _ hcp2)
 rw [pkn_app] at h
 exact h
/-- A signature is put: when. -/
structure SgnOK (k : Nat) (A B : List Int) (L : List Pc) (p q g a : Nat) : Prop where
 up : ∀ i, i < L.length → decide (61697 ≤ (L.getD i p0).1) = false
 ok : okP k (sgK k L)
 sec : secP p q g a = true
 n : L.length < 16
 ok2 : okP k (L ++ [sgPc k A B L p q g a])
theorem sgn_ok (k : Nat) (A B : List Int) (L : List Pc) (p q g : Nat) (hp : p < 2 ^ 256) (hq : q < 2 ^ 256) (hg : g < 2 ^ 256) (a : Nat) (ha : a < 2 ^ 256) (hw : WfL L) (hk : k < 256) (hA : A.length = 16) (hB : B.length = 16) (hUA : U8' A) (hUB : U8' B) (h : SgnOK k A B L p q g a) : Con Tryz.prog 8 [.agg (GRP p q g), .agg (PKT k A B (L)), .agg [.ints .u64 4 (zs (wd a))]] [] (.tup [.agg (PKT k A B (L ++ [sgPc k A B L p q g a])), .s (.int .i64 0)]) [] := by
 have hLb : L.length ≤ 800000 := by have := hw.len; omega
 have hc := cont_ok k A B L hw h.ok hk hA hB hUA hUB
 obtain ⟨hall, h16⟩ := ok_sgK h.ok (sgL_all h.up)
 have hpl := pkB_len (k := k) (E := encL (sgK k L)) hA (sgT_len (k := k) hB)
 have htot := h.ok.tot
 have hn := h.n
 have hsec2 := h.sec
 simp only [secP, Bool.and_eq_true, Bool.not_eq_true', decide_eq_true_eq, decide_eq_false_iff_not] at hsec2
 obtain ⟨hf, h0, haq⟩ := hsec2
 have hcb := sign1_y k A B L p q g hp hq hg a ha (pkB k A (sgT k B) (encL (sgK k L))) (by omega) (by omega) hc hf h0 haq
 have hlo : ∀ i, i < L.length → (L.getD i p0).1 < (sgPc k A B L p q g a).1 := fun i hi => by
   have := h.up i hi
   simp only [decide_eq_false_iff_not] at this
   show _ < 61697
   omega
 have hcw := with_end L hw (sgPc k A B L p q g a) (sgPc_wf k A B L p q g a) hall (by show (61697 : Nat) ≠ 0; decide) hlo (by omega)
 have hcp2 := kput_ok k A B (L ++ [sgPc k A B L p q g a]) (hw.snoc (by omega) (sgPc_wf k A B L p q g a)) h.ok2 hk hA hB hUA hUB
 rw [← pkn_app] at hcp2
 have h := sgn_y k A B L p q g a (L.length + 1) (kpF (insL L L.length (sgPc k A B L p q g a))) (ong_y k A B L 61697 p q g a hLb h.up _ hcb _ hcw _ hcp2)
 rw [pkn_app] at h
 exact h
end Go.Proofs.X
end

section
/- Types and functions of a law of covers, as instances. -/
open Go Go.Bx Go.Proofs
namespace Go.Proofs.X
instance : Clb Tryz.prog 6 := ⟨_, Tryz.func6, by kernel_rfl, rfl⟩
instance : Clb Tryz.prog 16 := ⟨_, Tryz.func16, by kernel_rfl, rfl⟩
instance : Clb Tryz.prog 3 := ⟨_, Tryz.func3, by kernel_rfl, rfl⟩
instance : Und Tryz.prog 36 (.struct #[{ name := "G", type := 32, offset := 0, embedded := false, tag := "", pkgPath := "", byteOffset := 0 }, { name := "Secret", type := 30, offset := 12, embedded := false, tag := "", pkgPath := "", byteOffset := 96 }, { name := "By", type := 34, offset := 16, embedded := false, tag := "", pkgPath := "", byteOffset := 128 }, { name := "Key", type := 30, offset := 48, embedded := false, tag := "", pkgPath := "", byteOffset := 160 }]) := ⟨Tryz.underlying36⟩
instance : Sz Tryz.prog 36 52 := ⟨Tryz.sizeOf36⟩
instance : Ag Tryz.prog 36 true := ⟨Tryz.isAgg36⟩
instance : Zv Tryz.prog 36 [.ints .u64 4 (zs (List.replicate 4 0)), .ints .u64 4 (zs (List.replicate 4 0)), .ints .u64 4 (zs (List.replicate 4 0)), .ints .u64 4 (zs (List.replicate 4 0)), .ints .u8 32 (zs (List.replicate 32 0)), .ints .u64 4 (zs (List.replicate 4 0))] := ⟨_, Tryz.zeroValue36, by kernel_rfl⟩
instance : FldC Tryz.prog 36 0 0 := ⟨_, _, _, Tryz.underlying36, rfl, Tryz.sizeOf32, by decide, rfl⟩
instance : FldC Tryz.prog 36 1 12 := ⟨_, _, _, Tryz.underlying36, rfl, Tryz.sizeOf30, by decide, rfl⟩
instance : FldC Tryz.prog 36 2 16 := ⟨_, _, _, Tryz.underlying36, rfl, Tryz.sizeOf34, by decide, rfl⟩
instance : FldC Tryz.prog 36 3 48 := ⟨_, _, _, Tryz.underlying36, rfl, Tryz.sizeOf30, by decide, rfl⟩
instance : Pl Tryz.prog 36 #[(0, 12), (12, 4), (16, 32), (48, 4)] := ⟨_, Tryz.underlying36, fun w => by kernel_rfl⟩
instance : Inf Tryz.prog 36 Tryz.t36 := ⟨by kernel_rfl⟩
instance : Und Tryz.prog 42 (.struct #[{ name := "To", type := 24, offset := 0, embedded := false, tag := "", pkgPath := "", byteOffset := 0 }, { name := "I", type := 34, offset := 16, embedded := false, tag := "", pkgPath := "", byteOffset := 16 }, { name := "Piece", type := 40, offset := 48, embedded := false, tag := "", pkgPath := "", byteOffset := 48 }]) := ⟨Tryz.underlying42⟩
instance : Sz Tryz.prog 42 50 := ⟨Tryz.sizeOf42⟩
instance : Ag Tryz.prog 42 true := ⟨Tryz.isAgg42⟩
instance : Zv Tryz.prog 42 [.ints .u8 16 (zs (List.replicate 16 0)), .ints .u8 32 (zs (List.replicate 32 0)), .one (.int .u16 0), .one .nils] := ⟨_, Tryz.zeroValue42, by kernel_rfl⟩
instance : FldC Tryz.prog 42 0 0 := ⟨_, _, _, Tryz.underlying42, rfl, Tryz.sizeOf24, by decide, rfl⟩
instance : FldC Tryz.prog 42 1 16 := ⟨_, _, _, Tryz.underlying42, rfl, Tryz.sizeOf34, by decide, rfl⟩
instance : FldC Tryz.prog 42 2 48 := ⟨_, _, _, Tryz.underlying42, rfl, Tryz.sizeOf40, by decide, rfl⟩
instance : Pl Tryz.prog 42 #[(0, 16), (16, 32), (48, 2)] := ⟨_, Tryz.underlying42, fun w => by kernel_rfl⟩
instance : Inf Tryz.prog 42 Tryz.t42 := ⟨by kernel_rfl⟩
end Go.Proofs.X
end

section
open Go Go.Bx Go.Proofs
namespace Go.Proofs.X
attribute [local irreducible] be gN ckS encL chk pk0 pkB macS wd sg0 drP asB expP szA secP fineP inP mayP
set_option maxRecDepth 100000 in
set_option maxHeartbeats 4000000 in
theorem group_c  : Con Tryz.prog 16 [] [] (.agg [.ints .u64 4 [23, 0, 0, 0], .ints .u64 4 [11, 0, 0, 0], .ints .u64 4 [4, 0, 0, 0]]) [] := by
 refine con_in 5 Tryz.func16 rfl rfl (m := 0) rfl ?_
 intro E hP hn hE
 refine w_seq ?_
 refine g_reg hP hn ?_
 refine s_op k_al ?_
 refine s_nil trivial ?_
 refine n_wp ?_
 refine w_seq ?_
 refine g_reg hP hn ?_
 refine s_op k_bd ?_
 refine s_op k_bd ?_
 refine s_op k_bd ?_
 refine s_op k_bd ?_
 refine s_st k_st ?_
 refine s_nil trivial ?_
 refine n_wp ?_
 refine w_ret ?_
 exact d_ret hP hn hE [] (r_cell Tryz.results16)

set_option maxRecDepth 100000 in
set_option maxHeartbeats 4000000 in
theorem alive_w (M W : List Int) (KL : List Int) (hm : Con Tryz.prog 7 [.agg [.one (.int .u8 1), .ints .u8 16 (zs (List.replicate 16 0)), .ints .u8 16 (zs (List.replicate 16 0)), .one (.fz 0 2 (gP (kpF [])))], .agg [.ints .u8 32 [5, 0, 0, 0, 0, 0, 0, 0, 0, 0, 0, 0, 0, 0, 0, 0, 0, 0, 0, 0, 0, 0, 0, 0, 0, 0, 0, 0, 0, 0, 0, 0]]] [] (.tup [.agg [.one (.int .u8 1), .ints .u8 16 (zs (List.replicate 16 0)), .ints .u8 16 (zs (List.replicate 16 0)), .one (.fz 1 2 (gP (kpF [(61505, M)])))], .s (.int .i64 0)]) []) (hm2 : Con Tryz.prog 7 [.agg [.one (.int .u8 1), .ints .u8 16 (zs (List.replicate 16 0)), .ints .u8 16 (zs (List.replicate 16 0)), .one (.fz 1 2 (gP (kpF [(61505, M)])))], .agg [.ints .u8 32 [5, 0, 0, 0, 0, 0, 0, 0, 0, 0, 0, 0, 0, 0, 0, 0, 0, 0, 0, 0, 0, 0, 0, 0, 0, 0, 0, 0, 0, 0, 0, 0]]] [] (.tup [.agg ZPK, .s (.int .i64 8)]) []) (hs : Con Tryz.prog 8 [.agg [.ints .u64 4 [23, 0, 0, 0], .ints .u64 4 [11, 0, 0, 0], .ints .u64 4 [4, 0, 0, 0]], .agg [.one (.int .u8 1), .ints .u8 16 (zs (List.replicate 16 0)), .ints .u8 16 (zs (List.replicate 16 0)), .one (.fz 1 2 (gP (kpF [(61505, M)])))], .agg [.ints .u64 4 [3, 0, 0, 0]]] [] (.tup [.agg [.one (.int .u8 1), .ints .u8 16 (zs (List.replicate 16 0)), .ints .u8 16 (zs (List.replicate 16 0)), .one (.fz 2 2 (gP (kpF [(61505, M), (61697, W)])))], .s (.int .i64 0)]) []) (hk : Con Tryz.prog 17 [.agg [.ints .u64 4 [23, 0, 0, 0], .ints .u64 4 [11, 0, 0, 0], .ints .u64 4 [4, 0, 0, 0]], .agg [.ints .u64 4 [3, 0, 0, 0]]] [] (.tup [.agg [.ints .u64 4 KL], .s (.int .i64 0)]) []) (hh1 : Con Tryz.prog 18 [.agg [.one (.int .u8 1), .ints .u8 16 (zs (List.replicate 16 0)), .ints .u8 16 (zs (List.replicate 16 0)), .one (.fz 1 2 (gP (kpF [(61505, M)])))], .agg [.ints .u8 32 [5, 0, 0, 0, 0, 0, 0, 0, 0, 0, 0, 0, 0, 0, 0, 0, 0, 0, 0, 0, 0, 0, 0, 0, 0, 0, 0, 0, 0, 0, 0, 0]]] [] (.s (.bool true)) []) (hh0 : Con Tryz.prog 18 [.agg [.one (.int .u8 1), .ints .u8 16 (zs (List.replicate 16 0)), .ints .u8 16 (zs (List.replicate 16 0)), .one (.fz 0 2 (gP (kpF [])))], .agg [.ints .u8 32 [5, 0, 0, 0, 0, 0, 0, 0, 0, 0, 0, 0, 0, 0, 0, 0, 0, 0, 0, 0, 0, 0, 0, 0, 0, 0, 0, 0, 0, 0, 0, 0]]] [] (.s (.bool false)) []) (hsd : Con Tryz.prog 19 [.agg [.ints .u64 4 [23, 0, 0, 0], .ints .u64 4 [11, 0, 0, 0], .ints .u64 4 [4, 0, 0, 0]], .agg [.one (.int .u8 1), .ints .u8 16 (zs (List.replicate 16 0)), .ints .u8 16 (zs (List.replicate 16 0)), .one (.fz 2 2 (gP (kpF [(61505, M), (61697, W)])))], .agg [.ints .u64 4 KL]] [] (.s (.bool true)) []) : Con Tryz.prog 6 [] [] (.s (.bool true)) [] := by
 refine con_in 97 Tryz.func6 rfl rfl (m := 0) rfl ?_
 intro E hP hn hE
 refine w_seq ?_
 refine g_reg hP hn ?_
 refine s_op k_as ?_
 refine s_nil trivial ?_
 refine n_wp ?_
 refine w_seq ?_
 refine g_reg hP hn ?_
 refine s_op k_bd ?_
 refine s_op k_al ?_
 refine s_st k_st ?_
 refine s_nil trivial ?_
 refine n_wp ?_
 refine w_seq ?_
 refine g_reg hP hn ?_
 refine s_op k_bd ?_
 refine s_op k_al ?_
 refine s_st k_st ?_
 refine s_nil trivial ?_
 refine n_wp ?_
 refine w_seq ?_
 refine g_reg hP hn ?_
 refine s_op k_ld ?_
 refine s_op k_ld ?_
 refine s_op (k_call [] (con := hm) (hargs := by exact .cons rfl (conv_agg (R := []) (.same (.same (.same (.one conv_nilz .nil))))) (.cons rfl cv .nil))) ?_
 refine s_op k_mv ?_
 refine s_op k_ex ?_
 refine s_op k_ex ?_
 refine s_op k_al ?_
 refine s_st k_st ?_
 refine s_op k_as ?_
 refine s_nil trivial ?_
 refine n_wp ?_
 refine w_seq ?_
 refine g_reg hP hn ?_
 refine s_op k_ld ?_
 refine s_op k_ld ?_
 refine s_op (k_call [] (con := hm2)) ?_
 refine s_op k_mv ?_
 refine s_op k_ex ?_
 refine s_op k_ex ?_
 refine s_op k_al ?_
 refine s_st k_st ?_
 refine s_op k_as ?_
 refine s_nil trivial ?_
 refine n_wp ?_
 refine w_seq ?_
 refine g_any hP hn ?_
 refine s_op (k_call [] (con := group_c)) ?_
 refine s_op k_ld ?_
 refine s_op k_bd ?_
 refine s_op (k_call [] (con := hs)) ?_
 refine s_op k_mv ?_
 refine s_op k_ex ?_
 refine s_op k_ex ?_
 refine s_op k_al ?_
 refine s_st k_st ?_
 refine s_op k_as ?_
 refine s_nil (by kernel_rfl) ?_
 refine n_wp ?_
 refine w_seq ?_
 refine g_reg hP hn ?_
 refine s_op (k_call [] (con := group_c)) ?_
 refine s_op k_bd ?_
 refine s_op (k_call [] (con := hk)) ?_
 refine s_op k_mv ?_
 refine s_op k_ex ?_
 refine s_op k_ex ?_
 refine s_op k_al ?_
 refine s_st k_st ?_
 refine s_op k_as ?_
 refine s_nil trivial ?_
 refine n_wp ?_
 refine w_seq ?_
 refine g_any hP hn ?_
 refine s_op k_mv ?_
 refine s_op (l_bin rfl rfl (b_eql (r := true) (by decide))) ?_
 refine s_op k_mv ?_
 refine s_on rfl rfl rfl k_fa ?_
 refine s_on rfl rfl rfl k_ld ?_
 refine s_on rfl rfl rfl k_len ?_
 refine s_on rfl rfl rfl (l_bin rfl rfl (b_eql (r := true) (by decide))) ?_
 refine s_op k_pk ?_
 refine s_op k_mv ?_
 refine s_on rfl rfl rfl k_fa ?_
 refine s_on rfl rfl rfl k_ld ?_
 refine s_on rfl rfl rfl k_ix ?_
 refine s_on rfl rfl rfl k_fa ?_
 refine s_on rfl rfl rfl (k_ld (by exact a_loadf (v := .int .u16 ((61505 : Nat) : Int)) rfl (by decide) rfl)) ?_
 refine s_on rfl rfl rfl (l_bin rfl rfl (b_eql (r := true) (by decide))) ?_
 refine s_op k_pk ?_
 refine s_op k_mv ?_
 refine s_on rfl rfl rfl k_ld ?_
 refine s_on rfl rfl rfl k_ld ?_
 refine s_on rfl rfl rfl (k_call [] (con := hh1)) ?_
 refine s_op k_pk ?_
 refine s_op k_mv ?_
 refine s_on rfl rfl rfl k_ld ?_
 refine s_on rfl rfl rfl k_ld ?_
 refine s_on rfl rfl rfl (k_call [] (con := hh0) (hargs := by exact .cons rfl (conv_agg (R := []) (.same (.same (.same (.one conv_nilz .nil))))) (.cons rfl cv .nil))) ?_
 refine s_on rfl rfl rfl k_not ?_
 refine s_op k_pk ?_
 refine s_op k_mv ?_
 refine s_on rfl rfl rfl k_mv ?_
 refine s_on rfl rfl rfl (l_bin rfl rfl (b_eql (r := true) (by decide))) ?_
 refine s_op k_pk ?_
 refine s_op k_mv ?_
 refine s_on rfl rfl rfl k_mv ?_
 refine s_on rfl rfl rfl (l_bin rfl rfl (b_eql (r := true) (by decide))) ?_
 refine s_op k_pk ?_
 refine s_op k_mv ?_
 refine s_on rfl rfl rfl k_fa ?_
 refine s_on rfl rfl rfl k_ld ?_
 refine s_on rfl rfl rfl k_len ?_
 refine s_on rfl rfl rfl (l_bin rfl rfl (b_eql (r := true) (by decide))) ?_
 refine s_op k_pk ?_
 refine s_op k_mv ?_
 refine s_on rfl rfl rfl k_fa ?_
 refine s_on rfl rfl rfl k_ld ?_
 refine s_on rfl rfl rfl k_ix ?_
 refine s_on rfl rfl rfl k_fa ?_
 refine s_on rfl rfl rfl (k_ld (by exact a_loadf (v := .int .u16 ((61697 : Nat) : Int)) rfl (by decide) rfl)) ?_
 refine s_on rfl rfl rfl (l_bin rfl rfl (b_eql (r := true) (by decide))) ?_
 refine s_op k_pk ?_
 refine s_op k_mv ?_
 refine s_on rfl rfl rfl k_mv ?_
 refine s_on rfl rfl rfl (l_bin rfl rfl (b_eql (r := true) (by decide))) ?_
 refine s_op k_pk ?_
 refine s_op k_mv ?_
 refine s_on rfl rfl rfl (k_call [] (con := group_c)) ?_
 refine s_on rfl rfl rfl k_ld ?_
 refine s_on rfl rfl rfl k_ld ?_
 refine s_on rfl rfl rfl (k_call [] (con := hsd)) ?_
 refine s_op k_pk ?_
 refine s_op k_as ?_
 refine s_nil (by kernel_rfl) ?_
 refine n_wp ?_
 refine w_ret ?_
 exact d_ret hP hn hE [] (by first | exact r_tmp Tryz.results6 | exact r_tmpa Tryz.results6)

end Go.Proofs.X
end

section
open Go Go.Bx Go.Proofs
namespace Go.Proofs.X
abbrev K5 : List Int := [5, 0, 0, 0, 0, 0, 0, 0, 0, 0, 0, 0, 0, 0, 0, 0, 0, 0, 0, 0, 0, 0, 0, 0, 0, 0, 0, 0, 0, 0, 0, 0]
abbrev Z16 : List Int := (zs (List.replicate 16 0))
theorem z16_u8 : U8' Z16 := by
  show U8' (zs (List.replicate 16 0))
  rw [zs_rep]; exact U8'_rep _
theorem z16_len : Z16.length = 16 := by simp [zs]
theorem e23 : zs (wd 23) = [23, 0, 0, 0] := by decide
theorem e11 : zs (wd 11) = [11, 0, 0, 0] := by decide
theorem e4 : zs (wd 4) = [4, 0, 0, 0] := by decide
theorem e3 : zs (wd 3) = [3, 0, 0, 0] := by decide
theorem eGR : GRP 23 11 4 = [.ints .u64 4 [23, 0, 0, 0], .ints .u64 4 [11, 0, 0, 0], .ints .u64 4 [4, 0, 0, 0]] := by
  show [Seg.ints .u64 4 (zs (wd 23)), Seg.ints .u64 4 (zs (wd 11)), Seg.ints .u64 4 (zs (wd 4))] = _
  rw [e23, e11, e4]
theorem wf_0 : WfL [] := ⟨by decide, fun p h => by cases h⟩
theorem wf_1 {p : Pc} (h : p.1 < 65536 ∧ U8' p.2 ∧ p.2.length ≤ 900000) : WfL [p] := ⟨by simp, fun q hq => by rw [List.mem_singleton] at hq; subst hq; exact h⟩
theorem ok_0 : okP 1 [] := ⟨by decide, fun i hi => absurd hi (Nat.not_lt_zero i), by decide, fun k hk => absurd hk (Nat.not_lt_zero k), by decide⟩
theorem ok_1 {p : Pc} (h1 : p.1 = 61505) (h2 : p.2.length = 32) : okP 1 [p] := by
  refine ⟨by decide, fun i hi => ?_, by simp, fun k hk => ?_, ?_⟩
  · obtain rfl : i = 0 := Nat.lt_one_iff.1 hi
    show 0 < p.1
    omega
  · obtain rfl : k = 0 := Nat.lt_one_iff.1 hk
    show p.2.length ≤ 2048
    omega
  · rw [encL_cons, List.length_append, encP_len, h2]; decide
theorem ok_2 {p r : Pc} (h1 : p.1 = 61505) (h2 : p.2.length = 32) (h3 : r.1 = 61697) (h4 : r.2.length = 64) : okP 1 [p, r] := by
  refine ⟨by decide, fun i hi => ?_, by simp, fun k hk => ?_, ?_⟩
  · have hi : i < 2 := hi
    rcases (show i = 0 ∨ i = 1 by omega) with rfl | rfl
    · show 0 < p.1
      omega
    · show p.1 < r.1
      omega
  · have hk : k < 2 := hk
    rcases (show k = 0 ∨ k = 1 by omega) with rfl | rfl
    · show p.2.length ≤ 2048
      omega
    · show r.2.length ≤ 2048
      omega
  · rw [encL_cons, encL_cons, List.length_append, List.length_append, encP_len, encP_len, h2, h4]; decide
theorem sec_small : secP 23 11 4 3 = true := by decide
theorem fine_small : fineP 23 11 4 = true := by decide
theorem b23 : (23 : Nat) < 2 ^ 256 := by decide
theorem b11 : (11 : Nat) < 2 ^ 256 := by decide
theorem b4 : (4 : Nat) < 2 ^ 256 := by decide
theorem b3 : (3 : Nat) < 2 ^ 256 := by decide
def aMb : List Int := (macPc 1 Z16 Z16 [] K5).2
abbrev aM : Pc := (61505, aMb)
def aSb : List Int := (sgPc 1 Z16 Z16 [aM] 23 11 4 3).2
abbrev aS : Pc := (61697, aSb)
theorem aM_1 : aM.1 = 61505 := rfl
theorem aM_2 : aM.2.length = 32 := macS_len _ _
theorem aS_1 : aS.1 = 61697 := rfl
theorem aS_2 : aS.2.length = 64 := by show (be 32 _ ++ be 32 _).length = 64; rw [List.length_append, be_len, be_len]
theorem aM_wf : aM.1 < 65536 ∧ U8' aM.2 ∧ aM.2.length ≤ 900000 := macPc_wf _ _ _ _ _
theorem aS_wf : aS.1 < 65536 ∧ U8' aS.2 ∧ aS.2.length ≤ 900000 := sgPc_wf _ _ _ _ _ _ _ _
theorem macok : MacOK 1 Z16 Z16 [] K5 := ⟨fun i hi => absurd hi (Nat.not_lt_zero i), ok_0, by decide, ok_1 aM_1 aM_2⟩
theorem sgk1 : sgK 1 [aM] = [aM] := by
  have e : sgK 1 [aM] = sgL [aM] := if_neg (by decide)
  rw [e, sgL_cons_y aM [] (by rw [aM_1]; decide)]; rfl
theorem sgk2 : sgK 1 [aM, aS] = [aM] := by
  have e : sgK 1 [aM, aS] = sgL ([aM] ++ [aS]) := if_neg (by decide)
  have e2 : sgK 1 [aM] = sgL [aM] := if_neg (by decide)
  rw [e, sgL_snoc_n aS [aM] (by rw [aS_1]; decide), ← e2, sgk1]
theorem sgnok : SgnOK 1 Z16 Z16 [aM] 23 11 4 3 := ⟨fun i hi => by
  obtain rfl : i = 0 := Nat.lt_one_iff.1 hi
  show decide (61697 ≤ aM.1) = false
  rw [aM_1]; decide, by rw [sgk1]; exact ok_1 aM_1 aM_2, sec_small, by decide, ok_2 aM_1 aM_2 aS_1 aS_2⟩
theorem wf_2 : WfL [aM, aS] := (wf_1 aM_wf).snoc (by decide) aS_wf
attribute [local irreducible] ckB expP sg0 drP asB pkB
theorem al_m : Con Tryz.prog 7 [.agg [.one (.int .u8 1), .ints .u8 16 (zs (List.replicate 16 0)), .ints .u8 16 (zs (List.replicate 16 0)), .one (.fz 0 2 (gP (kpF [])))], .agg [.ints .u8 32 [5, 0, 0, 0, 0, 0, 0, 0, 0, 0, 0, 0, 0, 0, 0, 0, 0, 0, 0, 0, 0, 0, 0, 0, 0, 0, 0, 0, 0, 0, 0, 0]]] [] (.tup [.agg [.one (.int .u8 1), .ints .u8 16 (zs (List.replicate 16 0)), .ints .u8 16 (zs (List.replicate 16 0)), .one (.fz 1 2 (gP (kpF [aM])))], .s (.int .i64 0)]) [] := mac_ok 1 Z16 Z16 [] K5 rfl wf_0 (by decide) z16_len z16_len z16_u8 z16_u8 macok
theorem al_m2 : Con Tryz.prog 7 [.agg [.one (.int .u8 1), .ints .u8 16 (zs (List.replicate 16 0)), .ints .u8 16 (zs (List.replicate 16 0)), .one (.fz 1 2 (gP (kpF [aM])))], .agg [.ints .u8 32 [5, 0, 0, 0, 0, 0, 0, 0, 0, 0, 0, 0, 0, 0, 0, 0, 0, 0, 0, 0, 0, 0, 0, 0, 0, 0, 0, 0, 0, 0, 0, 0]]] [] (.tup [.agg ZPK, .s (.int .i64 8)]) [] := mac_there 1 Z16 Z16 [aM] (wf_1 aM_wf) K5 rfl 0 Nat.zero_lt_one (Nat.le_of_eq aM_1.symm)
theorem al_s : Con Tryz.prog 8 [.agg [.ints .u64 4 [23, 0, 0, 0], .ints .u64 4 [11, 0, 0, 0], .ints .u64 4 [4, 0, 0, 0]], .agg [.one (.int .u8 1), .ints .u8 16 (zs (List.replicate 16 0)), .ints .u8 16 (zs (List.replicate 16 0)), .one (.fz 1 2 (gP (kpF [aM])))], .agg [.ints .u64 4 [3, 0, 0, 0]]] [] (.tup [.agg [.one (.int .u8 1), .ints .u8 16 (zs (List.replicate 16 0)), .ints .u8 16 (zs (List.replicate 16 0)), .one (.fz 2 2 (gP (kpF [aM, aS])))], .s (.int .i64 0)]) [] := by
 have h := sgn_ok 1 Z16 Z16 [aM] 23 11 4 b23 b11 b4 3 b3 (wf_1 aM_wf) (by decide) z16_len z16_len z16_u8 z16_u8 sgnok
 rw [eGR, e3] at h
 exact h
theorem al_k : Con Tryz.prog 17 [.agg [.ints .u64 4 [23, 0, 0, 0], .ints .u64 4 [11, 0, 0, 0], .ints .u64 4 [4, 0, 0, 0]], .agg [.ints .u64 4 [3, 0, 0, 0]]] [] (.tup [.agg [.ints .u64 4 (zs (wd (expP 23 4 3)))], .s (.int .i64 0)]) [] := by
 have h := key_f 23 11 4 b23 b11 b4 3 b3 fine_small (by decide) (by decide)
 rw [eGR, e3] at h
 exact h
theorem al_h1 : Con Tryz.prog 18 [.agg [.one (.int .u8 1), .ints .u8 16 (zs (List.replicate 16 0)), .ints .u8 16 (zs (List.replicate 16 0)), .one (.fz 1 2 (gP (kpF [aM])))], .agg [.ints .u8 32 [5, 0, 0, 0, 0, 0, 0, 0, 0, 0, 0, 0, 0, 0, 0, 0, 0, 0, 0, 0, 0, 0, 0, 0, 0, 0, 0, 0, 0, 0, 0, 0]]] [] (.s (.bool true)) [] := by
 refine hasm_c 1 Z16 Z16 [aM] K5 rfl true (is_y 1 Z16 Z16 [aM] 61505 K5 (wf_1 aM_wf) 0 Nat.zero_lt_one (fun k hk => absurd hk (Nat.not_lt_zero k)) (by show decide (aM.1 = 61505) = true; rw [aM_1]; decide) (macS K5 (pkB 1 Z16 Z16 (encL []))) ?_ rfl)
 have e : keepL (fun x => decide (61505 ≤ x)) [aM] = [] := by
   unfold keepL; rw [List.filter_cons_of_neg (by simp [aM_1])]; rfl
 rw [e]
 exact sum1_y 1 Z16 Z16 [] K5 rfl _ (by rw [pkB_len z16_len z16_len]; decide) (kput_ok 1 Z16 Z16 [] wf_0 ok_0 (by decide) z16_len z16_len z16_u8 z16_u8)
theorem al_h0 : Con Tryz.prog 18 [.agg [.one (.int .u8 1), .ints .u8 16 (zs (List.replicate 16 0)), .ints .u8 16 (zs (List.replicate 16 0)), .one (.fz 0 2 (gP (kpF [])))], .agg [.ints .u8 32 [5, 0, 0, 0, 0, 0, 0, 0, 0, 0, 0, 0, 0, 0, 0, 0, 0, 0, 0, 0, 0, 0, 0, 0, 0, 0, 0, 0, 0, 0, 0, 0]]] [] (.s (.bool false)) [] := by
 refine hasm_c 1 Z16 Z16 [] K5 rfl false (is_n 1 Z16 Z16 [] 61505 K5 wf_0 (fun k hk => absurd hk (Nat.not_lt_zero k)) (macS K5 (pkB 1 Z16 Z16 (encL []))) ?_)
 exact sum1_y 1 Z16 Z16 [] K5 rfl _ (by rw [pkB_len z16_len z16_len]; decide) (kput_ok 1 Z16 Z16 [] wf_0 ok_0 (by decide) z16_len z16_len z16_u8 z16_u8)
theorem al_sd : Con Tryz.prog 19 [.agg [.ints .u64 4 [23, 0, 0, 0], .ints .u64 4 [11, 0, 0, 0], .ints .u64 4 [4, 0, 0, 0]], .agg [.one (.int .u8 1), .ints .u8 16 (zs (List.replicate 16 0)), .ints .u8 16 (zs (List.replicate 16 0)), .one (.fz 2 2 (gP (kpF [aM, aS])))], .agg [.ints .u64 4 (zs (wd (expP 23 4 3)))]] [] (.s (.bool true)) [] := by
 have hc := cont_ok 1 Z16 Z16 [aM, aS] wf_2 (by rw [sgk2]; exact ok_1 aM_1 aM_2) (by decide) z16_len z16_len z16_u8 z16_u8
 rw [sgk2] at hc
 have hl := pkB_len (k := 1) (A := Z16) (B := sgT 1 Z16) (E := encL [aM]) z16_len (sgT_len z16_len)
 have ht := (ok_1 aM_1 aM_2).tot
 have h11 : (11 : Nat) < 2 ^ 256 := b11
 have hcl : sgC 23 11 4 3 (pkB 1 Z16 (sgT 1 Z16) (encL [aM])) < 11 := sg0_lt (by decide)
 have hsl : sgS 23 11 4 3 (pkB 1 Z16 (sgT 1 Z16) (encL [aM])) < 11 := Nat.mod_lt _ (by decide)
 have h := signed_y 1 Z16 Z16 [aM, aS] wf_2 23 11 4 b23 b11 b4 (expP 23 4 3) (expP_lt b23) 1 (by decide) (fun k hk => by
   obtain rfl : k = 0 := Nat.lt_one_iff.1 hk
   show decide (aM.1 = 61697) = false
   rw [aM_1]; decide) (by show decide (aS.1 = 61697) = true; rw [aS_1]; decide) (sgC 23 11 4 3 (pkB 1 Z16 (sgT 1 Z16) (encL [aM]))) (sgS 23 11 4 3 (pkB 1 Z16 (sgT 1 Z16) (encL [aM]))) (Nat.lt_trans hcl h11) (Nat.lt_trans hsl h11) (by
     show (sgPc 1 Z16 Z16 [aM] 23 11 4 3).2 = _
     unfold sgPc
     rw [sgk1]) (pkB 1 Z16 (sgT 1 Z16) (encL [aM])) (by omega) (by omega) hc
 have e : ckB 23 11 4 (expP 23 4 3) (asB (strL signedS) [pkB 1 Z16 (sgT 1 Z16) (encL [aM])]) (sgC 23 11 4 3 (pkB 1 Z16 (sgT 1 Z16) (encL [aM]))) (sgS 23 11 4 3 (pkB 1 Z16 (sgT 1 Z16) (encL [aM]))) = true := by unfold sgS sgC; exact small_ck (asB (strL signedS) [pkB 1 Z16 (sgT 1 Z16) (encL [aM])])
 rw [e, eGR] at h
 exact h
attribute [local irreducible] aMb aSb wd
set_option maxRecDepth 100000 in
theorem alive_c : Con Tryz.prog 6 [] [] (.s (.bool true)) [] := alive_w aMb aSb (zs (wd (expP 23 4 3))) al_m al_m2 al_s al_k al_h1 al_h0 al_sd

end Go.Proofs.X
end

section
open Go Go.Bx Go.Proofs
namespace Go.Proofs.X
attribute [local irreducible] be gN ckS encL chk pk0 pkB macS wd sg0 drP asB expP szA secP fineP inP mayP
end Go.Proofs.X
end

section
/- What comes in, told as values: with the bounds that its size gives. No program. -/
namespace Go.Bx
open Go.ChangeShapes Go.WideShapes
section
variable {Hh : Type} {enc : TypeId × Value → Hh} {P : Program} {w : World} {base : Nat} {spare : Nat → Bool} {held : Bool}
/-- A type's cells, as segments of a shape, where all is of a size that memory bears. -/
def OpZ (enc : TypeId × Value → Hh) (P : Program) (w : World) (base : Nat) (spare : Nat → Bool) (held : Bool) (t : TypeId) (n : Nat) (S : List Seg → Prop) : Prop :=
  P.cellsOf t = n ∧ ∀ (fuel : Nat) (cs : List Value) (x : DataW Hh × List MemPlace), DataW.trod enc P w base spare held fuel t cs = some x → (∀ q ∈ x.1.weights P t, q ≤ reachBytes) → ∃ segs, S segs ∧ sizeS segs = n ∧ RowRep (rhoW w) segs (fun i => cs[i]?)
theorem Op.z {t : TypeId} {n : Nat} {S : List Seg → Prop} (h : Op enc P w base spare held t n S) : OpZ enc P w base spare held t n S := ⟨h.1, fun fuel cs x hx _ => h.2 fuel cs x hx⟩
def mxB : Nat := 140737488351232
def shIntsZ (k : IntKind) : List Seg → Prop := fun s => ∃ l : List Int, l.length ≤ mxB ∧ (∀ y ∈ l, (Lit.int k y).wf = true) ∧ s = [.one (.fzi k l)]
def shRowsZ (wd : Nat) (S : List Seg → Prop) : List Seg → Prop := fun s => ∃ (n : Nat) (rows : Nat → List Seg), n ≤ mxB ∧ (∀ i, i < n → S (rows i) ∧ sizeS (rows i) = wd) ∧ s = [.one (.fz n wd (rowsF rows))]
theorem weights_all : ∀ {ds : List (DataW Hh)} {i : Nat} {e : TypeId} {d : DataW Hh}, ds[i]? = some d → ∀ n ∈ d.weights P e, n ∈ DataW.weightsAll P e ds
  | d0 :: ds, 0, e, d, hd, n, hn => by
    simp only [List.getElem?_cons_zero, Option.some.injEq] at hd
    subst hd
    simp only [DataW.weightsAll, List.mem_append]
    exact Or.inl hn
  | d0 :: ds, i + 1, e, d, hd, n, hn => by
    simp only [List.getElem?_cons_succ] at hd
    simp only [DataW.weightsAll, List.mem_append]
    exact Or.inr (weights_all hd n hn)
  | [], _, _, _, hd, _, _ => by simp at hd
theorem opZ_struct {t : TypeId} {fs : Array Field} (Ss : List (Nat × (List Seg → Prop))) (ht : P.underlying t = some (.struct fs)) (hct : P.cellsOf t = total Ss) (hlen : fs.size = Ss.length) (h : ∀ i f n S, fs[i]? = some f → Ss[i]? = some (n, S) → f.offset = total (Ss.take i) ∧ OpZ enc P w base spare held f.type n S) : OpZ enc P w base spare held t (total Ss) (shCat Ss) :=
  ⟨hct, fun fuel cs x hx hz => by
    obtain ⟨xs, n, _, hxe, hl, hxl, hall⟩ := DataW.trod_struct ht hx
    refine cat_rep fun i m S hi => ?_
    have hil : i < fs.size := by rw [hlen]; exact (List.getElem?_eq_some_iff.1 hi).1
    obtain ⟨f, hf⟩ : ∃ f, fs[i]? = some f := ⟨_, Array.getElem?_eq_getElem hil⟩
    obtain ⟨h1, h2, h3⟩ := h i f m S hf hi
    have h4 := hall i f hf
    obtain ⟨y, hy⟩ : ∃ y, xs[i]? = some y := ⟨_, List.getElem?_eq_getElem (by rw [hxl]; exact hil)⟩
    rw [hy, h1, h2] at h4
    obtain ⟨segs, s1, s2, s3⟩ := h3 _ _ _ h4 fun q hq => by
      refine hz q ?_
      rw [hxe]
      simp only [DataW.weights, ht]
      exact DataW.weights_mem_each (j := i) (t := f.type) (d := y.1) (by simp [hf]) (by simp [hy]) q hq
    refine ⟨segs, s1, s2, fun j z hz => ?_⟩
    obtain ⟨v, hv, hc⟩ := s3 j z hz
    have hj := atS_lt hz
    have hv : ((cs.drop _).take _)[j]? = some v := hv
    rw [List.getElem?_take_of_lt (by omega), List.getElem?_drop] at hv
    exact ⟨v, hv, hc⟩⟩
theorem opZ_rows {t e : TypeId} {m : Nat} {S : List Seg → Prop} (ht : P.underlying t = some (.slice e)) (hct : P.cellsOf t = 1) (h0 : 0 < m) (hb : 1 ≤ P.bytesOf e) (he : OpZ enc P w base spare held e m S) : OpZ enc P w base spare held t 1 (shRowsZ m S) :=
  ⟨hct, fun fuel cs x hx hzz => by
    rcases DataW.trod_slice ht hx with ⟨rfl, _⟩ | ⟨a, len, cap, elems, rest, n, _, rfl, hxe, _, hl, hm, hel, hall, _, _⟩
    · refine ⟨_, ⟨0, fun _ => [], Nat.zero_le _, fun i hi => absurd hi (Nat.not_lt_zero i), rfl⟩, rfl, fun i y hy => ?_⟩
      obtain ⟨rfl, rfl⟩ := atS_one1 hy
      exact ⟨_, rfl, .inl ⟨rfl, _, _, rfl⟩, rfl⟩
    · have each : ∀ i, i < len → ∃ segs cs, S segs ∧ sizeS segs = m ∧ RowRep (rhoW w) segs (fun j => cs[j]?) ∧ w.cells? base (a.add (i * m)) m = some cs := fun i hi => by
        have h1 := hall i hi
        rw [he.1] at h1
        obtain ⟨y, hy⟩ : ∃ y, elems[i]? = some y := ⟨_, List.getElem?_eq_getElem (by rw [hel]; exact hi)⟩
        rw [hy] at h1
        obtain ⟨cs, c1, c2⟩ := Option.bind_eq_some_iff.1 h1
        obtain ⟨segs, s1, s2, s3⟩ := he.2 _ _ _ c2 fun q hq => by
          refine hzz q ?_
          rw [hxe]
          simp only [DataW.weights, ht]
          exact List.mem_cons_of_mem _ (List.mem_append_left _ (weights_all (i := i) (d := y.1) (by simp [hy]) q hq))
        exact ⟨segs, cs, s1, s2, s3, c1⟩
      obtain ⟨rows, hrows⟩ : ∃ rows : Nat → List Seg, ∀ i, i < len → ∃ cs, S (rows i) ∧ sizeS (rows i) = m ∧ RowRep (rhoW w) (rows i) (fun j => cs[j]?) ∧ w.cells? base (a.add (i * m)) m = some cs := by
        refine ⟨fun i => if hi : i < len then Classical.choose (each i hi) else [], fun i hi => ?_⟩
        simp only [hi, dif_pos]
        exact Classical.choose_spec (each i hi)
      have hlb : len ≤ mxB := by
        have h1 := hzz ((elems.length + rest.length) * P.bytesOf e) (by rw [hxe]; simp [DataW.weights, ht])
        have h2 : reachBytes = mxB := rfl
        have h3 : len ≤ (elems.length + rest.length) * P.bytesOf e := by
          rw [← hel]
          exact Nat.le_trans (Nat.le_add_right _ _) (Nat.le_mul_of_pos_right _ hb)
        omega
      refine ⟨_, ⟨len, rows, hlb, fun i hi => by obtain ⟨_, h1, h2, _⟩ := hrows i hi; exact ⟨h1, h2⟩, rfl⟩, rfl, fun i y hy => ?_⟩
      obtain ⟨rfl, rfl⟩ := atS_one1 hy
      refine ⟨_, rfl, ?_, rfl⟩
      by_cases hz : len = 0
      · exact .inl ⟨hz, some a, cap, by rw [hz]⟩
      · obtain ⟨cs0, _, _, _, c0⟩ := hrows 0 (by omega)
        obtain ⟨cells, tt, fr, hb, hsp, _, _⟩ := cells_of c0 h0
        have ha : a = ⟨a.block, a.off, none⟩ := by
          have : a.spot = none := by simpa [Addr.add] using hsp
          cases a; simp_all
        rw [add_block] at hb
        refine .inr ⟨a.block, a.off, cap, cells, by rw [← ha], hl, rhoW_fz hb, fun i j hi hj => ?_⟩
        obtain ⟨cs1, _, s2, s3, c1⟩ := hrows i hi
        obtain ⟨c2, t2, f2, hb2, _, hcl, hce⟩ := cells_of c1 h0
        rw [add_block] at hb2
        rw [hb] at hb2
        cases hb2
        obtain ⟨z, hz'⟩ := atS_some (l := rows i) (i := j) (by rw [s2]; exact hj)
        obtain ⟨u, hu, hc⟩ := s3 j z hz'
        refine ⟨u, ?_, ?_, hc.2⟩
        · have := hce j hj
          have hu : cs1[j]? = some u := hu
          rw [hu] at this
          have e : (a.add (i * m)).off = a.off + i * m := add_off _ _
          rw [e] at this
          rw [← this, Nat.add_assoc]
        · unfold rowsF cellsF
          rw [hz']
          exact hc.1⟩
theorem opZ_ints {t e : TypeId} {k : IntKind} (ht : P.underlying t = some (.slice e)) (he : P.underlying e = some (.int k)) (hc : P.cellsOf e = 1) (hct : P.cellsOf t = 1) (hb : 1 ≤ P.bytesOf e) : OpZ enc P w base spare held t 1 (shIntsZ k) :=
  ⟨hct, fun fuel cs x hx hzz => by
    obtain ⟨segs, ⟨n, rows, hn, hrows, rfl⟩, _, hr⟩ := (opZ_rows ht hct (by omega) hb (op_int he hc).z).2 fuel cs x hx hzz
    have hz : ∀ i, i < n → ∃ z, (Lit.int k z).wf = true ∧ rows i = [.one (.int k z)] := fun i hi => (hrows i hi).1
    obtain ⟨f, hf⟩ : ∃ f : Nat → Int, ∀ i, i < n → (Lit.int k (f i)).wf = true ∧ rows i = [.one (.int k (f i))] := by
      refine ⟨fun i => if hi : i < n then Classical.choose (hz i hi) else 0, fun i hi => ?_⟩
      simp only [hi, dif_pos]
      exact Classical.choose_spec (hz i hi)
    have hlen : ((List.range n).map f).length = n := by simp
    refine ⟨_, ⟨(List.range n).map f, by rw [hlen]; exact hn, fun y hy => ?_, rfl⟩, rfl, fun i y hy => ?_⟩
    · obtain ⟨i, hi, rfl⟩ := List.mem_map.1 hy
      exact (hf i (by simpa using hi)).1
    · obtain ⟨rfl, rfl⟩ := atS_one1 hy
      obtain ⟨v, hv, hc⟩ := hr 0 _ rfl
      refine ⟨v, hv, ?_, hc.2⟩
      rcases hc.1 with ⟨rfl, a, c, rfl⟩ | ⟨b, o, c, cs, rfl, h1, h2, h3⟩
      · exact .inl ⟨rfl, a, c, rfl⟩
      · refine .inr ⟨b, o, c, cs, by rw [hlen], by rw [hlen]; exact h1, h2, fun i hi => ?_⟩
        rw [hlen] at hi
        obtain ⟨u, e1, e2, _⟩ := h3 i 0 hi (by omega)
        rw [Nat.mul_one, Nat.add_zero] at e1
        rw [e1]
        unfold rowsF cellsF at e2
        rw [(hf i hi).2] at e2
        have e2 : u = .int k (f i) := e2
        rw [e2]
        simp [List.getD_eq_getElem?_getD, hi]⟩
theorem arg_aggZ {r : Reach} {b0 : Nat} {t : TypeId} {n : Nat} {S : List Seg → Prop} {v : Value} {d : DataW Hh} {ps : List MemPlace} (hz : ∀ q ∈ d.weights P t, q ≤ reachBytes) (ho : OpZ enc P w base spare held t n S) (ht : (∃ fs, P.underlying t = some (.struct fs)) ∨ ∃ m e, P.underlying t = some (.array m e)) (hval : Value.okWide P w r b0 t v) (hd : DataW.Trod enc P w base spare held t v d ps) : ∃ segs, S segs ∧ (AV.agg segs).rep (rhoW w) v := by
  have hv : ∃ cs, v = .agg cs ∧ cs.size = P.cellsOf t := by
    rcases ht with ⟨fs, ht⟩ | ⟨m, e, ht⟩
    · simp only [Value.okWide, ht] at hval
      obtain ⟨cs, rfl, hs, _⟩ := hval
      exact ⟨cs, rfl, hs⟩
    · simp only [Value.okWide, ht] at hval
      obtain ⟨cs, rfl, hs, _⟩ := hval
      exact ⟨cs, rfl, hs⟩
  obtain ⟨cs, rfl, hs⟩ := hv
  obtain ⟨fuel, hf⟩ := hd
  obtain ⟨segs, s1, s2, s3⟩ := ho.2 _ _ _ hf hz
  refine ⟨segs, s1, cs, rfl, by rw [hs, ho.1, s2], fun i x hx => ?_⟩
  obtain ⟨u, hu, hc⟩ := s3 i x hx
  exact ⟨u, by simpa [Value.cells] using hu, hc⟩
theorem szd {ts : List TypeId} {ds : List (DataW Hh)} {j : Nat} {t : TypeId} {d : DataW Hh} (h : (DataW.weightsEach P ts ds).all (· ≤ reachBytes) = true) (ht : ts[j]? = some t) (hd : ds[j]? = some d) : ∀ q ∈ d.weights P t, q ≤ reachBytes := fun q hq => by
  have := List.all_eq_true.1 h _ (DataW.weights_mem_each ht hd q hq)
  simpa using this
end
end Go.Bx
end

section
/- What comes in: packets, pieces, great numbers. No program. -/
open Go Go.Bx
namespace Go.Proofs.X
open Go.ChangeShapes Go.WideShapes
theorem wf_u16 {y : Int} (h : (Lit.int .u16 y).wf = true) : 0 ≤ y ∧ y < 65536 := by
  simp [Lit.wf, IntKind.min, IntKind.max, IntKind.signed, IntKind.bits] at h; omega
theorem u8_of {l : List Int} (h : ∀ y ∈ l, (Lit.int .u8 y).wf = true) : U8' l := fun i => wf_u8 (wf_getD h i)
abbrev shPc : List Seg → Prop := shCat [(1, shInt .u16), (1, shIntsZ .u8)]
theorem pc_open {s : List Seg} (h : shPc s) : ∃ p : Pc, p.1 < 65536 ∧ U8' p.2 ∧ p.2.length ≤ mxB ∧ s = PR p := by
  obtain ⟨_, _, ⟨t, ht, rfl⟩, _, ⟨_, _, ⟨l, hl, hw, rfl⟩, _, rfl, rfl⟩, rfl⟩ := h
  have hb := wf_u16 ht
  obtain ⟨n, rfl⟩ : ∃ n : Nat, t = (n : Int) := ⟨t.toNat, by omega⟩
  exact ⟨(n, l), by simp; omega, u8_of hw, hl, rfl⟩
theorem rows_pieces {n : Nat} {rows : Nat → List Seg} (h : ∀ i, i < n → shPc (rows i) ∧ sizeS (rows i) = 2) : ∃ L : List Pc, L.length = n ∧ (∀ p ∈ L, p.1 < 65536 ∧ U8' p.2 ∧ p.2.length ≤ mxB) ∧ ∀ ρ v, (SV.fz n 2 (rowsF rows)).rep ρ v → (PARS L).rep ρ v := by
  obtain ⟨f, hf⟩ : ∃ f : Nat → Pc, ∀ i, i < n → (f i).1 < 65536 ∧ U8' (f i).2 ∧ (f i).2.length ≤ mxB ∧ rows i = PR (f i) := by
    refine ⟨fun i => if hi : i < n then Classical.choose (pc_open (h i hi).1) else p0, fun i hi => ?_⟩
    simp only [hi, dif_pos]
    exact Classical.choose_spec (pc_open (h i hi).1)
  have hl : ((List.range n).map f).length = n := by simp
  refine ⟨(List.range n).map f, hl, fun p hp => ?_, fun ρ v hv => ?_⟩
  · obtain ⟨i, hi, rfl⟩ := List.mem_map.1 hp
    have := hf i (by simpa using hi)
    exact ⟨this.1, this.2.1, this.2.2.1⟩
  · show (SV.fz ((List.range n).map f).length 2 (gP fun i => ((List.range n).map f).getD i p0)).rep ρ v
    rw [hl]
    refine fz_ext (fun i j hi hj => ?_) hv
    show cellsF (rows i) j = cellsF (PR (((List.range n).map f).getD i p0)) j
    rw [(hf i hi).2.2.2]
    simp [List.getD_eq_getElem?_getD, hi]
abbrev shPk : List Seg → Prop := shCat [(1, shInt .u8), (16, shArr .u8 16), (16, shArr .u8 16), (1, shRowsZ 2 shPc)]
theorem pkt_open {s : List Seg} (h : shPk s) : ∃ (k : Nat) (A B : List Int) (L : List Pc), k < 256 ∧ A.length = 16 ∧ B.length = 16 ∧ U8' A ∧ U8' B ∧ L.length ≤ mxB ∧ (∀ p ∈ L, p.1 < 65536 ∧ U8' p.2 ∧ p.2.length ≤ mxB) ∧ ∀ w v, (AV.agg s).rep (rhoW w) v → (AV.agg (PKT k A B L)).rep (rhoW w) v := by
  obtain ⟨_, _, ⟨k, hk, rfl⟩, _, ⟨_, _, ⟨A, hA, wA, rfl⟩, _, ⟨_, _, ⟨B, hB, wB, rfl⟩, _, ⟨_, _, ⟨n, rows, hn, hrows, rfl⟩, _, rfl, rfl⟩, rfl⟩, rfl⟩, rfl⟩ := h
  have hb := wf_u8 hk
  obtain ⟨k, rfl⟩ : ∃ m : Nat, k = (m : Int) := ⟨k.toNat, by omega⟩
  obtain ⟨L, hLn, hLp, hLr⟩ := rows_pieces hrows
  refine ⟨k, A, B, L, by omega, hA, hB, u8_of wA, u8_of wB, by omega, hLp, fun w v hv => ?_⟩
  exact conv_agg (H := []) (R := []) (.same (.same (.same (.one (x := .fz n 2 (rowsF rows)) (y := PARS L) (fun _ _ ρ _ u _ _ hr => hLr ρ u hr) .nil)))) (fun _ => none) (fun b => w.heap.size ≤ b) (rhoW w) w v (fun _ hi => by cases hi) ((hrep_w w).sub (fun id k hk => by cases hk)) hv
abbrev shGiv : List Seg → Prop := shCat [(12, shCat [(4, shArr .u64 4), (4, shArr .u64 4), (4, shArr .u64 4)]), (4, shArr .u64 4), (32, shArr .u8 32), (4, shArr .u64 4)]
abbrev shOth : List Seg → Prop := shCat [(16, shArr .u8 16), (32, shArr .u8 32), (2, shPc)]
end Go.Proofs.X
end

section
open Go Go.Bx Go.Proofs
namespace Go.Proofs.X
attribute [local irreducible] be gN ckS encL chk pk0 pkB macS wd sg0 drP asB expP szA secP fineP inP mayP macPc sgPc
end Go.Proofs.X
end

section
/- A scope in which the run jumps back to one label. No program. -/
namespace Go.Bx
/-- As Q; by a goto to l: J; by no other. -/
def Jmp (l : Nat) (J : Tm → Heap → Prop) (Q : Exit → Tm → Heap → Prop) : Exit → Tm → Heap → Prop
  | .goto l', T, H => l' = l ∧ J T H
  | e, T, H => Q e T H
section
variable {E : Env} {T : Tm} {H : Heap} {Q : Exit → Tm → Heap → Prop} {J K : Tm → Heap → Prop} {l : Nat}
theorem r_jmp (h : Q .ret T H) : Jmp l J Q .ret T H := h
theorem wp_skip_seq {P : Program} {y : Code} {a : Act} {w : World} {Q : Exit → Act → World → Prop} (h : y.wp P Q a w) : (Code.seq .skip y).wp P Q a w := wp_seq (wp_skip h)
open Classical in
theorem w_jumps {c r0 : Code} (l : Nat) (hf : findLabel c l = some (.seq .skip r0)) (I : Nat → Tm → Heap → Prop)
    (first : (∀ T H, (∃ n T2 H2, Weak E T H T2 H2 ∧ I n T2 H2) → Wp E r0 T H (Jmp l (fun T1 H1 => ∃ n T2 H2, Weak E T1 H1 T2 H2 ∧ I n T2 H2) Q)) → Wp E c T H (Jmp l (fun T1 H1 => ∃ n T2 H2, Weak E T1 H1 T2 H2 ∧ I n T2 H2) Q))
    (pass : ∀ n T H, I n T H → Wp E r0 T H (Jmp l (fun T1 H1 => ∃ n', n' < n ∧ ∃ T2 H2, Weak E T1 H1 T2 H2 ∧ I n' T2 H2) Q)) : Wp E (.scope c) T H Q := by
  intro a w hr
  let R : Nat → Act → World → Prop := fun n a w => ∃ T H, I n T H ∧ Rep E T H a w
  refine wp_scope_jumps (rest := .seq .skip r0) l (fun a w => ∃ n, R n a w) (fun a w => leastOf fun n => R n a w) hf ?_ ?_
  · refine wp_mono (first (fun T1 H1 ⟨n, T2, H2, h1, h2⟩ => w_weak h1 ((pass n T2 H2 h2).mono ?_)) a w hr) ?_
    · intro e T H he
      cases e with
      | goto l' => obtain ⟨e1, n', _, T3, H3, k1, k2⟩ := he; exact ⟨e1, n', T3, H3, k1, k2⟩
      | normal => exact he
      | exit i => exact he
      | ret => exact he
      | panic ch => exact he
      | outgrown => exact he
    · rintro e a' w' ⟨T1, H1, h1, h2⟩
      cases e with
      | goto l' => obtain ⟨e1, n, T2, H2, k1, k2⟩ := h1; exact ⟨e1, n, T2, H2, k2, k1 _ _ h2⟩
      | normal => exact ⟨T1, H1, h1, h2⟩
      | exit i => exact ⟨T1, H1, h1, h2⟩
      | ret => exact ⟨T1, H1, h1, h2⟩
      | panic ch => exact ⟨T1, H1, h1, h2⟩
      | outgrown => exact ⟨T1, H1, h1, h2⟩
  · intro a w hJ
    obtain ⟨T1, H1, h1, h2⟩ := (leastOf_spec hJ).1
    refine wp_skip_seq (wp_mono (pass _ T1 H1 h1 a w h2) ?_)
    rintro e a' w' ⟨T1, H1, h1, h2⟩
    cases e with
    | goto l' =>
      obtain ⟨e1, n', hlt, T2, H2, k1, k2⟩ := h1
      have hR : R n' a' w' := ⟨T2, H2, k2, k1 _ _ h2⟩
      exact ⟨e1, ⟨n', hR⟩, Nat.lt_of_le_of_lt ((leastOf_spec (p := fun n => R n a' w') ⟨n', hR⟩).2 n' hR) hlt⟩
    | normal => exact ⟨T1, H1, h1, h2⟩
    | exit i => exact ⟨T1, H1, h1, h2⟩
    | ret => exact ⟨T1, H1, h1, h2⟩
    | panic ch => exact ⟨T1, H1, h1, h2⟩
    | outgrown => exact ⟨T1, H1, h1, h2⟩
theorem j_start {r0 : Code} {I : Nat → Tm → Heap → Prop} {T' : Tm} {H' : Heap} {QQ : Exit → Tm → Heap → Prop} (hk : ∀ T H, (∃ n T2 H2, Weak E T H T2 H2 ∧ I n T2 H2) → Wp E r0 T H QQ) (n : Nat) (hI : I n T' H') (hw : Weak E T H T' H') : Wp E r0 T H QQ := hk T H ⟨n, T', H', hw, hI⟩
theorem j_round {I : Nat → Tm → Heap → Prop} {n : Nat} {T2 : Tm} {H2 : Heap} (n' : Nat) (hn : n' < n) (hI : I n' T2 H2) (hw : Weak E T H T2 H2) : Jmp l (fun T1 H1 => ∃ n', n' < n ∧ ∃ T2 H2, Weak E T1 H1 T2 H2 ∧ I n' T2 H2) Q (.goto l) T H := ⟨rfl, n', hn, T2, H2, hw, hI⟩
end
section
variable {P : Program} {T : Tm} {H : Heap} {d : Option Tmp} {ty : TypeId} {pos : String} {af : Array Edge} {g : Option (Nat × Bool)}
/-- A truth is what it is. -/
theorem k_eqbb {t tyy : TypeId} {x y : Operand} {b : Bool} [hu : Und P t .bool] (hx : ev T x = .s (.bool b) := by rfl) (hy : ev T y = .s (.bool b) := by rfl) : LOk P ⟨d, .binOp .eql t x y tyy, ty, pos, af, g⟩ T H H (.s (.bool true)) [] [] := by
  have h := l_eqlb (d := d) (ty := ty) (pos := pos) (af := af) (g := g) (tyy := tyy) (H := H) hx hy hu.h
  rwa [beq_self_eq_true] at h
/-- No bytes, told as a list. -/
theorem con_nilz {f : FuncId} {args : List AV} {H' : Heap} {e : Int} (h : Con P f args H (.tup [.s .nils, .s (.int .i64 e)]) H') : Con P f args H (.tup [.s (.fzi .u8 []), .s (.int .i64 e)]) H' :=
  ⟨h.len, fun W ρ vals w h1 h2 h3 h4 => (h.run W ρ vals w h1 h2 h3 h4).mono fun e w' ⟨v', ρ', W', he, hnx, vs, hvs, hx⟩ => ⟨v', ρ', W', he, hnx, vs, hvs, fun i x hi => match i, hi with
    | 0, hi => by
      obtain rfl := Option.some.inj hi
      obtain ⟨u, hu, hr⟩ := hx 0 _ rfl
      exact ⟨u, hu, .inl ⟨rfl, none, 0, hr⟩⟩
    | i + 1, hi => hx (i + 1) x hi⟩⟩
end
end Go.Bx
end

section
/- Types and functions of what is read back, as instances. -/
open Go Go.Bx Go.Proofs
namespace Go.Proofs.X
instance : Clb Tryz.prog 82 := ⟨_, Tryz.func82, by kernel_rfl, rfl⟩
instance : Clb Tryz.prog 109 := ⟨_, Tryz.func109, by kernel_rfl, rfl⟩
instance : Clb Tryz.prog 47 := ⟨_, Tryz.func47, by kernel_rfl, rfl⟩
instance : Clb Tryz.prog 83 := ⟨_, Tryz.func83, by kernel_rfl, rfl⟩
instance : Clb Tryz.prog 13 := ⟨_, Tryz.func13, by kernel_rfl, rfl⟩
instance : Clb Tryz.prog 39 := ⟨_, Tryz.func39, by kernel_rfl, rfl⟩
instance : Clb Tryz.prog 41 := ⟨_, Tryz.func41, by kernel_rfl, rfl⟩
instance : Clb Tryz.prog 43 := ⟨_, Tryz.func43, by kernel_rfl, rfl⟩
instance : Clb Tryz.prog 44 := ⟨_, Tryz.func44, by kernel_rfl, rfl⟩
instance : Clb Tryz.prog 14 := ⟨_, Tryz.func14, by kernel_rfl, rfl⟩
instance : Clb Tryz.prog 48 := ⟨_, Tryz.func48, by kernel_rfl, rfl⟩
instance : Clb Tryz.prog 84 := ⟨_, Tryz.func84, by kernel_rfl, rfl⟩
instance : Clb Tryz.prog 4 := ⟨_, Tryz.func4, by kernel_rfl, rfl⟩
instance : NoEq Tryz.prog 24 := ⟨by kernel_rfl⟩
instance : Und Tryz.prog 44 (.func #[] #[4] false) := ⟨Tryz.underlying44⟩
instance : Sz Tryz.prog 44 1 := ⟨Tryz.sizeOf44⟩
instance : Ag Tryz.prog 44 false := ⟨Tryz.isAgg44⟩
instance : Zv Tryz.prog 44 [.one (.val .nilFunc)] := ⟨_, Tryz.zeroValue44, by kernel_rfl⟩
instance : Inf Tryz.prog 44 Tryz.t44 := ⟨by kernel_rfl⟩
instance : Und Tryz.prog 94 (.slice 44) := ⟨Tryz.underlying94⟩
instance : Sz Tryz.prog 94 1 := ⟨Tryz.sizeOf94⟩
instance : Ag Tryz.prog 94 false := ⟨Tryz.isAgg94⟩
instance : Zv Tryz.prog 94 [.one .nils] := ⟨_, Tryz.zeroValue94, by kernel_rfl⟩
instance : Zn Tryz.prog 94 := ⟨Tryz.zeroValue94⟩
instance : Inf Tryz.prog 94 Tryz.t94 := ⟨by kernel_rfl⟩
instance : Und Tryz.prog 132 (.func #[5] #[4] false) := ⟨Tryz.underlying132⟩
instance : Sz Tryz.prog 132 1 := ⟨Tryz.sizeOf132⟩
instance : Ag Tryz.prog 132 false := ⟨Tryz.isAgg132⟩
instance : Zv Tryz.prog 132 [.one (.val .nilFunc)] := ⟨_, Tryz.zeroValue132, by kernel_rfl⟩
instance : Inf Tryz.prog 132 Tryz.t132 := ⟨by kernel_rfl⟩
end Go.Proofs.X
end

section
/- Pieces, read back from their bytes. No program. -/
open Go Go.Bx
namespace Go.Proofs.X
/-- What is to come, from the i-th piece on. -/
def enF (M : List Pc) (i : Nat) : List Int := encL (M.drop i)
theorem enF_0 (M : List Pc) : enF M 0 = encL M := rfl
theorem enF_s {M : List Pc} {i : Nat} (h : i < M.length) : enF M i = encP (M.getD i p0) ++ enF M (i + 1) := by
  unfold enF
  rw [List.drop_eq_getElem_cons h, encL_cons, List.getD_eq_getElem?_getD, List.getElem?_eq_getElem h]; rfl
theorem enF_n (M : List Pc) : enF M M.length = [] := by unfold enF; rw [List.drop_length]; rfl
/-- What a piece's bytes tell. -/
structure RdP (E : List Int) (p : Pc) (R : List Int) : Prop where
  len : E.length = up8 (4 + p.2.length) + R.length
  ty : gN E 2 = p.1
  sz : gN ((E.drop 2).take (E.length - 2)) 2 = p.2.length
  by_ : (E.drop 4).take p.2.length = p.2
  ze : (E.drop (4 + p.2.length)).take (up8 (4 + p.2.length) - (4 + p.2.length)) = List.replicate (up8 (4 + p.2.length) - (4 + p.2.length)) 0
  re : (E.drop (up8 (4 + p.2.length))).take (E.length - up8 (4 + p.2.length)) = R
theorem rdP (p : Pc) (R : List Int) (ht : p.1 < 65536) (hl : p.2.length < 65536) : RdP (encP p ++ R) p R := by
  have hl2 := encP_len p
  have hu := up8_le (4 + p.2.length)
  have e4 : encP p ++ R = (be 2 p.1 ++ be 2 p.2.length) ++ (p.2 ++ (List.replicate (up8 (4 + p.2.length) - (4 + p.2.length)) 0 ++ R)) := by unfold encP; simp only [List.append_assoc]
  have l4 : (be 2 p.1 ++ be 2 p.2.length).length = 4 := by simp [be_len]
  have e2 : encP p ++ R = be 2 p.1 ++ (be 2 p.2.length ++ (p.2 ++ (List.replicate (up8 (4 + p.2.length) - (4 + p.2.length)) 0 ++ R))) := by rw [e4, List.append_assoc]
  have e5 : encP p ++ R = (be 2 p.1 ++ be 2 p.2.length ++ p.2) ++ (List.replicate (up8 (4 + p.2.length) - (4 + p.2.length)) 0 ++ R) := by rw [e4, List.append_assoc (be 2 p.1 ++ be 2 p.2.length)]
  refine ⟨by rw [List.length_append, hl2], ?_, ?_, ?_, ?_, ?_⟩
  · rw [e2]; exact gN_be 2 _ _ (by simpa using ht)
  · rw [gN_take _ _ _ (by rw [List.length_append, hl2]; omega), e2, List.drop_left' (be_len 2 _)]
    exact gN_be 2 _ _ (by simpa using hl)
  · rw [e4, List.drop_left' l4, List.take_left' rfl]
  · rw [e5, List.drop_left' (by simp [be_len]; omega), List.take_left' (by simp)]
  · rw [List.drop_left' hl2]; exact List.take_of_length_le (by rw [List.length_append, hl2]; omega)
theorem rdF {M : List Pc} {i : Nat} (h : i < M.length) (ht : (M.getD i p0).1 < 65536) (hl : (M.getD i p0).2.length < 65536) : RdP (enF M i) (M.getD i p0) (enF M (i + 1)) := by
  rw [enF_s h]; exact rdP _ _ ht hl
theorem enF_u8 {M : List Pc} (h : ∀ p ∈ M, U8' p.2) (i : Nat) : U8' (enF M i) := U8'_encL fun p hp => h p (List.mem_of_mem_drop hp)
theorem be2 (v : Nat) : ∃ x y, be 2 v = [x, y] := by
  have h := be_len 2 v
  match hb : be 2 v, h with
  | [x, y], _ => exact ⟨x, y, rfl⟩
/-- What a packet's bytes tell. -/
structure PkF (Y Y0 : List Int) (k : Nat) (A B E : List Int) : Prop where
  u8 : U8' Y
  len : Y.length = 40 + E.length
  b0 : Y.getD 0 0 = 1
  b1 : Y.getD 1 0 = ((k : Nat) : Int)
  sz : gN ((Y.drop 2).take (Y.length - 2)) 2 = Y.length
  b6 : Y.getD 6 0 = 0
  b7 : Y.getD 7 0 = 0
  ck : gN ((Y.drop 4).take (Y.length - 4)) 2 = chk Y0
  cl : (Y.set 4 0).set 5 0 = Y0
  u0 : U8' Y0
  fr : ((Y.drop 8).take (Y.length - 8)).take 16 = A
  to : ((Y.drop 24).take (Y.length - 24)).take 16 = B
  re : (Y.drop 40).take (Y.length - 40) = E
theorem pkF {k : Nat} {A B E : List Int} (hk : k < 256) (hA : A.length = 16) (hB : B.length = 16) (hUA : U8' A) (hUB : U8' B) (hUE : U8' E) (hE : 40 + E.length < 65536) : PkF (pkB k A B E) (pk0 k A B E) k A B E := by
  have hl := pkB_len (k := k) (E := E) hA hB
  have hl0 := pk0_len (k := k) (E := E) hA hB
  have hu0 := U8'_pk0 hk hUA hUB hUE
  have hc := chk_lt (pk0 k A B E)
  have hu : U8' (pkB k A B E) := by
    have := U8'_app (U8'_app (U8'_take hu0 4) (U8'_be 2 (chk (pk0 k A B E)))) (U8'_drop hu0 6)
    have e : (pk0 k A B E).take 4 ++ be 2 (chk (pk0 k A B E)) ++ (pk0 k A B E).drop 6 = pkB k A B E := by
      unfold pkB
      generalize be 2 (chk (pk0 k A B E)) = c
      obtain ⟨x, y, h⟩ := be2 (40 + E.length)
      unfold pk0 pkH
      rw [h]; rfl
    rwa [e] at this
  have e0 : pk0 k A B E = pkH k (40 + E.length) ++ ([0, 0] ++ ([0, 0] ++ (A ++ (B ++ E)))) := rfl
  have e : pkB k A B E = pkH k (40 + E.length) ++ (be 2 (chk (pk0 k A B E)) ++ ([0, 0] ++ (A ++ (B ++ E)))) := rfl
  generalize hz : chk (pk0 k A B E) = c at *
  generalize hy : pkB k A B E = Y at *
  generalize pk0 k A B E = Y0 at *
  obtain ⟨x, y, hxy⟩ := be2 (40 + E.length)
  obtain ⟨u, v, huv⟩ := be2 c
  have n2 := gN_be 2 (40 + E.length) (be 2 c ++ ([0, 0] ++ (A ++ (B ++ E)))) (by simpa using hE)
  have c2 := gN_be 2 c ([0, 0] ++ (A ++ (B ++ E))) (by simpa using hc)
  unfold pkH at e e0
  rw [hxy] at e e0 n2
  rw [huv] at e n2 c2
  simp only [List.cons_append, List.nil_append] at e e0 n2 c2
  have h2 : Y.drop 2 = x :: y :: u :: v :: 0 :: 0 :: (A ++ (B ++ E)) := by rw [e]; rfl
  have h4 : Y.drop 4 = u :: v :: 0 :: 0 :: (A ++ (B ++ E)) := by rw [e]; rfl
  have h8 : Y.drop 8 = A ++ (B ++ E) := by rw [e]; rfl
  have h24 : Y.drop 24 = B ++ E := by
    have : Y.drop 24 = (Y.drop 8).drop 16 := by rw [List.drop_drop]
    rw [this, h8]; exact List.drop_left' hA
  have h40 : Y.drop 40 = E := by
    have : Y.drop 40 = (Y.drop 24).drop 16 := by rw [List.drop_drop]
    rw [this, h24]; exact List.drop_left' hB
  refine ⟨hu, hl, by rw [e]; rfl, by rw [e]; rfl, ?_, by rw [e]; rfl, by rw [e]; rfl, ?_, by rw [e, e0]; rfl, hu0, ?_, ?_, ?_⟩
  · rw [gN_take _ _ _ (by omega), h2, n2, hl]
  · rw [gN_take _ _ _ (by omega), h4, c2, hz]
  · rw [List.take_take, Nat.min_eq_left (by omega), h8, List.take_left' hA]
  · rw [List.take_take, Nat.min_eq_left (by omega), h24, List.take_left' hB]
  · rw [h40]; exact List.take_of_length_le (by omega)
end Go.Proofs.X
end

section
open Go Go.Bx Go.Proofs
namespace Go.Proofs.X
theorem filled_u (n : Nat) (h : n ≤ 1000000000) : Con Tryz.prog 81 [.s (.int .i64 ((n : Nat) : Int))] [] (.s (.int .i64 ((up8 n : Nat) : Int))) [] := filled_n n h
attribute [local irreducible] be gN ckS encL enF up8 chk pk0 pkB
set_option maxRecDepth 100000 in
set_option maxHeartbeats 4000000 in
theorem pget1_n  : Con Tryz.prog 83 [.s (.int .u8 0)] [] (.s (.bool false)) [] := by
 refine con_in 5 Tryz.func83 rfl rfl (m := 0) rfl ?_
 intro E hP hn hE
 refine w_seq ?_
 refine g_reg hP hn ?_
 refine s_op k_as ?_
 refine s_nil trivial ?_
 refine n_wp ?_
 refine w_seq ?_
 refine g_reg hP hn ?_
 refine s_op k_mv ?_
 refine s_op k_neq ?_
 refine s_op k_as ?_
 refine s_nil trivial ?_
 refine n_wp ?_
 refine w_ret ?_
 exact d_ret hP hn hE [] (by first | exact r_tmp Tryz.results83 | exact r_tmpa Tryz.results83)

set_option maxRecDepth 100000 in
set_option maxHeartbeats 4000000 in
theorem ixb_n (B : List Int) (hB : ∀ i, i < B.length → B.getD i 0 = 0) (hBl : B.length ≤ 1000000) : Con Tryz.prog 109 [.s (.fzi .u8 B), .s (.val (.func (.func 83) #[] #[]))] [] (.s (.int .i64 (-1))) [] := by
 refine con_in 19 Tryz.func109 rfl rfl (m := 0) rfl ?_
 intro E hP hn hE
 refine w_seq ?_
 refine g_reg hP hn ?_
 refine s_op k_as ?_
 refine s_nil trivial ?_
 refine n_wp ?_
 refine w_seq ?_
 refine w_seq ?_
 refine w_weak (weak_conv 1 rfl (conv_vf (q := capF []))) ?_
 refine g_reg hP hn ?_
 refine s_op k_mv ?_
 refine s_op k_len ?_
 refine s_op k_mv ?_
 refine s_nil trivial ?_
 refine n_wp ?_
 refine w_block ?_
 refine c_loop (fun m_ T H => ∃ i, i ≤ B.length ∧ m_ = B.length - i ∧ T = [(0, .s (.fzi .u8 B)), (1, .s (.noid (.clo 83 0 (capF [])))), (7, .s (.int .i64 ((B.length : Nat) : Int))), (8, .s (.int .i64 ((i : Nat) : Int)))] ∧ H = []) (B.length) ⟨0, by omega, rfl, rfl, rfl⟩ (wk hE []) ?_
 rintro n_ T_ H_ ⟨i, hi, rfl, rfl, rfl⟩
 refine w_seq ?_
 refine g_reg hP hn ?_
 refine s_op k_lss ?_
 refine s_nil trivial ?_
 refine n_wp ?_
 refine w_seq ?_
 refine w_if rfl (fun h_t9 => ?_) (fun h_t9 => ?_)
 · skip
   refine w_skip ?_
   refine n_wp ?_
   refine w_seq ?_
   refine w_block ?_
   refine w_seq ?_
   refine g_reg hP hn ?_
   refine s_op k_mv ?_
   refine s_op k_as ?_
   refine s_nil trivial ?_
   refine n_wp ?_
   refine w_seq ?_
   refine g_reg hP hn ?_
   refine s_op k_mv ?_
   refine s_op k_mv ?_
   refine s_op k_mv ?_
   refine s_op k_ix ?_
   refine s_op k_ld ?_
   rw [hB i h_t9]
   refine s_op (k_callN [] (con := pget1_n)) ?_
   refine s_nil trivial ?_
   refine n_wp ?_
   refine w_F rfl ?_ 
   refine w_skip ?_
   refine n_blo ?_
   refine n_wp ?_
   refine g_reg hP hn ?_
   refine s_op k_add ?_
   refine s_op k_mv ?_
   refine s_nil trivial ?_
   exact n_round (B.length - (i + 1)) (by omega) ⟨i + 1, by omega, rfl, rfl, rfl⟩ (wk hE [])
 · skip
   refine w_exit ?_
   refine x_thn ?_
   refine x_thn ?_
   refine x_eq ?_
   refine n_wp ?_
   refine w_seq ?_
   refine g_reg hP hn ?_
   refine s_op k_as ?_
   refine s_nil trivial ?_
   refine n_wp ?_
   refine w_ret ?_
   exact d_ret hP hn hE [] (by first | exact r_tmp Tryz.results109 | exact r_tmpa Tryz.results109)

set_option maxRecDepth 100000 in
set_option maxHeartbeats 4000000 in
theorem cnb_n (B : List Int) (hB : ∀ i, i < B.length → B.getD i 0 = 0) (hBl : B.length ≤ 1000000) : Con Tryz.prog 82 [.s (.fzi .u8 B), .s (.val (.func (.func 83) #[] #[]))] [] (.s (.bool false)) [] := by
 refine con_in 9 Tryz.func82 rfl rfl (m := 0) rfl ?_
 intro E hP hn hE
 refine w_seq ?_
 refine g_reg hP hn ?_
 refine s_op k_as ?_
 refine s_nil trivial ?_
 refine n_wp ?_
 refine w_seq ?_
 refine g_reg hP hn ?_
 refine s_op k_mv ?_
 refine s_op k_mv ?_
 refine s_op (k_call [] (con := ixb_n B hB hBl)) ?_
 refine s_op (l_bin rfl rfl (b_geq (r := false) (by decide))) ?_
 refine s_op k_as ?_
 refine s_nil trivial ?_
 refine n_wp ?_
 refine w_ret ?_
 exact d_ret hP hn hE [] (by first | exact r_tmp Tryz.results82 | exact r_tmpa Tryz.results82)

set_option maxRecDepth 100000 in
set_option maxHeartbeats 4000000 in
theorem clpg_n (n q : Nat) (g : Nat → Nat → SV) (hn : n ≤ q) : Con Tryz.prog 29 [.s (.gro 0 2 n)] [some ⟨true, [.rows (q) 2 (g)]⟩] (.s (.gro 0 2 n)) [some ⟨true, [.rows (q) 2 (g)]⟩] := by
 refine con_in 9 Tryz.func29 rfl rfl (m := 1) rfl ?_
 intro E hP hn hE
 refine w_seq ?_
 refine g_reg hP hn ?_
 refine s_op k_as ?_
 refine s_nil trivial ?_
 refine n_wp ?_
 refine w_seq ?_
 refine g_reg hP hn ?_
 refine s_op k_mv ?_
 refine s_op k_mv ?_
 refine s_op k_len ?_
 refine s_op k_mv ?_
 refine s_op k_len ?_
 refine s_op k_slc ?_
 refine s_op k_as ?_
 refine s_nil trivial ?_
 refine n_wp ?_
 refine w_ret ?_
 exact d_ret hP hn hE [0] (by first | exact r_tmp Tryz.results29 | exact r_tmpa Tryz.results29)

set_option maxRecDepth 100000 in
set_option maxHeartbeats 4000000 in
theorem pget_y (k : Nat) (M : List Pc) (hw : WfL M) (ok : okP k M) : Con Tryz.prog 47 [.s (.fzi .u8 (encL M))] [] (.tup [.s (PARS M), .s (.int .i64 0)]) [] := by
 refine con_in 75 Tryz.func47 rfl rfl (m := 0) rfl ?_
 intro E hP hn hE
 refine w_seq ?_
 refine g_reg hP hn ?_
 refine s_op k_as ?_
 refine s_op k_as ?_
 refine s_nil trivial ?_
 refine n_wp ?_
 refine w_jumps 0 rfl (fun m_ T H => ∃ i, i ≤ M.length ∧ m_ = M.length - i ∧ T = [(0, .s (.fzi .u8 (enF M i))), (2, .s (.gro 0 2 i)), (4, .s (.int .u64 ((lastT M i : Nat) : Int)))] ∧ H = [some ⟨true, [.rows (i) 2 (gP (kpF M))]⟩]) (fun hk_ => ?_) ?_
 · skip
   refine w_seq ?_
   refine w_seq ?_
   refine g_reg hP hn ?_
   refine s_op k_mv ?_
   refine s_op k_len ?_
   refine s_op k_gtr ?_
   refine s_nil trivial ?_
   refine n_wp ?_
   have htot := ok.tot
   refine w_F rfl ?_ (decide_eq_false (by omega))
   refine w_skip ?_
   refine n_wp ?_
   refine w_seq ?_
   refine g_reg hP hn ?_
   refine s_op k_as ?_
   refine s_nil trivial ?_
   refine n_wp ?_
   refine w_seq ?_
   refine w_label ?_
   refine n_wp ?_
   refine w_weak (weak_gro 2 2 0 (segs := [.rows 0 2 (gP (kpF M))]) rfl rfl rfl) ?_
   exact j_start hk_ (M.length) ⟨0, by omega, rfl, by rw [enF_0], rfl⟩ (wk hE [0])
 rintro n_ T_ H_ ⟨i, hi, rfl, rfl, rfl⟩
 refine w_seq ?_
 refine w_seq ?_
 refine g_reg hP hn ?_
 refine s_op k_mv ?_
 refine s_op k_len ?_
 refine s_op k_eql ?_
 refine s_nil trivial ?_
 refine n_wp ?_
 refine w_if rfl (fun h_t16 => ?_) (fun h_t16 => ?_)
 · skip
   obtain rfl : i = M.length := by
    rcases Nat.lt_or_ge i M.length with h | h
    · have := (rdF h (by have := (hw.get i).1; omega) (by have := ok.bd i h; omega)).len
      have := (up8_le (4 + (M.getD i p0).2.length)).1
      omega
    · omega
   refine w_seq ?_
   refine g_reg hP hn ?_
   refine s_op k_mv ?_
   refine s_op (k_call [0] (con := clpg_n M.length M.length (gP (kpF M)) (Nat.le_refl _))) ?_
   refine s_op k_as ?_
   refine s_op k_as ?_
   refine s_nil trivial ?_
   refine n_wp ?_
   refine w_weak (frz_grz 2) ?_
   refine w_ret ?_
   refine r_thn ?_
   refine r_jmp ?_
   exact d_ret hP hn hE [] (ret2 Tryz.results47 (by first | exact ri_tmp rfl | exact ri_tmpa rfl) (by first | exact ri_tmp rfl | exact ri_tmpa rfl))
 · skip
   have hi2 : i < M.length := by
    rcases Nat.lt_or_ge i M.length with h | h
    · exact h
    · obtain rfl : i = M.length := by omega
      rw [enF_n] at h_t16; exact absurd rfl h_t16
   have hb := ok.bd i hi2
   have hup := ok.up i hi2
   have ht := (hw.get i).1
   have hr := rdF hi2 ht (by omega)
   have hel := hr.len
   have hu8 := up8_le (4 + (M.getD i p0).2.length)
   have hn16 := ok.n
   have hUi := enF_u8 (fun p hp => (hw.all p hp).2.1) i
   refine w_skip ?_
   refine n_wp ?_
   refine w_seq ?_
   refine w_seq ?_
   refine g_reg hP hn ?_
   refine s_op k_mv ?_
   refine s_op k_len ?_
   refine s_op k_lss ?_
   refine s_nil trivial ?_
   refine n_wp ?_
   refine w_F rfl ?_ (decide_eq_false (by omega))
   refine w_skip ?_
   refine n_wp ?_
   refine w_seq ?_
   refine g_reg hP hn ?_
   refine s_op k_mv ?_
   refine s_op (k_call [] (con := get_n (enF M i) 2 (by decide) (by decide) (by omega) hUi) (v := .tup [.s (.int .u64 (((M.getD i p0).1 : Nat) : Int)), .s (.int .i64 0)]) (hv := by rw [hr.ty]; rfl)) ?_
   refine s_op k_mv ?_
   refine s_op k_ex ?_
   refine s_op k_ex ?_
   refine s_op k_as ?_
   refine s_op k_as ?_
   refine s_nil trivial ?_
   refine n_wp ?_
   refine w_seq ?_
   refine g_reg hP hn ?_
   refine s_op k_mv ?_
   refine s_op k_sl ?_
   refine s_op (k_call [] (con := get_n (((enF M i).drop 2).take ((enF M i).length - 2)) 2 (by decide) (by decide) (by simp; omega) (U8'_take (U8'_drop hUi 2) _)) (v := .tup [.s (.int .u64 (((M.getD i p0).2.length : Nat) : Int)), .s (.int .i64 0)]) (hv := by rw [hr.sz]; rfl)) ?_
   refine s_op k_mv ?_
   refine s_op k_ex ?_
   refine s_op k_ex ?_
   refine s_op k_as ?_
   refine s_op k_as ?_
   refine s_nil trivial ?_
   refine n_wp ?_
   refine w_seq ?_
   refine g_reg hP hn ?_
   refine s_op k_mv ?_
   refine s_op k_cv ?_
   refine s_op k_add ?_
   refine s_op k_mv ?_
   refine s_op k_cv ?_
   refine s_op k_add ?_
   refine s_op (k_call [] (con := filled_u (4 + (M.getD i p0).2.length) (by omega))) ?_
   refine s_op k_as ?_
   refine s_op k_as ?_
   refine s_nil trivial ?_
   refine n_wp ?_
   refine w_seq ?_
   refine w_block ?_
   refine w_seq ?_
   refine g_reg hP hn ?_
   refine s_op k_mv ?_
   refine s_op k_len ?_
   refine s_op k_mv ?_
   refine s_op k_lss ?_
   refine s_op k_as ?_
   refine s_nil trivial ?_
   refine n_wp ?_
   refine w_F rfl ?_ (decide_eq_false (by omega))
   refine w_seq ?_
   refine g_reg hP hn ?_
   refine s_op k_mv ?_
   refine s_op k_mv ?_
   refine s_op (l_bin rfl rfl (b_leq (r := false) (decide_eq_false (by omega)))) ?_
   refine s_op k_mv ?_
   refine s_on rfl rfl rfl k_mv ?_
   refine s_on rfl rfl rfl k_mv ?_
   refine s_on rfl rfl rfl k_mv ?_
   refine s_on rfl rfl rfl k_sl ?_
   refine s_on rfl rfl rfl (k_call [] (con := cnb_n (((enF M i).drop (4 + (M.getD i p0).2.length)).take (up8 (4 + (M.getD i p0).2.length) - (4 + (M.getD i p0).2.length))) (fun j _ => by rw [hr.ze, List.getD_eq_getElem?_getD, List.getElem?_replicate]; split <;> rfl) (by rw [hr.ze, List.length_replicate]; omega))) ?_
   refine s_op k_pk ?_
   refine s_op k_as ?_
   refine s_nil trivial ?_
   refine n_wp ?_
   refine w_F rfl ?_ 
   refine w_seq ?_
   refine g_reg hP hn ?_
   refine s_op k_mv ?_
   refine s_op k_len ?_
   refine s_op k_geq ?_
   refine s_op k_as ?_
   refine s_nil trivial ?_
   refine n_wp ?_
   refine w_F rfl ?_ (decide_eq_false (by omega))
   refine w_skip ?_
   refine n_blo ?_
   refine n_wp ?_
   refine w_seq ?_
   refine g_reg hP hn ?_
   refine s_op k_mv ?_
   refine s_op k_mv ?_
   refine s_op k_cv ?_
   refine s_op k_mv ?_
   refine s_op k_mv ?_
   refine s_op k_sl ?_
   rw [hr.by_]
   refine s_op (k_call [] (con := clone_c (M.getD i p0).2 (by omega))) ?_
   refine s_op (k_call [] (con := clip_f (M.getD i p0).2)) ?_
   refine s_op k_bd ?_
   refine s_op (k_bsR [PR (M.getD i p0)]) ?_
   refine s_op (k_apr (gP (kpF M)) (hgn := by exact fun a b ha hb => match a, ha with | 0, _ => rfl)) ?_
   refine s_op k_as ?_
   refine s_nil trivial ?_
   refine n_wp ?_
   refine w_seq ?_
   refine g_any hP hn ?_
   refine s_op k_mv ?_
   refine s_op k_mv ?_
   refine s_op k_mv ?_
   refine s_op k_sl ?_
   rw [hr.re]
   refine s_op k_as ?_
   refine s_op k_as ?_
   refine s_nil (by kernel_rfl) ?_
   refine n_wp ?_
   refine w_goto ?_
   exact j_round (M.length - (i + 1)) (by omega) ⟨i + 1, by omega, rfl, rfl, rfl⟩ (wk hE [2])

end Go.Proofs.X
end

section
open Go Go.Bx Go.Proofs
namespace Go.Proofs.X
attribute [local irreducible] be gN ckS encL enF up8 chk pk0 pkB mayK
set_option maxRecDepth 100000 in
set_option maxHeartbeats 4000000 in
theorem clone_g (A : List Int) (h0 : 0 < A.length) (hA : A.length ≤ 1000000) : Con Tryz.prog 45 [.s (.fzi .u8 A)] [] (.s (.gro 0 1 A.length)) [some ⟨true, [.ints .u8 (A.length) (A)]⟩] := by
 refine con_in 8 Tryz.func45 rfl rfl (m := 0) rfl ?_
 intro E hP hn hE
 refine w_seq ?_
 refine g_reg hP hn ?_
 refine s_op k_as ?_
 refine s_nil trivial ?_
 refine n_wp ?_
 refine w_seq ?_
 refine w_seq ?_
 refine g_reg hP hn ?_
 refine s_op k_mv ?_
 refine s_op (k_snf (hl := h0)) ?_
 refine s_nil trivial ?_
 refine n_wp ?_
 refine w_F rfl ?_ 
 refine w_skip ?_
 refine n_wp ?_
 refine w_seq ?_
 refine g_reg hP hn ?_
 refine s_op (k_bs0 .u8) ?_
 refine s_op k_mv ?_
 refine s_op (k_apg (c := A.length) (l' := A) (hc := by omega) (hl' := by rfl) (hl := by rfl)) ?_
 refine s_op k_as ?_
 refine s_nil trivial ?_
 refine n_wp ?_
 refine w_ret ?_
 exact d_ret hP hn hE [1] (by first | exact r_tmp Tryz.results45 | exact r_tmpa Tryz.results45)

set_option maxRecDepth 100000 in
set_option maxHeartbeats 4000000 in
theorem kg1 (Y Y0 : List Int) (k : Nat) (A B Z : List Int) (hF : PkF Y Y0 k A B Z) (hZ : Z.length ≤ 2008) (hk : mayK k = true) : Con Tryz.prog 39 [.s (.fptr 1 (cellsF [.one (.fzi .u8 Y)]) 0 0)] [] (.s (.bool true)) [] := by
 refine con_in 12 Tryz.func39 rfl rfl (m := 0) rfl ?_
 intro E hP hn hE
 have hlen := hF.len
 have hu := hF.u8
 refine w_seq ?_
 refine g_reg hP hn ?_
 refine s_op k_as ?_
 refine s_nil trivial ?_
 refine n_wp ?_
 refine w_seq ?_
 refine g_reg hP hn ?_
 refine s_op k_ld ?_
 refine s_op k_ix ?_
 refine s_op k_ld ?_
 refine s_op (l_bin rfl rfl (b_eql (r := true) (decide_eq_true hF.b0))) ?_
 refine s_op k_mv ?_
 refine s_on rfl rfl rfl k_ld ?_
 refine s_on rfl rfl rfl k_ix ?_
 refine s_on rfl rfl rfl k_ld ?_
 rw [hF.b1]
 refine s_on rfl rfl rfl (k_call [] (con := may_c k) (v := .s (.bool true)) (hv := by rw [hk]; rfl)) ?_
 refine s_op k_pk ?_
 refine s_op k_as ?_
 refine s_nil trivial ?_
 refine n_wp ?_
 refine w_ret ?_
 exact d_ret hP hn hE [] (by first | exact r_tmp Tryz.results39 | exact r_tmpa Tryz.results39)

set_option maxRecDepth 100000 in
set_option maxHeartbeats 4000000 in
theorem kg2 (Y Y0 : List Int) (k : Nat) (A B Z : List Int) (hF : PkF Y Y0 k A B Z) (hZ : Z.length ≤ 2008) : Con Tryz.prog 41 [.s (.fptr 1 (cellsF [.one (.fzi .u8 Y)]) 0 0)] [] (.s (.bool true)) [] := by
 refine con_in 15 Tryz.func41 rfl rfl (m := 0) rfl ?_
 intro E hP hn hE
 have hlen := hF.len
 have hu := hF.u8
 refine w_seq ?_
 refine g_reg hP hn ?_
 refine s_op k_as ?_
 refine s_nil trivial ?_
 refine n_wp ?_
 refine w_seq ?_
 refine g_reg hP hn ?_
 refine s_op k_ld ?_
 refine s_op k_sl ?_
 refine s_op (k_call [] (con := get_n ((Y.drop 2).take (Y.length - 2)) 2 (by decide) (by decide) (by simp; omega) (U8'_take (U8'_drop hu 2) _)) (v := .tup [.s (.int .u64 ((Y.length : Nat) : Int)), .s (.int .i64 0)]) (hv := by rw [hF.sz]; rfl)) ?_
 refine s_op k_mv ?_
 refine s_op k_ex ?_
 refine s_op k_ex ?_
 refine s_op k_as ?_
 refine s_op k_as ?_
 refine s_nil trivial ?_
 refine n_wp ?_
 refine w_seq ?_
 refine g_reg hP hn ?_
 refine s_op k_mv ?_
 refine s_op k_cv ?_
 refine s_op k_ld ?_
 refine s_op k_len ?_
 refine s_op (l_bin rfl rfl (b_eql (r := true) (decide_eq_true rfl))) ?_
 refine s_op k_as ?_
 refine s_nil trivial ?_
 refine n_wp ?_
 refine w_ret ?_
 exact d_ret hP hn hE [] (by first | exact r_tmp Tryz.results41 | exact r_tmpa Tryz.results41)

set_option maxRecDepth 100000 in
set_option maxHeartbeats 4000000 in
theorem kg3 (Y Y0 : List Int) (k : Nat) (A B Z : List Int) (hF : PkF Y Y0 k A B Z) (hZ : Z.length ≤ 2008) : Con Tryz.prog 43 [.s (.fptr 1 (cellsF [.one (.fzi .u8 Y)]) 0 0)] [] (.s (.bool true)) [] := by
 refine con_in 12 Tryz.func43 rfl rfl (m := 0) rfl ?_
 intro E hP hn hE
 have hlen := hF.len
 have hu := hF.u8
 refine w_seq ?_
 refine g_reg hP hn ?_
 refine s_op k_as ?_
 refine s_nil trivial ?_
 refine n_wp ?_
 refine w_seq ?_
 refine g_reg hP hn ?_
 refine s_op k_ld ?_
 refine s_op k_ix ?_
 refine s_op k_ld ?_
 refine s_op (l_bin rfl rfl (b_eql (r := true) (decide_eq_true hF.b6))) ?_
 refine s_op k_mv ?_
 refine s_on rfl rfl rfl k_ld ?_
 refine s_on rfl rfl rfl k_ix ?_
 refine s_on rfl rfl rfl k_ld ?_
 refine s_on rfl rfl rfl (l_bin rfl rfl (b_eql (r := true) (decide_eq_true hF.b7))) ?_
 refine s_op k_pk ?_
 refine s_op k_as ?_
 refine s_nil trivial ?_
 refine n_wp ?_
 refine w_ret ?_
 exact d_ret hP hn hE [] (by first | exact r_tmp Tryz.results43 | exact r_tmpa Tryz.results43)

set_option maxRecDepth 100000 in
set_option maxHeartbeats 4000000 in
theorem kg4 (Y Y0 : List Int) (k : Nat) (A B Z : List Int) (hF : PkF Y Y0 k A B Z) (hZ : Z.length ≤ 2008) : Con Tryz.prog 44 [.s (.fptr 1 (cellsF [.one (.fzi .u8 Y)]) 0 0)] [] (.s (.bool true)) [] := by
 refine con_in 22 Tryz.func44 rfl rfl (m := 0) rfl ?_
 intro E hP hn hE
 have hlen := hF.len
 have hu := hF.u8
 have hc := chk_lt Y0
 have hl0 : Y0.length = Y.length := by rw [← hF.cl]; simp
 refine w_seq ?_
 refine g_reg hP hn ?_
 refine s_op k_as ?_
 refine s_nil trivial ?_
 refine n_wp ?_
 refine w_seq ?_
 refine g_reg hP hn ?_
 refine s_op k_ld ?_
 refine s_op (k_call [] (con := clone_g Y (by omega) (by omega))) ?_
 refine s_op k_as ?_
 refine s_nil trivial ?_
 refine n_wp ?_
 refine w_seq ?_
 refine g_reg hP hn ?_
 refine s_op k_mv ?_
 refine s_op k_mv ?_
 refine s_op k_ix ?_
 refine s_st k_st ?_
 refine s_op k_ix ?_
 refine s_st k_st ?_
 refine s_nil trivial ?_
 refine n_wp ?_
 refine w_seq ?_
 refine g_reg hP hn ?_
 refine s_op k_ld ?_
 refine s_op k_sl ?_
 refine s_op (k_call [] (con := get_n ((Y.drop 4).take (Y.length - 4)) 2 (by decide) (by decide) (by simp; omega) (U8'_take (U8'_drop hu 4) _)) (v := .tup [.s (.int .u64 ((chk Y0 : Nat) : Int)), .s (.int .i64 0)]) (hv := by rw [hF.ck]; rfl)) ?_
 refine s_op k_mv ?_
 refine s_op k_ex ?_
 refine s_op k_ex ?_
 refine s_op k_as ?_
 refine s_op k_as ?_
 refine s_nil trivial ?_
 refine n_wp ?_
 refine w_seq ?_
 refine w_weak (frz_gro 2 (l' := Y0) (hn := Nat.le_refl _) (hl := by simp) (hl' := by rw [hF.cl]; exact List.take_of_length_le (by omega))) ?_
 refine g_reg hP hn ?_
 refine s_op k_mv ?_
 refine s_op k_cv ?_
 refine s_op k_mv ?_
 refine s_op (k_call [] (con := check2_n Y0 hF.u0 (by omega))) ?_
 refine s_op (l_bin rfl rfl (b_eql (r := true) (decide_eq_true rfl))) ?_
 refine s_op k_as ?_
 refine s_nil trivial ?_
 refine n_wp ?_
 refine w_ret ?_
 exact d_ret hP hn hE [] (by first | exact r_tmp Tryz.results44 | exact r_tmpa Tryz.results44)

end Go.Proofs.X
end

section
open Go Go.Bx Go.Proofs
namespace Go.Proofs.X
attribute [local irreducible] be gN ckS encL enF up8 chk pk0 pkB mayK
set_option maxRecDepth 100000 in
set_option maxHeartbeats 4000000 in
theorem kget_y (Y Y0 : List Int) (k : Nat) (A B Z : List Int) (hF : PkF Y Y0 k A B Z) (hZ : Z.length ≤ 2008) (hk : mayK k = true) (M : List Pc) (hc : Con Tryz.prog 47 [.s (.fzi .u8 Z)] [] (.tup [.s (PARS M), .s (.int .i64 0)]) []) : Con Tryz.prog 13 [.s (.fzi .u8 Y)] [] (.tup [.agg (PKT k A B M), .s (.int .i64 0)]) [] := by
 refine con_in 61 Tryz.func13 rfl rfl (m := 0) rfl ?_
 intro E hP hn hE
 have hlen := hF.len
 have hu := hF.u8
 have hlA : A.length = 16 := by rw [← hF.fr]; simp; omega
 have hA : spl (zs (List.replicate 16 0)) A 0 16 16 = A := by
  have h := spl_all (n := 16) hlA
  rwa [List.take_of_length_le (by omega)] at h
 have hlB : B.length = 16 := by rw [← hF.to]; simp; omega
 have hB : spl (zs (List.replicate 16 0)) B 0 16 16 = B := by
  have h := spl_all (n := 16) hlB
  rwa [List.take_of_length_le (by omega)] at h
 refine w_seq ?_
 refine g_reg hP hn ?_
 refine s_op k_bxs ?_
 refine s_op k_al ?_
 refine s_op k_as ?_
 refine s_nil trivial ?_
 refine n_wp ?_
 refine w_seq ?_
 refine w_block ?_
 refine w_seq ?_
 refine g_reg hP hn ?_
 refine s_op k_ld ?_
 refine s_op k_len ?_
 refine s_op k_gtr ?_
 refine s_op k_as ?_
 refine s_nil trivial ?_
 refine n_wp ?_
 refine w_F rfl ?_ (decide_eq_false (by omega))
 refine w_seq ?_
 refine g_reg hP hn ?_
 refine s_op k_ld ?_
 refine s_op k_len ?_
 refine s_op k_lss ?_
 refine s_op k_as ?_
 refine s_nil trivial ?_
 refine n_wp ?_
 refine w_F rfl ?_ (decide_eq_false (by omega))
 refine w_skip ?_
 refine n_blo ?_
 refine n_wp ?_
 refine w_seq ?_
 refine g_reg hP hn ?_
 refine s_op (k_fnN [(.fptr 1 (cellsF [.one (.fzi .u8 Y)]) 0 0)]) ?_
 refine s_op (k_fnN [(.fptr 1 (cellsF [.one (.fzi .u8 Y)]) 0 0)]) ?_
 refine s_op (k_fnN [(.fptr 1 (cellsF [.one (.fzi .u8 Y)]) 0 0)]) ?_
 refine s_op (k_fnN [(.fptr 1 (cellsF [.one (.fzi .u8 Y)]) 0 0)]) ?_
 refine s_op (k_bsR [[.one (.noid (.clo 39 1 (capF [(.fptr 1 (cellsF [.one (.fzi .u8 Y)]) 0 0)])))], [.one (.noid (.clo 41 1 (capF [(.fptr 1 (cellsF [.one (.fzi .u8 Y)]) 0 0)])))], [.one (.noid (.clo 43 1 (capF [(.fptr 1 (cellsF [.one (.fzi .u8 Y)]) 0 0)])))], [.one (.noid (.clo 44 1 (capF [(.fptr 1 (cellsF [.one (.fzi .u8 Y)]) 0 0)])))]]) ?_
 refine s_op k_as ?_
 refine s_nil trivial ?_
 refine n_wp ?_
 refine w_seq ?_
 refine w_seq ?_
 refine g_reg hP hn ?_
 refine s_op k_mv ?_
 refine s_op k_len ?_
 refine s_op k_mv ?_
 refine s_nil trivial ?_
 refine n_wp ?_
 refine w_block ?_
 refine c_loop (fun m_ T H => ∃ i, i ≤ 4 ∧ m_ = 4 - i ∧ T = [(1, .s (.fptr 1 (cellsF [.one (.fzi .u8 Y)]) 0 0)), (2, .s (.ptr 0 0 0)), (23, .s (.fz 4 1 (rowsF fun i => ([[.one (.noid (.clo 39 1 (capF [(.fptr 1 (cellsF [.one (.fzi .u8 Y)]) 0 0)])))], [.one (.noid (.clo 41 1 (capF [(.fptr 1 (cellsF [.one (.fzi .u8 Y)]) 0 0)])))], [.one (.noid (.clo 43 1 (capF [(.fptr 1 (cellsF [.one (.fzi .u8 Y)]) 0 0)])))], [.one (.noid (.clo 44 1 (capF [(.fptr 1 (cellsF [.one (.fzi .u8 Y)]) 0 0)])))]] : List (List Seg)).getD i []))), (24, .s (.int .i64 ((4 : Nat) : Int))), (25, .s (.int .i64 ((i : Nat) : Int)))] ∧ H = [some ⟨true, [.one (.int .u8 0), .ints .u8 16 (zs (List.replicate 16 0)), .ints .u8 16 (zs (List.replicate 16 0)), .one .nils]⟩]) (4) ⟨0, by omega, rfl, rfl, rfl⟩ (wk hE [1]) ?_
 rintro n_ T_ H_ ⟨i, hi, rfl, rfl, rfl⟩
 refine w_seq ?_
 refine g_reg hP hn ?_
 refine s_op k_lss ?_
 refine s_nil trivial ?_
 refine n_wp ?_
 refine w_seq ?_
 refine w_if rfl (fun h_t26 => ?_) (fun h_t26 => ?_)
 · skip
   refine w_skip ?_
   refine n_wp ?_
   refine w_seq ?_
   refine w_block ?_
   refine w_seq ?_
   obtain rfl | rfl | rfl | rfl : i = 0 ∨ i = 1 ∨ i = 2 ∨ i = 3 := by omega
   · skip
     refine g_reg hP hn ?_
     refine s_op k_ix ?_
     refine s_op (k_ld (by exact a_loadf (v := .noid (.clo 39 1 (capF [(.fptr 1 (cellsF [.one (.fzi .u8 Y)]) 0 0)]))) rfl (by omega) rfl)) ?_
     refine s_op k_as ?_
     refine s_nil trivial ?_
     refine n_wp ?_
     refine w_seq ?_
     refine g_reg hP hn ?_
     refine s_op k_mv ?_
     refine s_op (k_callN [(.fptr 1 (cellsF [.one (.fzi .u8 Y)]) 0 0)] (con := kg1 Y Y0 k A B Z hF hZ hk)) ?_
     refine s_op k_not ?_
     refine s_nil trivial ?_
     refine n_wp ?_
     refine w_F rfl ?_ 
     refine w_skip ?_
     refine n_blo ?_
     refine n_wp ?_
     refine g_reg hP hn ?_
     refine s_op k_add ?_
     refine s_op k_mv ?_
     refine s_nil trivial ?_
     exact n_round (4 - (0 + 1)) (by omega) ⟨0 + 1, by omega, rfl, rfl, rfl⟩ (wk hE [0])
   · skip
     refine g_reg hP hn ?_
     refine s_op k_ix ?_
     refine s_op (k_ld (by exact a_loadf (v := .noid (.clo 41 1 (capF [(.fptr 1 (cellsF [.one (.fzi .u8 Y)]) 0 0)]))) rfl (by omega) rfl)) ?_
     refine s_op k_as ?_
     refine s_nil trivial ?_
     refine n_wp ?_
     refine w_seq ?_
     refine g_reg hP hn ?_
     refine s_op k_mv ?_
     refine s_op (k_callN [(.fptr 1 (cellsF [.one (.fzi .u8 Y)]) 0 0)] (con := kg2 Y Y0 k A B Z hF hZ)) ?_
     refine s_op k_not ?_
     refine s_nil trivial ?_
     refine n_wp ?_
     refine w_F rfl ?_ 
     refine w_skip ?_
     refine n_blo ?_
     refine n_wp ?_
     refine g_reg hP hn ?_
     refine s_op k_add ?_
     refine s_op k_mv ?_
     refine s_nil trivial ?_
     exact n_round (4 - (1 + 1)) (by omega) ⟨1 + 1, by omega, rfl, rfl, rfl⟩ (wk hE [0])
   · skip
     refine g_reg hP hn ?_
     refine s_op k_ix ?_
     refine s_op (k_ld (by exact a_loadf (v := .noid (.clo 43 1 (capF [(.fptr 1 (cellsF [.one (.fzi .u8 Y)]) 0 0)]))) rfl (by omega) rfl)) ?_
     refine s_op k_as ?_
     refine s_nil trivial ?_
     refine n_wp ?_
     refine w_seq ?_
     refine g_reg hP hn ?_
     refine s_op k_mv ?_
     refine s_op (k_callN [(.fptr 1 (cellsF [.one (.fzi .u8 Y)]) 0 0)] (con := kg3 Y Y0 k A B Z hF hZ)) ?_
     refine s_op k_not ?_
     refine s_nil trivial ?_
     refine n_wp ?_
     refine w_F rfl ?_ 
     refine w_skip ?_
     refine n_blo ?_
     refine n_wp ?_
     refine g_reg hP hn ?_
     refine s_op k_add ?_
     refine s_op k_mv ?_
     refine s_nil trivial ?_
     exact n_round (4 - (2 + 1)) (by omega) ⟨2 + 1, by omega, rfl, rfl, rfl⟩ (wk hE [0])
   · skip
     refine g_reg hP hn ?_
     refine s_op k_ix ?_
     refine s_op (k_ld (by exact a_loadf (v := .noid (.clo 44 1 (capF [(.fptr 1 (cellsF [.one (.fzi .u8 Y)]) 0 0)]))) rfl (by omega) rfl)) ?_
     refine s_op k_as ?_
     refine s_nil trivial ?_
     refine n_wp ?_
     refine w_seq ?_
     refine g_reg hP hn ?_
     refine s_op k_mv ?_
     refine s_op (k_callN [(.fptr 1 (cellsF [.one (.fzi .u8 Y)]) 0 0)] (con := kg4 Y Y0 k A B Z hF hZ)) ?_
     refine s_op k_not ?_
     refine s_nil trivial ?_
     refine n_wp ?_
     refine w_F rfl ?_ 
     refine w_skip ?_
     refine n_blo ?_
     refine n_wp ?_
     refine g_reg hP hn ?_
     refine s_op k_add ?_
     refine s_op k_mv ?_
     refine s_nil trivial ?_
     exact n_round (4 - (3 + 1)) (by omega) ⟨3 + 1, by omega, rfl, rfl, rfl⟩ (wk hE [0])
 · skip
   obtain rfl : i = 4 := by omega
   refine w_exit ?_
   refine x_thn ?_
   refine x_thn ?_
   refine x_eq ?_
   refine n_wp ?_
   refine w_seq ?_
   refine g_reg hP hn ?_
   refine s_op k_ld ?_
   refine s_op k_sl ?_
   rw [hF.re]
   refine s_op (k_call [] (con := hc)) ?_
   refine s_op k_mv ?_
   refine s_op k_ex ?_
   refine s_op k_ex ?_
   refine s_op k_as ?_
   refine s_op k_as ?_
   refine s_nil trivial ?_
   refine n_wp ?_
   refine w_seq ?_
   refine w_seq ?_
   refine g_reg hP hn ?_
   refine s_op k_mv ?_
   refine s_op (l_bin rfl rfl (b_neq (r := false) (decide_eq_false (fun h => h rfl)))) ?_
   refine s_nil trivial ?_
   refine n_wp ?_
   refine w_F rfl ?_ 
   refine w_skip ?_
   refine n_wp ?_
   refine w_seq ?_
   refine g_reg hP hn ?_
   refine s_op k_ld ?_
   refine s_op k_ix ?_
   refine s_op k_ld ?_
   rw [hF.b1]
   refine s_op k_mv ?_
   refine s_op k_fa ?_
   refine s_st k_st ?_
   refine s_op k_fa ?_
   refine s_st k_st ?_
   refine s_nil trivial ?_
   refine n_wp ?_
   refine w_seq ?_
   refine g_any hP hn ?_
   refine s_op k_fa ?_
   refine s_op k_sl ?_
   refine s_op k_ld ?_
   refine s_op k_sl ?_
   refine s_op (k_cpn 16 (hz := hF.fr)) ?_
   refine s_nil (by kernel_rfl) ?_
   refine n_wp ?_
   refine w_seq ?_
   rw [hA]
   refine g_any hP hn ?_
   refine s_op k_fa ?_
   refine s_op k_sl ?_
   refine s_op k_ld ?_
   refine s_op k_sl ?_
   refine s_op (k_cpn 16 (hz := hF.to)) ?_
   refine s_nil (by kernel_rfl) ?_
   refine n_wp ?_
   refine w_seq ?_
   rw [hB]
   refine g_reg hP hn ?_
   refine s_op k_ld ?_
   refine s_st k_st ?_
   refine s_op k_as ?_
   refine s_nil trivial ?_
   refine n_wp ?_
   refine w_ret ?_
   exact d_ret hP hn hE [] (ret2 Tryz.results13 r_cella (by first | exact ri_tmp rfl | exact ri_tmpa rfl))

end Go.Proofs.X
end
