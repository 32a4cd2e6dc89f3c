/- A part of the proofs of this claim: BPcs3, Bx40, Bx41, BPktT, BPktS, BPkt1. No conditions. -/
import Derived.Test.YthgaljeppjdonaaGreatC9
set_option linter.unusedVariables false
set_option linter.unusedSimpArgs false
section
open Go Go.Bx Go.Proofs
namespace Go.Proofs.X
attribute [local irreducible] be gN
set_option maxRecDepth 100000 in
set_option maxHeartbeats 4000000 in
theorem bs_in (L : List Pc) (t : Nat) (hLb : L.length ≤ 800000) (ht : t < 65536) (hty : ∀ k, (L.getD k p0).1 < 65536) (i0 : Nat) (hi0 : i0 ≤ L.length) (hlo : ∀ k, k < i0 → (L.getD k p0).1 < t) (hhi : ∀ k, i0 ≤ k → k < L.length → t ≤ (L.getD k p0).1) (hin : i0 < L.length)  : Con Tryz.prog 27 [.s (PARS L), .s (.int .u16 ((t : Nat) : Int)), .s (.val (.func (.func 28) #[] #[]))] [] (.tup [.s (.int .i64 ((i0 : Nat) : Int)), .s (.bool (decide ((L.getD i0 p0).1 = t)))]) [] := by
 refine con_in 49 Tryz.func27 rfl rfl (m := 0) rfl ?_
 intro E hP hn hE
 refine w_seq ?_
 refine w_weak (weak_conv 2 rfl (conv_vf (q := capF []))) ?_
 refine g_reg hP hn ?_
 refine s_op k_as ?_
 refine s_op k_as ?_
 refine s_nil trivial ?_
 refine n_wp ?_
 refine w_seq ?_
 refine g_reg hP hn ?_
 refine s_op k_mv ?_
 refine s_op k_len ?_
 refine s_op k_as ?_
 refine s_nil trivial ?_
 refine n_wp ?_
 refine w_seq ?_
 refine g_reg hP hn ?_
 refine s_op k_mv ?_
 refine s_op k_as ?_
 refine s_op k_as ?_
 refine s_nil trivial ?_
 refine n_wp ?_
 refine w_seq ?_
 refine w_block ?_
 refine c_loop (fun m_ T H => ∃ a b, a ≤ i0 ∧ i0 ≤ b ∧ b ≤ L.length ∧ m_ = b - a ∧ T = [(0, .s (PARS L)), (1, .s (.int .u16 ((t : Nat) : Int))), (2, .s (.noid (.clo 28 0 (capF [])))), (8, .s (.int .i64 ((L.length : Nat) : Int))), (9, .s (.int .i64 ((a : Nat) : Int))), (10, .s (.int .i64 ((b : Nat) : Int)))] ∧ H = []) (L.length) ⟨0, L.length, by omega, hi0, by omega, rfl, rfl, rfl⟩ (wk hE []) ?_
 rintro n_ T_ H_ ⟨a, b, ha, hb, hbn, rfl, rfl, rfl⟩
 refine w_seq ?_
 refine w_seq ?_
 refine g_reg hP hn ?_
 refine s_op k_mv ?_
 refine s_op k_mv ?_
 refine s_op k_lss ?_
 refine s_nil trivial ?_
 refine n_wp ?_
 refine w_if rfl (fun h_t17 => ?_) (fun h_t17 => ?_)
 · skip
   refine w_skip ?_
   refine n_wp ?_
   refine w_block ?_
   refine w_seq ?_
   refine g_reg hP hn ?_
   refine s_op k_mv ?_
   refine s_op k_mv ?_
   refine s_op k_add ?_
   refine s_op k_cv ?_
   refine s_op k_shr ?_
   refine s_op k_cv ?_
   refine s_op k_as ?_
   refine s_nil trivial ?_
   refine n_wp ?_
   refine w_seq ?_
   refine g_reg hP hn ?_
   refine s_op k_mv ?_
   refine s_op k_mv ?_
   refine s_op k_mv ?_
   refine s_op k_ix ?_
   refine s_op k_ldP ?_
   refine s_op k_mv ?_
   refine s_op (k_callN [] (con := with1_n t (L.getD ((a + b) / 2 ^ 1) p0) ht (hty ((a + b) / 2 ^ 1)))) ?_
   refine s_op (l_bin rfl rfl (b_lss (r := decide ((L.getD ((a + b) / 2 ^ 1) p0).1 < t)) (decide_eq_decide.2 (by omega)))) ?_
   refine s_nil trivial ?_
   refine n_wp ?_
   refine w_if rfl (fun h_t31 => ?_) (fun h_t31 => ?_)
   · skip
     have hlt : ((a + b) / 2 ^ 1) < i0 := Nat.lt_of_not_le fun h => by have := hhi ((a + b) / 2 ^ 1) h (by omega); omega
     refine g_reg hP hn ?_
     refine s_op k_mv ?_
     refine s_op k_add ?_
     refine s_op k_as ?_
     refine s_nil trivial ?_
     refine n_blo ?_
     exact n_round (b - (((a + b) / 2 ^ 1) + 1)) (by omega) ⟨((a + b) / 2 ^ 1) + 1, b, by omega, by omega, by omega, rfl, rfl, rfl⟩ (wk hE [])
   · skip
     have hge : i0 ≤ ((a + b) / 2 ^ 1) := Nat.le_of_not_lt fun h => h_t31 (hlo ((a + b) / 2 ^ 1) h)
     refine g_reg hP hn ?_
     refine s_op k_mv ?_
     refine s_op k_as ?_
     refine s_nil trivial ?_
     refine n_blo ?_
     exact n_round (((a + b) / 2 ^ 1) - a) (by omega) ⟨a, ((a + b) / 2 ^ 1), by omega, by omega, by omega, rfl, rfl, rfl⟩ (wk hE [])
 · skip
   obtain rfl : i0 = a := by omega
   refine w_exit ?_
   refine x_thn ?_
   refine x_thn ?_
   refine x_eq ?_
   refine n_wp ?_
   refine w_seq ?_
   refine g_reg hP hn ?_
   refine s_op k_mv ?_
   refine s_op k_mv ?_
   refine s_op k_mv ?_
   refine s_op (l_bin rfl rfl (b_lss (r := true) (decide_eq_true (by omega)))) ?_
   refine s_op k_mv ?_
   refine s_on rfl rfl rfl k_mv ?_
   refine s_on rfl rfl rfl k_mv ?_
   refine s_on rfl rfl rfl k_mv ?_
   refine s_on rfl rfl rfl k_ix ?_
   refine s_on rfl rfl rfl k_ldP ?_
   refine s_on rfl rfl rfl k_mv ?_
   refine s_on rfl rfl rfl (k_callN [] (con := with1_n t (L.getD i0 p0) ht (hty i0))) ?_
   refine s_on rfl rfl rfl (l_bin rfl rfl (b_eql (r := decide ((L.getD i0 p0).1 = t)) (decide_eq_decide.2 (by omega)))) ?_
   refine s_op k_pk ?_
   refine s_op k_as ?_
   refine s_op k_as ?_
   refine s_nil trivial ?_
   refine n_wp ?_
   refine w_ret ?_
   exact d_ret hP hn hE [] (ret2 Tryz.results27 (by first | exact ri_tmp rfl | exact ri_tmpa rfl) (by first | exact ri_tmp rfl | exact ri_tmpa rfl))

set_option maxRecDepth 100000 in
set_option maxHeartbeats 4000000 in
theorem bs_out (L : List Pc) (t : Nat) (hLb : L.length ≤ 800000) (ht : t < 65536) (hty : ∀ k, (L.getD k p0).1 < 65536) (i0 : Nat) (hi0 : i0 ≤ L.length) (hlo : ∀ k, k < i0 → (L.getD k p0).1 < t) (hhi : ∀ k, i0 ≤ k → k < L.length → t ≤ (L.getD k p0).1) (hin : i0 = L.length)  : Con Tryz.prog 27 [.s (PARS L), .s (.int .u16 ((t : Nat) : Int)), .s (.val (.func (.func 28) #[] #[]))] [] (.tup [.s (.int .i64 ((i0 : Nat) : Int)), .s (.bool false)]) [] := by
 refine con_in 49 Tryz.func27 rfl rfl (m := 0) rfl ?_
 intro E hP hn hE
 refine w_seq ?_
 refine w_weak (weak_conv 2 rfl (conv_vf (q := capF []))) ?_
 refine g_reg hP hn ?_
 refine s_op k_as ?_
 refine s_op k_as ?_
 refine s_nil trivial ?_
 refine n_wp ?_
 refine w_seq ?_
 refine g_reg hP hn ?_
 refine s_op k_mv ?_
 refine s_op k_len ?_
 refine s_op k_as ?_
 refine s_nil trivial ?_
 refine n_wp ?_
 refine w_seq ?_
 refine g_reg hP hn ?_
 refine s_op k_mv ?_
 refine s_op k_as ?_
 refine s_op k_as ?_
 refine s_nil trivial ?_
 refine n_wp ?_
 refine w_seq ?_
 refine w_block ?_
 refine c_loop (fun m_ T H => ∃ a b, a ≤ i0 ∧ i0 ≤ b ∧ b ≤ L.length ∧ m_ = b - a ∧ T = [(0, .s (PARS L)), (1, .s (.int .u16 ((t : Nat) : Int))), (2, .s (.noid (.clo 28 0 (capF [])))), (8, .s (.int .i64 ((L.length : Nat) : Int))), (9, .s (.int .i64 ((a : Nat) : Int))), (10, .s (.int .i64 ((b : Nat) : Int)))] ∧ H = []) (L.length) ⟨0, L.length, by omega, hi0, by omega, rfl, rfl, rfl⟩ (wk hE []) ?_
 rintro n_ T_ H_ ⟨a, b, ha, hb, hbn, rfl, rfl, rfl⟩
 refine w_seq ?_
 refine w_seq ?_
 refine g_reg hP hn ?_
 refine s_op k_mv ?_
 refine s_op k_mv ?_
 refine s_op k_lss ?_
 refine s_nil trivial ?_
 refine n_wp ?_
 refine w_if rfl (fun h_t17 => ?_) (fun h_t17 => ?_)
 · skip
   refine w_skip ?_
   refine n_wp ?_
   refine w_block ?_
   refine w_seq ?_
   refine g_reg hP hn ?_
   refine s_op k_mv ?_
   refine s_op k_mv ?_
   refine s_op k_add ?_
   refine s_op k_cv ?_
   refine s_op k_shr ?_
   refine s_op k_cv ?_
   refine s_op k_as ?_
   refine s_nil trivial ?_
   refine n_wp ?_
   refine w_seq ?_
   refine g_reg hP hn ?_
   refine s_op k_mv ?_
   refine s_op k_mv ?_
   refine s_op k_mv ?_
   refine s_op k_ix ?_
   refine s_op k_ldP ?_
   refine s_op k_mv ?_
   refine s_op (k_callN [] (con := with1_n t (L.getD ((a + b) / 2 ^ 1) p0) ht (hty ((a + b) / 2 ^ 1)))) ?_
   refine s_op (l_bin rfl rfl (b_lss (r := decide ((L.getD ((a + b) / 2 ^ 1) p0).1 < t)) (decide_eq_decide.2 (by omega)))) ?_
   refine s_nil trivial ?_
   refine n_wp ?_
   refine w_if rfl (fun h_t31 => ?_) (fun h_t31 => ?_)
   · skip
     have hlt : ((a + b) / 2 ^ 1) < i0 := Nat.lt_of_not_le fun h => by have := hhi ((a + b) / 2 ^ 1) h (by omega); omega
     refine g_reg hP hn ?_
     refine s_op k_mv ?_
     refine s_op k_add ?_
     refine s_op k_as ?_
     refine s_nil trivial ?_
     refine n_blo ?_
     exact n_round (b - (((a + b) / 2 ^ 1) + 1)) (by omega) ⟨((a + b) / 2 ^ 1) + 1, b, by omega, by omega, by omega, rfl, rfl, rfl⟩ (wk hE [])
   · skip
     have hge : i0 ≤ ((a + b) / 2 ^ 1) := Nat.le_of_not_lt fun h => h_t31 (hlo ((a + b) / 2 ^ 1) h)
     refine g_reg hP hn ?_
     refine s_op k_mv ?_
     refine s_op k_as ?_
     refine s_nil trivial ?_
     refine n_blo ?_
     exact n_round (((a + b) / 2 ^ 1) - a) (by omega) ⟨a, ((a + b) / 2 ^ 1), by omega, by omega, by omega, rfl, rfl, rfl⟩ (wk hE [])
 · skip
   obtain rfl : i0 = a := by omega
   refine w_exit ?_
   refine x_thn ?_
   refine x_thn ?_
   refine x_eq ?_
   refine n_wp ?_
   refine w_seq ?_
   refine g_reg hP hn ?_
   refine s_op k_mv ?_
   refine s_op k_mv ?_
   refine s_op k_mv ?_
   refine s_op (l_bin rfl rfl (b_lss (r := false) (decide_eq_false (by omega)))) ?_
   refine s_op k_mv ?_
   refine s_off rfl rfl rfl ?_
   refine s_off rfl rfl rfl ?_
   refine s_off rfl rfl rfl ?_
   refine s_off rfl rfl rfl ?_
   refine s_off rfl rfl rfl ?_
   refine s_off rfl rfl rfl ?_
   refine s_off rfl rfl rfl ?_
   refine s_off rfl rfl rfl ?_
   refine s_op k_pk ?_
   refine s_op k_as ?_
   refine s_op k_as ?_
   refine s_nil trivial ?_
   refine n_wp ?_
   refine w_ret ?_
   exact d_ret hP hn hE [] (ret2 Tryz.results27 (by first | exact ri_tmp rfl | exact ri_tmpa rfl) (by first | exact ri_tmp rfl | exact ri_tmpa rfl))

set_option maxRecDepth 100000 in
set_option maxHeartbeats 4000000 in
theorem ins_end (F G : Nat → Pc) (n : Nat) (hn9 : n ≤ 900000)  : Con Tryz.prog 30 [.s (.slice 0 0 0 n (n + 1)), .s (.int .i64 ((n : Nat) : Int)), .s (.slice 1 0 0 1 1)] [some ⟨true, [.rows (n + 1) 2 (gP (F))]⟩, some ⟨true, [.rows (1) 2 (gP (G))]⟩] (.s (.slice 0 0 0 (n + 1) (n + 1))) [some ⟨true, [.rows (n + 1) 2 (gP (insF F n (G 0)))]⟩, some ⟨true, [.rows (1) 2 (gP (G))]⟩] := by
 refine con_in 95 Tryz.func30 rfl rfl (m := 2) rfl ?_
 intro E hP hn hE
 refine w_seq ?_
 refine g_reg hP hn ?_
 refine s_op k_as ?_
 refine s_nil trivial ?_
 refine n_wp ?_
 refine w_seq ?_
 refine g_reg hP hn ?_
 refine s_op k_mv ?_
 refine s_op k_mv ?_
 refine s_op k_sl ?_
 refine s_nil trivial ?_
 refine n_wp ?_
 refine w_seq ?_
 refine g_reg hP hn ?_
 refine s_op k_mv ?_
 refine s_op k_len ?_
 refine s_op k_as ?_
 refine s_nil trivial ?_
 refine n_wp ?_
 refine w_seq ?_
 refine w_seq ?_
 refine g_reg hP hn ?_
 refine s_op k_mv ?_
 refine s_op k_eql ?_
 refine s_nil trivial ?_
 refine n_wp ?_
 refine w_F rfl ?_ 
 refine w_skip ?_
 refine n_wp ?_
 refine w_seq ?_
 refine g_reg hP hn ?_
 refine s_op k_mv ?_
 refine s_op k_len ?_
 refine s_op k_as ?_
 refine s_nil trivial ?_
 refine n_wp ?_
 refine w_seq ?_
 refine w_seq ?_
 refine g_reg hP hn ?_
 refine s_op k_mv ?_
 refine s_op k_mv ?_
 refine s_op k_eql ?_
 refine s_nil trivial ?_
 refine n_wp ?_
 refine w_T rfl ?_ 
 refine w_seq ?_
 refine g_reg hP hn ?_
 refine s_op k_mv ?_
 refine s_op k_mv ?_
 refine s_op (k_apiS (gP (insF F n (G 0))) (m := 1) (hg := ins_g F G n) (hg2 := ins_ge F (G 0) n)) ?_
 refine s_op k_as ?_
 refine s_nil trivial ?_
 refine n_wp ?_
 refine w_ret ?_
 refine r_thn ?_
 exact d_ret hP hn hE [0, 1] (by first | exact r_tmp Tryz.results30 | exact r_tmpa Tryz.results30)

set_option maxRecDepth 100000 in
set_option maxHeartbeats 4000000 in
theorem ins_mid (F G : Nat → Pc) (n i : Nat) (hn9 : n ≤ 900000) (hi : i < n) : Con Tryz.prog 30 [.s (.slice 0 0 0 n (n + 1)), .s (.int .i64 ((i : Nat) : Int)), .s (.slice 1 0 0 1 1)] [some ⟨true, [.rows (n + 1) 2 (gP (F))]⟩, some ⟨true, [.rows (1) 2 (gP (G))]⟩] (.s (.slice 0 0 0 (n + 1) (n + 1))) [some ⟨true, [.rows (n + 1) 2 (gP (insF F i (G 0)))]⟩, some ⟨true, [.rows (1) 2 (gP (G))]⟩] := by
 refine con_in 95 Tryz.func30 rfl rfl (m := 2) rfl ?_
 intro E hP hn hE
 refine w_seq ?_
 refine g_reg hP hn ?_
 refine s_op k_as ?_
 refine s_nil trivial ?_
 refine n_wp ?_
 refine w_seq ?_
 refine g_reg hP hn ?_
 refine s_op k_mv ?_
 refine s_op k_mv ?_
 refine s_op k_sl ?_
 refine s_nil trivial ?_
 refine n_wp ?_
 refine w_seq ?_
 refine g_reg hP hn ?_
 refine s_op k_mv ?_
 refine s_op k_len ?_
 refine s_op k_as ?_
 refine s_nil trivial ?_
 refine n_wp ?_
 refine w_seq ?_
 refine w_seq ?_
 refine g_reg hP hn ?_
 refine s_op k_mv ?_
 refine s_op k_eql ?_
 refine s_nil trivial ?_
 refine n_wp ?_
 refine w_F rfl ?_ 
 refine w_skip ?_
 refine n_wp ?_
 refine w_seq ?_
 refine g_reg hP hn ?_
 refine s_op k_mv ?_
 refine s_op k_len ?_
 refine s_op k_as ?_
 refine s_nil trivial ?_
 refine n_wp ?_
 refine w_seq ?_
 refine w_seq ?_
 refine g_reg hP hn ?_
 refine s_op k_mv ?_
 refine s_op k_mv ?_
 refine s_op k_eql ?_
 refine s_nil trivial ?_
 refine n_wp ?_
 refine w_F rfl ?_ 
 refine w_skip ?_
 refine n_wp ?_
 refine w_seq ?_
 refine w_seq ?_
 refine g_reg hP hn ?_
 refine s_op k_mv ?_
 refine s_op k_mv ?_
 refine s_op k_add ?_
 refine s_op k_mv ?_
 refine s_op k_cap ?_
 refine s_op k_gtr ?_
 refine s_nil trivial ?_
 refine n_wp ?_
 refine w_F rfl ?_ 
 refine w_skip ?_
 refine n_wp ?_
 refine w_seq ?_
 refine g_reg hP hn ?_
 refine s_op k_mv ?_
 refine s_op k_mv ?_
 refine s_op k_mv ?_
 refine s_op k_add ?_
 refine s_op k_sl ?_
 refine s_op k_as ?_
 refine s_nil trivial ?_
 refine n_wp ?_
 refine w_seq ?_
 refine w_seq ?_
 refine g_reg hP hn ?_
 refine s_op k_mv ?_
 refine s_op k_mv ?_
 refine s_op k_mv ?_
 refine s_op k_mv ?_
 refine s_op k_add ?_
 refine s_op k_sl ?_
 refine s_op (k_ovl Tryz.func73 (by kernel_rfl) (by kernel_rfl) (by kernel_rfl) (tS := 25) (tR := 4) (by kernel_rfl)) ?_
 refine s_op k_not ?_
 refine s_nil trivial ?_
 refine n_wp ?_
 refine w_T rfl ?_ 
 refine w_seq ?_
 refine g_any hP hn ?_
 refine s_op k_mv ?_
 refine s_op k_mv ?_
 refine s_op k_mv ?_
 refine s_op k_add ?_
 refine s_op k_sl ?_
 refine s_op k_mv ?_
 refine s_op k_mv ?_
 refine s_op k_sl ?_
 refine s_op (k_cpW (i + 1) i (fun a b => gP F (i + a) b) (gP (shF F i)) (n := n - i) (hgs := fun _ _ _ _ => rfl) (hg := sh_g F i _) (hg2 := sh_ge F i n (by omega))) ?_
 refine s_nil (by kernel_rfl) ?_
 refine n_wp ?_
 refine w_seq ?_
 refine g_reg hP hn ?_
 refine s_op k_mv ?_
 refine s_op k_mv ?_
 refine s_op k_sl ?_
 refine s_op k_mv ?_
 refine s_op (k_cpW i 0 (gP G) (gP (insF F i (G 0))) (n := 1) (hgs := fun _ _ _ _ => by rw [Nat.zero_add]) (hg := ins_g F G i) (hg2 := ins_sh F (G 0) i _)) ?_
 refine s_nil trivial ?_
 refine n_wp ?_
 refine w_seq ?_
 refine g_reg hP hn ?_
 refine s_op k_mv ?_
 refine s_op k_as ?_
 refine s_nil trivial ?_
 refine n_wp ?_
 refine w_ret ?_
 refine r_thn ?_
 exact d_ret hP hn hE [0, 1] (by first | exact r_tmp Tryz.results30 | exact r_tmpa Tryz.results30)

theorem ins_c (F G : Nat → Pc) (n i : Nat) (hn9 : n ≤ 900000) (hi : i ≤ n) : Con Tryz.prog 30 [.s (.slice 0 0 0 n (n + 1)), .s (.int .i64 ((i : Nat) : Int)), .s (.slice 1 0 0 1 1)] [some ⟨true, [.rows (n + 1) 2 (gP (F))]⟩, some ⟨true, [.rows (1) 2 (gP (G))]⟩] (.s (.slice 0 0 0 (n + 1) (n + 1))) [some ⟨true, [.rows (n + 1) 2 (gP (insF F i (G 0)))]⟩, some ⟨true, [.rows (1) 2 (gP (G))]⟩] := by
 rcases Nat.lt_or_ge i n with h | h
 · exact ins_mid F G n i hn9 h
 · obtain rfl : i = n := Nat.le_antisymm hi h
   exact ins_end F G i hn9

theorem bs_no (L : List Pc) (t : Nat) (hLb : L.length ≤ 800000) (ht : t < 65536) (hty : ∀ k, (L.getD k p0).1 < 65536) (i0 : Nat) (hi0 : i0 ≤ L.length) (hlo : ∀ k, k < i0 → (L.getD k p0).1 < t) (hhi : ∀ k, i0 ≤ k → k < L.length → t ≤ (L.getD k p0).1) (hno : i0 < L.length → ¬ (L.getD i0 p0).1 = t) : Con Tryz.prog 27 [.s (PARS L), .s (.int .u16 ((t : Nat) : Int)), .s (.val (.func (.func 28) #[] #[]))] [] (.tup [.s (.int .i64 ((i0 : Nat) : Int)), .s (.bool false)]) [] := by
 rcases Nat.lt_or_ge i0 L.length with h | h
 · have := bs_in L t hLb ht hty i0 hi0 hlo hhi h
   rwa [decide_eq_false (hno h)] at this
 · exact bs_out L t hLb ht hty i0 hi0 hlo hhi (Nat.le_antisymm hi0 h)

set_option maxRecDepth 100000 in
set_option maxHeartbeats 4000000 in
theorem with_y (L : List Pc) (p : Pc) (hLb : L.length ≤ 800000) (hall : ∀ i, i < L.length → lastT L i < (L.getD i p0).1) (h0 : p.1 ≠ 0) (ht : p.1 < 65536) (hty : ∀ k, (L.getD k p0).1 < 65536) (i0 : Nat) (hi0 : i0 ≤ L.length) (hlo : ∀ k, k < i0 → (L.getD k p0).1 < p.1) (hhi : ∀ k, i0 ≤ k → k < L.length → p.1 ≤ (L.getD k p0).1) (hno : i0 < L.length → ¬ (L.getD i0 p0).1 = p.1) (hbd : ∀ i, i < L.length → (L.getD i p0).2.length ≤ 1000000) (hpb : p.2.length ≤ 1000000) (hl : ¬ 16 ≤ L.length) : Con Tryz.prog 9 [.s (PARS L), .agg (PR p)] [] (.tup [.s (.fz (L.length + 1) 2 (gP fun k => (insL L i0 p).getD k p0)), .s (.int .i64 0)]) [] := by
 refine con_in 37 Tryz.func9 rfl rfl (m := 0) rfl ?_
 intro E hP hn hE
 refine w_seq ?_
 refine g_reg hP hn ?_
 refine s_op k_bxf ?_
 refine s_op k_as ?_
 refine s_op k_as ?_
 refine s_nil trivial ?_
 refine n_wp ?_
 refine w_seq ?_
 refine w_seq ?_
 refine g_reg hP hn ?_
 refine s_op k_mv ?_
 refine s_op (k_call [] (con := maypar_y L (by omega) hall)) ?_
 refine s_op k_not ?_
 refine s_op k_mv ?_
 refine s_on rfl rfl rfl k_fa ?_
 refine s_on rfl rfl rfl k_ld ?_
 refine s_on rfl rfl rfl (l_bin rfl rfl (b_eql (r := false) (decide_eq_false (by omega)))) ?_
 refine s_op k_pk ?_
 refine s_nil trivial ?_
 refine n_wp ?_
 refine w_F rfl ?_ 
 refine w_skip ?_
 refine n_wp ?_
 refine w_seq ?_
 refine g_reg hP hn ?_
 refine s_op k_mv ?_
 refine s_op k_fa ?_
 refine s_op k_ld ?_
 refine s_op (k_call [] (con := bs_no L p.1 (by omega) ht hty i0 hi0 hlo hhi hno)) ?_
 refine s_op k_mv ?_
 refine s_op k_ex ?_
 refine s_op k_ex ?_
 refine s_op k_as ?_
 refine s_op k_as ?_
 refine s_nil trivial ?_
 refine n_wp ?_
 refine w_seq ?_
 refine w_block ?_
 refine w_seq ?_
 refine g_reg hP hn ?_
 refine s_op k_mv ?_
 refine s_op k_as ?_
 refine s_nil trivial ?_
 refine n_wp ?_
 refine w_F rfl ?_ 
 refine w_seq ?_
 refine g_reg hP hn ?_
 refine s_op k_mv ?_
 refine s_op k_len ?_
 refine s_op k_geq ?_
 refine s_op k_as ?_
 refine s_nil trivial ?_
 refine n_wp ?_
 refine w_F rfl ?_ 
 refine w_skip ?_
 refine n_blo ?_
 refine n_wp ?_
 refine w_seq ?_
 refine g_any hP hn ?_
 refine s_op k_mv ?_
 refine s_op (k_call [] (con := twins_c L (by omega) hbd) (v := .s (.slice 1 0 0 L.length (L.length + 1))) (hv := rfl) (H' := [none, some ⟨true, [.rows ((L.length + 1)) 2 (gP (kpF L))]⟩]) (hH := rfl)) ?_
 refine s_op k_mv ?_
 refine s_op k_ld ?_
 refine s_op (k_call [] (con := twin_n p.1 p.2 hpb)) ?_
 refine s_op (k_bsW (gP fun _ => p)) ?_
 refine s_op (k_call [1, 2] (con := ins_c (kpF L) (fun _ => p) L.length i0 (by omega) hi0)) ?_
 refine s_op (k_call [1] (con := clp_n _ _ _ _ (Nat.le_refl _))) ?_
 refine s_op k_as ?_
 refine s_op k_as ?_
 refine s_nil (by kernel_rfl) ?_
 refine n_wp ?_
 refine w_weak (frz_slW 4 (gP fun k => (insL L i0 p).getD k p0) (hg := fun a b _ _ => by show cellsF (PR ((insL L i0 p).getD a p0)) b = cellsF (PR (insF (kpF L) i0 p a)) b; rw [ins_kp hi0])) ?_
 refine w_ret ?_
 exact d_ret hP hn hE [] (ret2 Tryz.results9 (by first | exact ri_tmp rfl | exact ri_tmpa rfl) (by first | exact ri_tmp rfl | exact ri_tmpa rfl))

theorem ex_c (B : List Int) (hU : U8' B) : Con Tryz.prog 77 [.s (.fzi .u8 B), .s (.int .i64 41), .s (.val (.func (.func 78) #[] #[])), .s (.fz 1 1 fun _ _ => .val (.func (.func 79) #[] #[]))] [] (.tup [.agg [.one (.int .u8 (pzb B)), .one (.int .u64 ((pzg B : Nat) : Int)), .ints .u8 32 (pzi B)], .s (.int .i64 (pze B))]) [] := by
 by_cases h1 : B.length = 41
 · by_cases h2 : B.getD 0 0 ≤ 12
   · have e : okPz B = true := by rw [okPz, decide_eq_true h1, decide_eq_true h2]; rfl
     have := ex_y B h1 hU h2
     unfold pzb pzg pzi pze
     rw [e, if_pos rfl, if_pos rfl, if_pos rfl, if_pos rfl]; exact this
   · have e : okPz B = false := by rw [okPz, decide_eq_false h2, Bool.and_false]
     have := ex_work B h1 h2
     unfold pzb pzg pzi pze
     rw [e]; exact this
 · have e : okPz B = false := by rw [okPz, decide_eq_false h1, Bool.false_and]
   have := ex_form B h1
   unfold pzb pzg pzi pze
   rw [e]; exact this

set_option maxRecDepth 100000 in
set_option maxHeartbeats 4000000 in
theorem getpz_c (B : List Int) (hU : U8' B) : Con Tryz.prog 35 [.s (.fzi .u8 B)] [] (.tup [.agg [.one (.int .u8 (pzb B)), .one (.int .u64 ((pzg B : Nat) : Int)), .ints .u8 32 (pzi B)], .s (.int .i64 (pze B))]) [] := by
 refine con_in 9 Tryz.func35 rfl rfl (m := 0) rfl ?_
 intro E hP hn hE
 refine w_seq ?_
 refine g_reg hP hn ?_
 refine s_op k_al ?_
 refine s_op k_as ?_
 refine s_nil trivial ?_
 refine n_wp ?_
 refine w_seq ?_
 refine g_reg hP hn ?_
 refine s_op k_mv ?_
 refine s_op (k_bsR [[.one (.val (.func (.func 79) #[] #[]))]]) ?_
 refine s_op (k_call [] (con := ex_c B hU) (hargs := by exact .cons rfl cv (.cons rfl cv (.cons rfl cv (.cons rfl (conv_fz (fun i j hi hj => by obtain rfl : i = 0 := Nat.lt_one_iff.1 hi; obtain rfl : j = 0 := Nat.lt_one_iff.1 hj; rfl)) .nil))))) ?_
 refine s_op k_ex ?_
 refine s_op k_ex ?_
 refine s_st k_st ?_
 refine s_op k_as ?_
 refine s_nil trivial ?_
 refine n_wp ?_
 refine w_ret ?_
 exact d_ret hP hn hE [] (ret2 Tryz.results35 r_cella (by first | exact ri_tmp rfl | exact ri_tmpa rfl))

end Go.Proofs.X
end

section
/- Noughts behind what has grown. No program. -/
namespace Go.Bx
section
variable {P : Program} {T : Tm} {H : Heap} {d : Option Tmp} {ty : TypeId} {pos : String} {af : Array Edge} {g : Option (Nat × Bool)}
/-- 'append' of noughts to what has grown. -/
theorem l_apgz {x y : Operand} {t tn e rt : TypeId} {id len m n0 q0 : Nat} {kk kq kn : IntKind} {l : List Int} {inf : TypeInfo} {H' : Heap} (hx : ev T x = .s (.gro id 1 len)) (hy : ev T y = .s (.int kq (m : Int))) (hb : hget H id = some ⟨true, [.ints kk q0 l]⟩) (hll : l.length = q0) (hlq : len ≤ q0)
    (hu : P.underlying t = some (.slice e)) (htn : P.underlying tn = some (.int kn)) (hi : P.info? e = some inf) (hsz : inf.size = 1) (hz : inf.zero = some (.int kk 0)) (h0 : 0 < m) (hl0' : 0 < len) (hbig : (len + m) * inf.bytes ≤ 140737488355328) (hb1 : 0 < inf.bytes)
    (hn : H.length = n0) (hH : H.set id none ++ [some (Blk.mk true [.ints kk (len + m) (l.take len ++ List.replicate m 0)])] = H') :
    LOk P ⟨d, .call ⟨.builtin .append, #[x, y], #[t, tn]⟩, rt, pos, af, g⟩ T H H' (.s (.gro n0 1 (len + m))) [id] [id] := by
  subst hn; subst hH
  have hzc0 : Builtin.zeroCells (Value.int kk 0).cells m = (List.replicate m (Value.int kk 0)).toArray := by
    apply Array.ext'
    simp only [Builtin.zeroCells, Value.cells, Array.toList_map, Array.toList_range, List.size_toArray, List.length_cons, List.length_nil, Nat.zero_add, Nat.mul_one]
    apply List.ext_getElem
    · simp
    · intro i h1 h2
      simp [Nat.mod_one]
  have hj : Joins [.ints kk q0 l] (len * 1) [.ints kk m (List.replicate m 0)] (m * 1) [.ints kk (len + m) (l.take len ++ List.replicate m 0)] := by
    rw [Nat.mul_one, Nat.mul_one]
    exact .intsT hll hlq
  have h63 : ((len + m : Nat) : Int) ≤ 9223372036854775807 := by
    have : len + m ≤ (len + m) * inf.bytes := Nat.le_mul_of_pos_right _ hb1
    omega
  have h48 : m * inf.bytes ≤ 281474976710656 := by
    have : m * inf.bytes ≤ (len + m) * inf.bytes := Nat.mul_le_mul_right _ (by omega)
    omega
  have hwm : IntKind.i64.wrap (m : Int) = m := by rw [IntKind.wrap_i64]; omega
  have hnegm : ¬ ((m : Int) < 0) := by omega
  have h48i : ¬ (281474976710656 < (m : Int) * (inf.bytes : Int)) := by
    rw [← Int.natCast_mul]
    omega
  have hm0 : m ≠ 0 := by omega
  have hlt := hget_lt hb
  refine ⟨by simp, fun j hj1 hj2 => ?_, fun j hj1 => by simp at hj1; subst hj1; simp, fun j hj1 => (by simp at hj1; subst hj1; exact hlt), ?_⟩
  · rw [hget_app, if_pos (by simpa using hj1), hget_set hlt, if_neg (by simpa using hj2)]
  have hmk : msk [id] H.length (H.set id none ++ [some (Blk.mk true [.ints kk (len + m) (l.take len ++ List.replicate m 0)])]) = (msk [id] H.length H).set id none ++ [some (Blk.mk true [.ints kk (len + m) (l.take len ++ List.replicate m 0)])] := by
    have := msk_app [id] (H.set id none) [some (Blk.mk true [.ints kk (len + m) (l.take len ++ List.replicate m 0)])]
    rw [List.length_set] at this
    rw [this, msk_set _ _ _ (by simp)]
  rw [hmk]
  have hgm : ∀ j ∈ [id], hget (msk [id] H.length H) j = hget H j := fun j hj => by rw [hget_msk, if_pos (.inl hj)]
  generalize hH0 : msk [id] H.length H = H0 at *
  have hl0 : H0.length = H.length := by rw [← hH0, msk_len]
  intro W ρ a w hH hnone hW ho next Q hq
  have k1 : (ev T x).rep ρ (a.eval x) := ho x (by simp [Op.operands, Call.operands])
  have k2 : (ev T y).rep ρ (a.eval y) := ho y (by simp [Op.operands, Call.operands])
  rw [hx] at k1
  rw [hy] at k2
  have hev2 : a.eval y = .int kq (m : Int) := k2
  obtain ⟨news, hnews⟩ : ∃ news, news = List.replicate m (Value.int kk 0) := ⟨_, rfl⟩
  rw [← hnews] at hzc0
  have hnl : news.length = m * 1 := by rw [hnews]; simp
  have hone : ∀ v ∈ news, v.oneCell' = true := fun v hv => by rw [hnews] at hv; rw [List.eq_of_mem_replicate hv]; rfl
  have hnr : RowRep ρ [.ints kk m (List.replicate m 0)] (fun i => news[i]?) := fun i z hz => by
    obtain ⟨hi2, rfl⟩ := atS_ints1 hz
    refine ⟨.int kk 0, by rw [hnews]; simp [hi2], ?_, rfl⟩
    show _ = _
    rw [List.getD_eq_getElem?_getD, List.getElem?_replicate, if_pos hi2]; rfl
  have hb0 : hget H0 id = some ⟨true, [.ints kk q0 l]⟩ := (hgm id (by simp)).trans hb
  have hnew : ρ.m H0.length = none := hnone _ (Nat.le_refl _) (by simp)
  have hget2 : ∀ (j : Nat) (k : Blk), hget (H0.set id none ++ [some (Blk.mk true [.ints kk (len + m) (l.take len ++ List.replicate m 0)])]) j = some k → (j = H0.length ∧ k = ⟨true, [.ints kk (len + m) (l.take len ++ List.replicate m 0)]⟩) ∨ (j ≠ id ∧ j ≠ H0.length ∧ hget H0 j = some k) := by
    intro j k hk
    rw [hget_app] at hk
    simp only [List.length_set] at hk
    split at hk
    · rename_i hj
      rw [hget_set (by omega)] at hk
      by_cases hji : j = id
      · rw [if_pos hji] at hk; cases hk
      · rw [if_neg hji] at hk; exact .inr ⟨hji, by omega, hk⟩
    · have := hget_lt hk
      simp at this
      have : j = H0.length := by omega
      subst this
      rw [Nat.sub_self] at hk
      exact .inl ⟨rfl, (Option.some.inj hk).symm⟩
  -- a new row
  have grows : ∀ (base : Option Addr) (sLen sCap : Nat) (olds : List Value), a.eval x = .slice base sLen sCap → sLen = len → sCap < sLen + m → (Builtin.firstCells 1 sLen (.slice base sLen sCap)).run P w.drew = .ok olds.toArray w.drew → olds.length = len * 1 → RowRep ρ [.ints kk q0 l] (fun i => if i < len * 1 then olds[i]? else none) ∨ (∀ i x, i < len * 1 → atS [.ints kk q0 l] i = some x → ∃ v, olds[i]? = some v ∧ x.cell ρ v) →
      Oper.upon P ⟨d, .call ⟨.builtin .append, #[x, y], #[t, tn]⟩, rt, pos, af, g⟩ a next Q ((execOp a.eval ⟨d, .call ⟨.builtin .append, #[x, y], #[t, tn]⟩, rt, pos, af, g⟩).run P w) := by
    intro base sLen sCap olds hev hsl hg hold holl hor
    have hsl2 := hsl.symm
    subst hsl2
    have hor' : ∀ i x, i < len * 1 → atS [.ints kk q0 l] i = some x → ∃ v, olds[i]? = some v ∧ x.cell ρ v := by
      rcases hor with h | h
      · intro i x hi hx
        obtain ⟨v, hv, hc⟩ := h i x hx
        have hv : (if i < len * 1 then olds[i]? else none) = some v := hv
        rw [if_pos hi] at hv
        exact ⟨v, hv, hc⟩
      · exact h
    have hr := Go.Lib.run_append_grow_zeros (P := P) w t tn rt e inf (.int kk 0) kq kn hu htn hi hz base len sCap olds (by rw [hsz]; exact hold) m h0 (by omega) hg h63 h48 (growslice_fits hg hbig)
    rw [hzc0] at hr
    generalize hcap : grownCap w (len + m) sCap e = cap at hr
    have hcap' : len + m ≤ cap := hcap ▸ grownCap_ge w _ _ _
    obtain ⟨cells, hcells0⟩ : ∃ cells, olds.toArray ++ news.toArray ++ Builtin.zeroCells (Value.int kk 0).cells (cap - (len + m)) = cells := ⟨_, rfl⟩
    rw [hcells0] at hr
    have hcells : (olds ++ news).toArray ++ Builtin.zeroCells (Value.int kk 0).cells (cap - (len + m)) = cells := by rw [← hcells0]; simp
    have hrun : (execOp a.eval ⟨d, .call ⟨.builtin .append, #[x, y], #[t, tn]⟩, rt, pos, af, g⟩).run P w = .ok (.value (.slice (some ⟨w.heap.size, 0, none⟩) (len + m) cap)) (w.drew.alloc (.cells cells e)) := by
      simp only [execOp, resolve, invoke, builtin, List.map_toArray, List.map_cons, List.map_nil, hev, hev2]
      simp [Sem.run_bind, hr]
    rw [hrun]
    -- what the row holds
    have hrow : ∀ ρ', Rle ρ ρ' → RowRep ρ' [.ints kk (len + m) (l.take len ++ List.replicate m 0)] (fun i => cells[i]?) := by
      intro ρ' hle i q hqi
      have hil := atS_lt hqi
      rw [hj.1] at hil
      have hcell : ∀ v, (olds ++ news)[i]? = some v → cells[i]? = some v := fun v hv => by
        have hi' := (List.getElem?_eq_some_iff.1 hv).1
        rw [← hcells, Array.getElem?_append_left (by simpa using hi')]
        simpa using hv
      obtain ⟨c1, c2⟩ := hj.2 i q hqi
      rcases Nat.lt_or_ge i (len * 1) with h | h
      · obtain ⟨x0, hx0, he⟩ := c1 h
        obtain ⟨v, hv, hc⟩ := hor' i x0 h hx0
        refine ⟨v, hcell v (by rw [List.getElem?_append_left (by omega)]; exact hv), joined he ⟨SV.rep_le hle hc.1, hc.2⟩⟩
      · obtain ⟨x0, hx0, he⟩ := c2 h
        obtain ⟨v, hv, hc⟩ := hnr _ x0 hx0
        refine ⟨v, hcell v (by rw [List.getElem?_append_right (by omega), holl]; exact hv), joined he ⟨SV.rep_le hle hc.1, hc.2⟩⟩
    have hHd : HRep W ρ (hget (H0.set id none)) w.drew := (hH.sub fun j k hk => by
      rw [hget_set (by omega)] at hk
      split at hk
      · cases hk
      · exact hk).ext (.drew w)
    obtain ⟨ρ', k3, k4, k5⟩ := nx_alloc (t := e) (w := w.drew) (H0 := H0.set id none) hHd (by simpa using hnew) (fun b hb => hW b hb) hrow
    refine hq _ _ ⟨ρ', W, ?_, .inr ⟨w.heap.size, 0, cap, cells.size, ?_, rfl, hcap', k5, ?_⟩⟩
    · simp only [List.length_set] at k3
      exact ⟨k3.le, k3.old, k3.rep, ((Ext.drew w).fr W).trans k3.fr, k3.sub, k3.fresh, k3.fzn⟩
    · rw [← hl0]; simpa using k4
    · rw [← hcells]
      simp only [Array.size_append, List.size_toArray, List.length_append, holl, hnl, Builtin.zeroCells, Array.size_map, Array.size_range, Nat.zero_add]
      simp only [Value.cells, List.size_toArray, List.length_cons, List.length_nil]
      omega
  rcases k1 with ⟨hl, hev⟩ | ⟨b, o, cap, q, hρ, hev, hlc, hszb, hroom⟩
  · omega
  · obtain ⟨⟨cells, tt, fr, g1, g2, _, g4⟩, hWb⟩ := hH.rep id b o _ hρ hb0
    have hfr := g2 rfl
    subst hfr
    have hWb := hWb rfl
    have hcs : cells.size = q := by
      obtain ⟨cs, t', fr', h2, h3⟩ := hH.sz b q hszb
      rw [g1] at h2
      cases h2; exact h3
    rcases Nat.lt_or_ge cap (len + m) with hg | hg
    · -- no room
      have hfit : o + len * 1 ≤ cells.size := by
        have := Nat.mul_le_mul_right 1 hlc
        omega
      have hget3 : ∀ i, ((cells.toList.drop o).take (len * 1))[i]? = if i < len * 1 then cells[o + i]? else none := fun i => by
        rw [List.getElem?_take]
        by_cases h : i < len * 1
        · rw [if_pos h, if_pos h, List.getElem?_drop]; simp
        · rw [if_neg h, if_neg h]
      refine grows (some ⟨b, o, none⟩) len cap ((cells.toList.drop o).take (len * 1)) hev rfl hg ?_ (by simp; omega) (.inr fun i x0 hi2 hx0 => ?_)
      · refine run_firstCells_some w.drew 1 len ⟨b, o, none⟩ len cap _ (by simp; omega) fun i v hv => ?_
        rw [hget3] at hv
        split at hv
        · rw [addr_add]
          have g1' : w.drew.heap[b]? = some (.cells cells tt (0, 0)) := g1
          simp [World.cell?, g1']
          exact hv
        · cases hv
      · obtain ⟨v, hv, hc⟩ := g4 i x0 hx0
        exact ⟨v, by rw [hget3, if_pos hi2]; exact hv, hc⟩
    · -- there is room
      have hst := run_storeCells_at P b (o + len * 1) tt news 0 cells w g1 (by
        have := Nat.mul_le_mul_right 1 hg
        rw [Nat.add_mul] at this
        simp; omega) hone
      rw [Nat.add_zero] at hst
      have hrun : (execOp a.eval ⟨d, .call ⟨.builtin .append, #[x, y], #[t, tn]⟩, rt, pos, af, g⟩).run P w = .ok (.value (.slice (some ⟨b, o, none⟩) (len + m) cap)) (w.setRow b (cells.toList.take (o + len * 1) ++ news ++ cells.toList.drop (o + len * 1 + news.length)).toArray) := by
        simp only [execOp, resolve, invoke, builtin, List.map_toArray, List.map_cons, List.map_nil, hev, hev2]
        simp [Builtin.append_, Sem.run_bind, run_underlying hu, run_underlying htn, sizeOf, typeInfo, zeroValue, hi, hz, hsz, asInt, asIntOf, hwm, hnegm, h48i, hm0, hzc0, hg, addr_add]
        rw [Nat.mul_one] at hst
        rw [hst]; simp
      rw [hrun]
      have hbl := hH.lt _ _ _ hρ
      have hsize : ((cells.toList.take (o + len * 1) ++ news ++ cells.toList.drop (o + len * 1 + news.length)).toArray).size = cells.size := by
        have := Nat.mul_le_mul_right 1 hg
        rw [Nat.add_mul] at this
        simp; omega
      have hnewrow := setRow_heap w b cells (cells.toList.take (o + len * 1) ++ news ++ cells.toList.drop (o + len * 1 + news.length)).toArray tt (0, 0) g1
      generalize hrw : (cells.toList.take (o + len * 1) ++ news ++ cells.toList.drop (o + len * 1 + news.length)).toArray = row at *
      let ρ' : Rho := ⟨fun i => if i = H0.length then some (b, o) else ρ.m i, ρ.fz, ρ.sz⟩
      have hρ' : ∀ i x, ρ'.m i = some x → (i = H0.length ∧ x = (b, o)) ∨ (i ≠ H0.length ∧ ρ.m i = some x) := by
        intro i x hx
        have hx : (if i = H0.length then some (b, o) else ρ.m i) = some x := hx
        by_cases hi2 : i = H0.length
        · rw [if_pos hi2] at hx; exact .inl ⟨hi2, (Option.some.inj hx).symm⟩
        · rw [if_neg hi2] at hx; exact .inr ⟨hi2, hx⟩
      have hle : Rle ρ ρ' := by
        refine ⟨fun i x hx => ?_, fun _ _ h => h, fun _ _ h => h⟩
        show (if i = H0.length then some (b, o) else ρ.m i) = some x
        by_cases hi2 : i = H0.length
        · subst hi2; rw [hnew] at hx; cases hx
        · rw [if_neg hi2]; exact hx
      have hother : ∀ j b' o' k, j ≠ id → ρ.m j = some (b', o') → hget H0 j = some k → b' ≠ b := by
        intro j b' o' k hj e1 e2 e
        subst e
        have := (hH.apart j id b' o' o k _ hj e1 hρ e2 hb0).2
        cases this
      have hrowcell : ∀ i, (i < len * 1 → row[o + i]? = cells[o + i]?) ∧ (len * 1 ≤ i → i < len * 1 + news.length → row[o + i]? = news[i - len * 1]?) := by
        have hle2 : o + len * 1 ≤ cells.size := by
          have := Nat.mul_le_mul_right 1 hlc
          omega
        intro i
        refine ⟨fun h => ?_, fun h h' => ?_⟩
        · rw [← hrw, List.getElem?_toArray, List.getElem?_append_left (by simp; omega), List.getElem?_append_left (by simp; omega), List.getElem?_take, if_pos (by omega)]
          simp
        · rw [← hrw, List.getElem?_toArray, List.getElem?_append_left (by simp; omega), List.getElem?_append_right (by simp; omega)]
          congr 1
          simp; omega
      refine hq _ _ ⟨ρ', W, ⟨hle, fun i x e => ?_, ⟨fun j b' o' e => ?_, fun j b' o' k e1 e2 => ?_, fun j j' b' o1 o2 k k' hne e1 e2 e3 e4 => ?_, fun b' cs e => ?_, fun b' n' e => ?_⟩, Fr.setRow _ hWb g1 hsize, fun _ h => h, fun b' hb' => hW b' (by simpa using hb'), fun _ _ h => .inl h⟩, .inr ⟨b, o, cap, q, ?_, rfl, hg, hszb, hroom⟩⟩
      · rcases hρ' i x e with ⟨rfl, rfl⟩ | ⟨_, h⟩
        · exact .inr ⟨Nat.le_refl _, by simp, hWb⟩
        · exact .inl h
      · rcases hρ' j _ e with ⟨rfl, h⟩ | ⟨_, h⟩
        · cases h; simpa using hbl
        · have := hH.lt _ _ _ h; simpa using this
      · rcases hget2 j k e2 with ⟨rfl, rfl⟩ | ⟨h1', h2', h3'⟩
        · rcases hρ' _ _ e1 with ⟨_, h⟩ | ⟨h, _⟩
          · cases h
            refine ⟨⟨row, tt, (0, 0), hnewrow, fun _ => rfl, fun h => (by cases h), fun i p hp => ?_⟩, fun _ => hWb⟩
            have hil := atS_lt hp
            rw [hj.1] at hil
            obtain ⟨c1, c2⟩ := hj.2 i p hp
            rcases Nat.lt_or_ge i (len * 1) with h | h
            · obtain ⟨x0, hx0, he⟩ := c1 h
              obtain ⟨v, hv, hc⟩ := g4 i x0 hx0
              exact ⟨v, by show row[o + i]? = some v; rw [(hrowcell i).1 h]; exact hv, joined he ⟨SV.rep_le hle hc.1, hc.2⟩⟩
            · obtain ⟨x0, hx0, he⟩ := c2 h
              obtain ⟨v, hv, hc⟩ := hnr _ x0 hx0
              exact ⟨v, by show row[o + i]? = some v; rw [(hrowcell i).2 h (by rw [hnl]; exact hil)]; exact hv, joined he ⟨SV.rep_le hle hc.1, hc.2⟩⟩
          · exact absurd rfl h
        · rcases hρ' _ _ e1 with ⟨h, _⟩ | ⟨_, h⟩
          · exact absurd h h2'
          · have := hH.rep j b' o' k h h3'
            refine ⟨(this.1.world (setRow_other _ _ _ _ ?_)).le hle, this.2⟩
            exact fun e => (hother j b' o' k h1' h h3') e
      · rcases hget2 j k e3 with ⟨rfl, rfl⟩ | ⟨h1', h2', h3'⟩ <;> rcases hget2 j' k' e4 with ⟨rfl, rfl⟩ | ⟨h1'', h2'', h3''⟩
        · exact absurd rfl hne
        · rcases hρ' _ _ e1 with ⟨_, h⟩ | ⟨h, _⟩
          · cases h
            rcases hρ' _ _ e2 with ⟨h, _⟩ | ⟨_, h⟩
            · exact absurd h h2''
            · exact absurd rfl (hother j' b o2 k' h1'' h h3'')
          · exact absurd rfl h
        · rcases hρ' _ _ e2 with ⟨_, h⟩ | ⟨h, _⟩
          · cases h
            rcases hρ' _ _ e1 with ⟨h, _⟩ | ⟨_, h⟩
            · exact absurd h h2'
            · exact absurd rfl (hother j b o1 k h1' h h3')
          · exact absurd rfl h
        · rcases hρ' _ _ e1 with ⟨h, _⟩ | ⟨_, h⟩
          · exact absurd h h2'
          rcases hρ' _ _ e2 with ⟨h', _⟩ | ⟨_, h'⟩
          · exact absurd h' h2''
          exact hH.apart j j' b' o1 o2 k k' hne h h' h3' h3''
      · obtain ⟨q1, t', fr', q2⟩ := hH.fz b' cs e
        have hne : b' ≠ b := by intro e'; rw [e'] at q1; exact q1 hWb
        exact ⟨q1, t', fr', by rw [setRow_other _ _ _ _ hne]; exact q2⟩
      · exact sz_fr hH (Fr.setRow (W := W) row hWb g1 hsize) b' n' e
      · show (if H.length = H0.length then some (b, o) else ρ.m H.length) = some (b, o)
        rw [if_pos hl0.symm]
/-- .. of none. -/
theorem l_apg0 {x y : Operand} {t tn e rt : TypeId} {id len m : Nat} {kq kn : IntKind} {inf : TypeInfo} (hx : ev T x = .s (.gro id 1 len)) (hy : ev T y = .s (.int kq (m : Int))) (hm : m = 0) (hu : P.underlying t = some (.slice e)) (htn : P.underlying tn = some (.int kn)) (hi : P.info? e = some inf) :
    LOk P ⟨d, .call ⟨.builtin .append, #[x, y], #[t, tn]⟩, rt, pos, af, g⟩ T H H (.s (.gro id 1 len)) [] [] :=
  lok_pure fun ρ a w ho => by
    have k1 : (ev T x).rep ρ (a.eval x) := ho x (by simp [Op.operands, Call.operands])
    have k2 : (ev T y).rep ρ (a.eval y) := ho y (by simp [Op.operands, Call.operands])
    rw [hx] at k1
    rw [hy] at k2
    subst hm
    have hev2 : a.eval y = .int kq 0 := k2
    have hw0 : IntKind.i64.wrap 0 = 0 := by decide
    rcases k1 with ⟨hl, hev⟩ | ⟨b, o, cap, q, hρ, hev, hlc, hszb, hroom⟩
    · refine ⟨.slice none 0 0, ?_, .inl ⟨hl, rfl⟩⟩
      simp only [execOp, resolve, invoke, builtin, List.map_toArray, List.map_cons, List.map_nil, hev, hev2]
      simp [Builtin.append_, Sem.run_bind, run_underlying hu, run_underlying htn, sizeOf, typeInfo, hi, asInt, asIntOf, hw0]
    · refine ⟨.slice (some ⟨b, o, none⟩) len cap, ?_, .inr ⟨b, o, cap, q, hρ, rfl, hlc, hszb, hroom⟩⟩
      simp only [execOp, resolve, invoke, builtin, List.map_toArray, List.map_cons, List.map_nil, hev, hev2]
      simp [Builtin.append_, Sem.run_bind, run_underlying hu, run_underlying htn, sizeOf, typeInfo, hi, asInt, asIntOf, hw0, hlc, storeCells]
/-- Nothing behind a slice. -/
theorem k_apg0 {x y : Operand} {t tn e rt : TypeId} {id len m : Nat} {kq kn : IntKind} {inf : TypeInfo} [hu : Und P t (.slice e)] [htn : Und P tn (.int kn)] [hi : Inf P e inf] (hx : ev T x = .s (.gro id 1 len) := by rfl) (hy : ev T y = .s (.int kq (m : Int)) := by rfl) (hm : m = 0 := by omega) : LOk P ⟨d, .call ⟨.builtin .append, #[x, y], #[t, tn]⟩, rt, pos, af, g⟩ T H H (.s (.gro id 1 len)) [] [] := l_apg0 hx hy hm hu.h htn.h hi.h
theorem k_ap0 {x y : Operand} {t tx e rt : TypeId} {id base idx len cap : Nat} {k : IntKind} {l : List Int} {inf : TypeInfo} [hu : Und P t (.slice e)] [hux : Und P tx (.slice e)] [hi : Inf P e inf] (hx : ev T x = .s (.slice id base idx len cap) := by rfl) (hy : ev T y = .s (.fzi k l) := by rfl) (hl : l = []) (hlc : len ≤ cap := by omega) :
    LOk P ⟨d, .call ⟨.builtin .append, #[x, y], #[t, tx]⟩, rt, pos, af, g⟩ T H H (.s (.slice id base idx len cap)) [] [] :=
  lok_pure fun ρ a w ho => by
    have k1 : (ev T x).rep ρ (a.eval x) := ho x (by simp [Op.operands, Call.operands])
    have k2 : (ev T y).rep ρ (a.eval y) := ho y (by simp [Op.operands, Call.operands])
    rw [hx] at k1
    rw [hy, hl] at k2
    obtain ⟨b, o, hρ, hev⟩ := k1
    have hev2 : ∃ ad c, a.eval y = .slice ad 0 c := by
      rcases k2 with ⟨_, ad, c, h⟩ | ⟨b, o, c, cs, h, _⟩
      · exact ⟨ad, c, h⟩
      · exact ⟨_, _, h⟩
    obtain ⟨ad, c, hev2⟩ := hev2
    refine ⟨.slice (some ⟨b, o + base + idx, none⟩) len cap, ?_, b, o, hρ, rfl⟩
    simp only [execOp, resolve, invoke, builtin, List.map_toArray, List.map_cons, List.map_nil, hev, hev2]
    cases ad <;> simp [Builtin.append_, Builtin.lenOf, Builtin.firstCells, Sem.run_bind, run_underlying hu.h, run_underlying hux.h, sizeOf, typeInfo, hi.h, hlc, storeCells, loadCells, loadCellsFrom]
theorem k_apgz {x y : Operand} {t tn e rt : TypeId} {id len m c n0 q0 : Nat} {k kq kn : IntKind} {l l' : List Int} {inf : TypeInfo} {H' : Heap} [hu : Und P t (.slice e)] [htn : Und P tn (.int kn)] [hi : Inf P e inf] [hN : LenN H n0] (hx : ev T x = .s (.gro id 1 len) := by rfl) (hy : ev T y = .s (.int kq (m : Int)) := by rfl) (hb : hget H id = some ⟨true, [.ints k q0 l]⟩ := by rfl) (hll : l.length = q0 := by first | assumption | omega | simp [*]) (hlq : len ≤ q0 := by omega) (hsz : inf.size = 1 := by exact rfl) (hz : inf.zero = some (.int k 0) := by exact rfl) (h0 : 0 < m := by omega) (hl0 : 0 < len := by omega) (hc : len + m = c := by rfl) (hl' : l.take len ++ List.replicate m 0 = l' := by rfl) (hbig : len + m ≤ 1000000 := by omega) (hbb : Nat.ble (1000000 * inf.bytes) 140737488355328 = true := by exact rfl) (hb1 : 0 < inf.bytes := by exact Nat.le_of_ble_eq_true rfl) (hH : H.set id none ++ [some (Blk.mk true [.ints k c l'])] = H' := by exact rfl) :
    LOk P ⟨d, .call ⟨.builtin .append, #[x, y], #[t, tn]⟩, rt, pos, af, g⟩ T H H' (.s (.gro n0 1 c)) [id] [id] := by
  subst hc; subst hl'
  exact l_apgz hx hy hb hll hlq hu.h htn.h hi.h hsz hz h0 hl0 (big_ok hbig hbb) hb1 hN.h hH
end
end Go.Bx
end

section
/- Noughts made, as values; noughts behind nothing. No program. -/
namespace Go.Bx
section
variable {P : Program} {T : Tm} {H : Heap} {d : Option Tmp} {ty : TypeId} {pos : String} {af : Array Edge} {g : Option (Nat × Bool)}
/-- 'make' of integers that nobody writes. -/
theorem k_mkF {t e : TypeId} {x y : Operand} {c : Nat} {k k1 k2 : IntKind} {m1 m2 : Int} {inf : TypeInfo} {H' : Heap} [hu : Und P t (.slice e)] [hi : Inf P e inf] [hm1 : IsN m1 c] [hm2 : IsN m2 c] (hx : ev T x = .s (.int k1 m1) := by rfl) (hy : ev T y = .s (.int k2 m2) := by rfl) (hs : inf.size = 1 := by exact rfl) (hz : inf.zero = some (.int k 0) := by exact rfl) (hc2 : c ≤ 1000000 := by omega) (hbb : Nat.ble (inf.bytes * 1000000) 281474976710656 = true := by exact rfl) (hH : H ++ [none] = H' := by repeat (first | exact happ_0 | apply happ_s)) :
    LOk P ⟨d, .makeSlice t x y, ty, pos, af, g⟩ T H H' (.s (.fzi k (List.replicate c 0))) [] [] :=
  lok_val' (a_make hx hy hs hz (Nat.le_refl _) (Nat.le_trans (Nat.mul_le_mul_left _ hc2) (Nat.le_of_ble_eq_true hbb)) (by omega) rfl rfl) (conv_sl (k := ⟨false, [.ints k c (List.replicate c 0)]⟩) (n := c) (hget_last _ _) rfl rfl (by omega) (Nat.le_refl _) (by simp) (by simp)) hH
/-- Noughts behind nothing. -/
theorem l_apnz {x y : Operand} {t tn e rt : TypeId} {m n0 : Nat} {k kq kn : IntKind} {inf : TypeInfo} {H' : Heap} (hx : ev T x = .s .nils) (hy : ev T y = .s (.int kq (m : Int)))
    (hu : P.underlying t = some (.slice e)) (htn : P.underlying tn = some (.int kn)) (hi : P.info? e = some inf) (hsz : inf.size = 1) (hz : inf.zero = some (.int k 0)) (h0 : 0 < m) (hbig : m * inf.bytes ≤ 140737488355328) (hb1 : 0 < inf.bytes) (hn : H.length = n0) (hH : H ++ [some (Blk.mk true [.ints k m (List.replicate m 0)])] = H') :
    LOk P ⟨d, .call ⟨.builtin .append, #[x, y], #[t, tn]⟩, rt, pos, af, g⟩ T H H' (.s (.gro n0 1 m)) [] [] := by
  subst hH
  refine lok_new [] (fun j h => by cases h) fun H0 hl0 hg0 => ?_
  subst hn
  intro W ρ a w hH hf hW ho next Q hq
  have k1 : (ev T x).rep ρ (a.eval x) := ho x (by simp [Op.operands, Call.operands])
  have k2 : (ev T y).rep ρ (a.eval y) := ho y (by simp [Op.operands, Call.operands])
  rw [hx] at k1
  rw [hy] at k2
  have hev : a.eval x = .slice none 0 0 := k1
  have hev2 : a.eval y = .int kq (m : Int) := k2
  have hmb : m ≤ m * inf.bytes := Nat.le_mul_of_pos_right _ hb1
  have hr := Go.Lib.run_append_nil_zeros (P := P) w t tn rt e inf (.int k 0) kq kn hu htn hi hz m h0 (by omega) (by omega) (by omega)
  generalize hcap : grownCap w m 0 e = cap at hr
  have hcap' : m ≤ cap := by
    have := grownCap_ge w m 0 e
    rw [hcap] at this; exact this
  obtain ⟨cells, hcells⟩ : ∃ cells, Builtin.zeroCells (Value.int k 0).cells m ++ Builtin.zeroCells (Value.int k 0).cells (cap - m) = cells := ⟨_, rfl⟩
  rw [hcells] at hr
  have hrun : (execOp a.eval ⟨d, .call ⟨.builtin .append, #[x, y], #[t, tn]⟩, rt, pos, af, g⟩).run P w = .ok (.value (.slice (some ⟨w.heap.size, 0, none⟩) m cap)) (w.drew.alloc (.cells cells e)) := by
    simp only [execOp, resolve, invoke, builtin, List.map_toArray, List.map_cons, List.map_nil, hev, hev2]
    simp [Sem.run_bind, hr]
  rw [hrun]
  have hHd : HRep W ρ (hget H0) w.drew := hH.ext (.drew w)
  have hsize : cells.size = cap := by
    rw [← hcells]; simp [Builtin.zeroCells, Value.cells]; omega
  obtain ⟨ρ', k3, k4, k5⟩ := nx_alloc (t := e) (w := w.drew) (H0 := H0) (cells := cells) (segs := [.ints k m (List.replicate m 0)]) hHd (hf _ (Nat.le_refl _) (by simp)) (fun b hb => hW b hb) (fun ρ' hle i z hz => by
    obtain ⟨hi2, rfl⟩ := atS_ints1 hz
    refine ⟨.int k 0, ?_, ?_, rfl⟩
    · show cells[i]? = some (Value.int k 0)
      rw [← hcells, Array.getElem?_append_left (by simp [Builtin.zeroCells, Value.cells]; exact hi2)]
      simp [Builtin.zeroCells, Value.cells, hi2, Nat.mod_one]
    · show _ = _
      rw [List.getD_eq_getElem?_getD, List.getElem?_replicate, if_pos hi2]; rfl)
  refine hq _ _ ⟨ρ', W, ?_, .inr ⟨w.heap.size, 0, cap, cells.size, ?_, rfl, hcap', k5, by rw [hsize]; omega⟩⟩
  · exact ⟨k3.le, k3.old, k3.rep, ((Ext.drew w).fr W).trans k3.fr, k3.sub, k3.fresh, k3.fzn⟩
  · rw [← hl0]; exact k4
theorem k_apnz (m : Nat) {x y : Operand} {t tn e rt : TypeId} {n0 : Nat} {k kq kn : IntKind} {inf : TypeInfo} {H' : Heap} [hu : Und P t (.slice e)] [htn : Und P tn (.int kn)] [hi : Inf P e inf] [hN : LenN H n0] (hx : ev T x = .s .nils := by rfl) (hy : ev T y = .s (.int kq (m : Int)) := by rfl) (hsz : inf.size = 1 := by exact rfl) (hz : inf.zero = some (.int k 0) := by exact rfl) (h0 : 0 < m := by omega) (hbig : m ≤ 1000000 := by omega) (hbb : Nat.ble (1000000 * inf.bytes) 140737488355328 = true := by exact rfl) (hb1 : 0 < inf.bytes := by exact Nat.le_of_ble_eq_true rfl) (hH : H ++ [some (Blk.mk true [.ints k m (List.replicate m 0)])] = H' := by repeat (first | exact happ_0 | apply happ_s)) :
    LOk P ⟨d, .call ⟨.builtin .append, #[x, y], #[t, tn]⟩, rt, pos, af, g⟩ T H H' (.s (.gro n0 1 m)) [] [] :=
  l_apnz hx hy hu.h htn.h hi.h hsz hz h0 (Nat.le_trans (Nat.mul_le_mul_right _ hbig) (Nat.le_of_ble_eq_true hbb)) hb1 hN.h hH
/-- Nothing has no room. -/
theorem k_capn {x : Operand} {t e rt : TypeId} [hu : Und P t (.slice e)] (hx : ev T x = .s .nils := by rfl) : LOk P ⟨d, .call ⟨.builtin .cap, #[x], #[t]⟩, rt, pos, af, g⟩ T H H (.s (.int .i64 ((0 : Nat) : Int))) [] [] :=
  lok_pure fun ρ a w ho => by
    have k1 : (ev T x).rep ρ (a.eval x) := ho x (by simp [Op.operands, Call.operands])
    rw [hx] at k1
    have hev : a.eval x = .slice none 0 0 := k1
    refine ⟨.int .i64 0, ?_, rfl⟩
    simp only [execOp, resolve, invoke, builtin, List.map_toArray, List.map_cons, List.map_nil, hev]
    simp [Builtin.cap_, Sem.run_bind, run_underlying hu.h]
    rfl
/-- Nothing, cut. -/
theorem k_sln {t e : TypeId} {x y : Operand} {sz : Nat} {k : IntKind} {z : Int} [hu : Und P t (.slice e)] [hs : Sz P e sz] (hx : ev T x = .s .nils := by rfl) (hy : ev T y = .s (.int k z) := by rfl) (hz : z = ((0 : Nat) : Int) := by rfl) : LOk P ⟨d, .slice t x none (some y) none, ty, pos, af, g⟩ T H H (.s .nils) [] [] :=
  lok_pure fun ρ a w ho => by
    obtain ⟨k1, k2⟩ := slice_ops ho
    rw [hx] at k1
    have hev : a.eval x = .slice none 0 0 := k1
    have hb := run_bounds (P := P) (T := T) (ρ := ρ) (a := a) (b := true) (w := w) (len := 0) (cap := 0) (l := 0) (h := 0) (m := 0) (lo := none) (hi := some y) (mx := none) rfl ⟨k, z, hy, hz⟩ rfl (fun h => by cases h) k2 (Nat.le_refl _) (Nat.le_refl _) (Nat.le_refl _)
    refine ⟨.slice none 0 0, ?_, rfl⟩
    rw [exec_slice, hev, sliceAt_sl hu.h, run_slice hu.h hs.h hb]
    rfl
/-- What has grown, cut from a place on. -/
theorem k_slgx (l : Nat) {t e : TypeId} {x y : Operand} {id wd len sz n : Nat} {k : IntKind} {z : Int} [hu : Und P t (.slice e)] [hs : Sz P e sz] (hx : ev T x = .s (.gro id wd len) := by rfl) (hy : ev T y = .s (.int k z) := by rfl) (hz : z = ((l : Nat) : Int) := by rfl) (hl : l < len := by omega) (hn : len - l = n := by rfl) : LOk P ⟨d, .slice t x (some y) none none, ty, pos, af, g⟩ T H H (.s (.slx id 0 (l * sz) n 0)) [] [] :=
  lok_pure fun ρ a w ho => by
    obtain ⟨k1, k2⟩ := slice_ops ho
    rw [hx] at k1
    subst hn
    rcases k1 with ⟨hl0, hev⟩ | ⟨b, o, cap, q, hρ, hev, hlc, hszb, hroom⟩
    · omega
    · have hb := run_bounds (P := P) (T := T) (ρ := ρ) (a := a) (b := true) (w := w) (len := len) (cap := cap) (l := l) (h := len) (m := cap) (lo := some y) (hi := none) (mx := none) ⟨k, z, hy, hz⟩ rfl rfl (fun h => by cases h) k2 (by omega) (by omega) (Nat.le_refl _)
      refine ⟨.slice (some ⟨b, o + 0 + l * sz, none⟩) (len - l) (cap - l), ?_, b, o, cap - l, hρ, rfl, Nat.zero_le _, by omega⟩
      rw [exec_slice, hev, sliceAt_sl hu.h, run_slice hu.h hs.h hb]
      rw [if_neg (by omega)]
      simp [Option.map, addr_add]
/-- Integers copied to where a slice begins whose room is not told. -/
theorem l_copyx {x y : Operand} {t tx e rt : TypeId} {id base idx dl dc n m sz : Nat} {u : SV} {segs sub sub' segs' : List Seg} {R : List Nat} {H' : Heap} (hx : ev T x = .s (.slx id base idx dl dc)) (hy : ev T y = .s u) (hb : hget H id = some ⟨true, segs⟩) (hsrc : ASrc P tx sz R H u m sub) (hn : min m dl = n)
    (hu : P.underlying t = some (.slice e)) (hs : ∀ w, (sizeOf e).run P w = .ok sz w) (hsub : SubS sub 0 (n * sz) sub') (hp : PutS segs (base + idx) (n * sz) sub' segs') (hRi : ∀ i ∈ R, i < H.length) (hH : H.set id (some ⟨true, segs'⟩) = H') :
    LOk P ⟨d, .call ⟨.builtin .copy, #[x, y], #[t, tx]⟩, rt, pos, af, g⟩ T H H' (.s (.int .i64 (n : Int))) (id :: R) [id] := by
  subst hH; subst hn
  have hlt := hget_lt hb
  refine lok_set (id :: R) (fun j hj => ?_) (by simp) fun H0 hl hag => ?_
  · rcases List.mem_cons.1 hj with rfl | h
    · exact hlt
    · exact hRi j h
  intro W ρ a w hH hnn hW ho next Q hq
  have k1 : (ev T x).rep ρ (a.eval x) := ho x (by simp [Op.operands, Call.operands])
  have k2 : (ev T y).rep ρ (a.eval y) := ho y (by simp [Op.operands, Call.operands])
  rw [hx] at k1
  rw [hy] at k2
  obtain ⟨b, o, cap0, hρ, k1, _, _⟩ := k1
  obtain ⟨news, hS, hnr, hpre⟩ := hsrc.2 _ W ρ w _ (fun j hj => hag j (List.mem_cons_of_mem _ hj)) hH k2
  have hb0 : hget H0 id = some ⟨true, segs⟩ := (hag id (by simp)).trans hb
  obtain ⟨⟨cells, tt, fr, g1, g2, _, g4⟩, hWb⟩ := hH.rep id b o _ hρ hb0
  have hfr := g2 rfl
  subst hfr
  have hfit := fits g4 hp
  have hnl := hS.newsLen
  have hmn : min m dl * sz ≤ news.length := by rw [hnl]; exact Nat.mul_le_mul_right sz (Nat.min_le_left _ _)
  -- the cells that are copied
  have hf := hpre (min m dl) (Nat.min_le_left _ _)
  generalize hcs : news.take (min m dl * sz) = cs at *
  have hcl : cs.length = min m dl * sz := by rw [← hcs, List.length_take]; omega
  have hone : ∀ u ∈ cs, u.oneCell' = true := fun u hu => hS.one u (by rw [← hcs] at hu; exact List.mem_of_mem_take hu)
  have hst := run_storeCells_at P b (o + (base + idx)) tt cs 0 cells w g1 (by rw [hcl]; omega) hone
  rw [Nat.add_zero] at hst
  have hrun : (execOp a.eval ⟨d, .call ⟨.builtin .copy, #[x, y], #[t, tx]⟩, rt, pos, af, g⟩).run P w = .ok (.value (.int .i64 ((min m dl : Nat) : Int))) (w.setRow b (cells.toList.take (o + (base + idx)) ++ cs ++ cells.toList.drop (o + (base + idx) + cs.length)).toArray) := by
    simp only [execOp, resolve, invoke, builtin, List.map_toArray, List.map_cons, List.map_nil, k1]
    have hmin : Nat.min m dl = min m dl := rfl
    simp only [Builtin.copy_, Sem.run_bind, run_underlying hu, hS.len, hs, Result.andThen_ok]
    simp [Sem.run_bind, run_underlying hu, hS.len, hs, hmin, hf, goInt]
    rw [show o + base + idx = o + (base + idx) by omega, hst]
    simp
  rw [hrun]
  refine hq _ _ ⟨ρ, W, nx_write hH hW hρ hb0 g1 g4 hp hcl (fun i z hz => ?_) hfit, rfl⟩
  have hi : i < min m dl * sz := by rw [← hsub.1]; exact atS_lt hz
  obtain ⟨y', x', e1, e2, e3⟩ := hsub.2 i hi
  rw [hz] at e2
  cases e2
  rw [Nat.zero_add] at e1
  obtain ⟨v, hv, hc⟩ := hnr i y' e1
  refine ⟨v, ?_, e3.rep hc.1, hc.2⟩
  show cs[i]? = some v
  rw [← hcs, List.getElem?_take, if_pos hi]; exact hv


theorem k_cpx (n : Nat) {x y : Operand} {t tx e rt : TypeId} {id idx dl dc q : Nat} {k : IntKind} {xs ys zz : List Int} {H' : Heap} [hu : Und P t (.slice e)] [hux : Und P tx (.slice e)] [hs : Sz P e 1] (hx : ev T x = .s (.slx id 0 idx dl dc) := by rfl) (hy : ev T y = .s (.fzi k ys) := by rfl) (hb : hget H id = some ⟨true, [.ints k q xs]⟩ := by rfl) (hm : ys.length = n) (hn : n ≤ dl := by omega) (h0 : 0 < n := by omega) (hq : idx + n ≤ q := by omega) (hz : spl xs ys idx n q = zz := by rfl) (hH : H.set id (some ⟨true, [.ints k q zz]⟩) = H' := by repeat (first | exact hset_0 | apply hset_s)) :
    LOk P ⟨d, .call ⟨.builtin .copy, #[x, y], #[t, tx]⟩, rt, pos, af, g⟩ T H H' (.s (.int .i64 (n : Int))) [id] [id] := by
  subst hz
  refine l_copyx (sub' := [.ints k n ys]) hx hy hb (asrc_fzi hux.h) (by omega) hu.h hs.h ?_ ?_ (fun _ h => by cases h) hH
  · rw [hm, Nat.mul_one]; exact .whole (by simp [sizeS, Seg.size])
  · rw [Nat.mul_one]
    have h := PutS.ints (l := [.ints k q xs]) (o := 0) (i := idx) (n := n) (m := q) (k := k) (xs := xs) (ys := ys) h0 rfl hq
    exact h
end
/-- A block's cells told otherwise. -/
theorem weak_row {E : Env} {T : Tm} {H H' : Heap} (id : Nat) {b : Bool} {segs segs' : List Seg} (hb : hget H id = some ⟨b, segs⟩) (h : ∀ (ρ : Rho) (get : Nat → Option Value), RowRep ρ segs get → RowRep ρ segs' get) (hH : H.set id (some ⟨b, segs'⟩) = H') : Weak E T H T H' := by
  subst hH
  have hlt := hget_lt hb
  rintro a w ⟨ρ, W, p, hno, hT, hE⟩
  have hg : ∀ j k, hget (H.set id (some ⟨b, segs'⟩)) j = some k → ∃ k0, hget H j = some k0 ∧ k.rw = k0.rw ∧ (∀ o b', BRep ρ k0 w b' o → BRep ρ k w b' o) := by
    intro j k hk
    rw [hget_set hlt] at hk
    by_cases hj : j = id
    · subst hj
      rw [if_pos rfl] at hk
      cases hk
      refine ⟨_, hb, rfl, ?_⟩
      rintro o b' ⟨cells, t, fr, h1, h2, h3, h4⟩
      exact ⟨cells, t, fr, h1, h2, h3, h ρ _ h4⟩
    · rw [if_neg hj] at hk
      exact ⟨k, hk, rfl, fun _ _ h => h⟩
  refine ⟨ρ, W, ⟨p.le, ⟨p.rep.lt, fun j b' o k e1 e2 => ?_, fun j j' b' o o' k k' hne e1 e2 e3 e4 => ?_, p.rep.fz, p.rep.sz⟩, p.size, p.defs, p.fr, p.sub, p.fresh, p.fzn, p.old⟩, fun j hj => hno j (by simpa using hj), hT, by simpa using hE⟩
  · obtain ⟨k0, h1, h2, h3⟩ := hg j k e2
    have := p.rep.rep j b' o k0 e1 h1
    exact ⟨h3 _ _ this.1, fun e => this.2 (h2 ▸ e)⟩
  · obtain ⟨k0, h1, h2, _⟩ := hg j k e3
    obtain ⟨k1, h1', h2', _⟩ := hg j' k' e4
    have := p.rep.apart j j' b' o o' k0 k1 hne e1 e2 h1 h1'
    exact ⟨h2.trans this.1, h2'.trans this.2⟩
/-- Fewer integers of a row. -/
theorem row_take {k : IntKind} {q n : Nat} {l l' : List Int} (h : l.take n = l') (hn : n ≤ q) {ρ : Rho} {get : Nat → Option Value} (hr : RowRep ρ [.ints k q l] get) : RowRep ρ [.ints k n l'] get := fun i x hx => by
  obtain ⟨hi, rfl⟩ := atS_ints1 hx
  obtain ⟨v, hv, hc⟩ := hr i (.int k (l.getD i 0)) (by simp [atS, Seg.size, Seg.at]; omega)
  refine ⟨v, hv, ?_⟩
  have : l'.getD i 0 = l.getD i 0 := by
    rw [← h, List.getD_eq_getElem?_getD, List.getD_eq_getElem?_getD, List.getElem?_take_of_lt hi]
  rw [this]; exact hc
end Go.Bx
end

section
/- Types and functions of packets, as instances. -/
open Go Go.Bx Go.Proofs
namespace Go.Proofs.X
instance : Clb Tryz.prog 76 := ⟨_, Tryz.func76, by kernel_rfl, rfl⟩
instance : Clb Tryz.prog 40 := ⟨_, Tryz.func40, by kernel_rfl, rfl⟩
instance : Clb Tryz.prog 46 := ⟨_, Tryz.func46, by kernel_rfl, rfl⟩
instance : Clb Tryz.prog 34 := ⟨_, Tryz.func34, by kernel_rfl, rfl⟩
instance : Clb Tryz.prog 75 := ⟨_, Tryz.func75, by kernel_rfl, rfl⟩
instance : Und Tryz.prog 22 (.int .u8) := ⟨Tryz.underlying22⟩
instance : Sz Tryz.prog 22 1 := ⟨Tryz.sizeOf22⟩
instance : Ag Tryz.prog 22 false := ⟨Tryz.isAgg22⟩
instance : Zv Tryz.prog 22 [.one (.int .u8 0)] := ⟨_, Tryz.zeroValue22, by kernel_rfl⟩
instance : Zi Tryz.prog 22 .u8 := ⟨Tryz.zeroValue22⟩
instance : Inf Tryz.prog 22 Tryz.t22 := ⟨by kernel_rfl⟩
instance : Und Tryz.prog 24 (.array 16 5) := ⟨Tryz.underlying24⟩
instance : Sz Tryz.prog 24 16 := ⟨Tryz.sizeOf24⟩
instance : Ag Tryz.prog 24 true := ⟨Tryz.isAgg24⟩
instance : Zv Tryz.prog 24 [.ints .u8 16 (zs (List.replicate 16 0))] := ⟨_, Tryz.zeroValue24, by kernel_rfl⟩
instance : Zb Tryz.prog 24 .u8 16 := ⟨_, Tryz.zeroValue24, by kernel_rfl⟩
instance : Inf Tryz.prog 24 Tryz.t24 := ⟨by kernel_rfl⟩
instance : Und Tryz.prog 27 (.struct #[{ name := "Kind", type := 22, offset := 0, embedded := false, tag := "", pkgPath := "", byteOffset := 0 }, { name := "From", type := 24, offset := 1, embedded := false, tag := "", pkgPath := "", byteOffset := 1 }, { name := "To", type := 24, offset := 17, embedded := false, tag := "", pkgPath := "", byteOffset := 17 }, { name := "Params", type := 25, offset := 33, embedded := false, tag := "", pkgPath := "", byteOffset := 40 }]) := ⟨Tryz.underlying27⟩
instance : Sz Tryz.prog 27 34 := ⟨Tryz.sizeOf27⟩
instance : Ag Tryz.prog 27 true := ⟨Tryz.isAgg27⟩
instance : Zv Tryz.prog 27 [.one (.int .u8 0), .ints .u8 16 (zs (List.replicate 16 0)), .ints .u8 16 (zs (List.replicate 16 0)), .one .nils] := ⟨_, Tryz.zeroValue27, by kernel_rfl⟩
instance : FldC Tryz.prog 27 0 0 := ⟨_, _, _, Tryz.underlying27, rfl, Tryz.sizeOf22, by decide, rfl⟩
instance : FldC Tryz.prog 27 1 1 := ⟨_, _, _, Tryz.underlying27, rfl, Tryz.sizeOf24, by decide, rfl⟩
instance : FldC Tryz.prog 27 2 17 := ⟨_, _, _, Tryz.underlying27, rfl, Tryz.sizeOf24, by decide, rfl⟩
instance : FldC Tryz.prog 27 3 33 := ⟨_, _, _, Tryz.underlying27, rfl, Tryz.sizeOf25, by decide, rfl⟩
instance : Pl Tryz.prog 27 #[(0, 1), (1, 16), (17, 16), (33, 1)] := ⟨_, Tryz.underlying27, fun w => by kernel_rfl⟩
instance : Inf Tryz.prog 27 Tryz.t27 := ⟨by kernel_rfl⟩
end Go.Proofs.X
end

section
/- Packets as bytes, as lists. No program. -/
open Go Go.Bx
namespace Go.Proofs.X
abbrev PKT (k : Nat) (A B : List Int) (L : List Pc) : List Seg := [.one (.int .u8 ((k : Nat) : Int)), .ints .u8 16 A, .ints .u8 16 B, .one (PARS L)]
/-- Kinds that may be. -/
def mayK (k : Nat) : Bool := decide (0 < k) && decide (k ≤ 8)
/-- A multiple of eight. -/
def up8 (n : Nat) : Nat := (n + 8 - 1) / 8 * 8
theorem up8_le (n : Nat) : n ≤ up8 n ∧ up8 n < n + 8 := by unfold up8; omega
theorem up8_add (a n : Nat) (h : a % 8 = 0) : up8 (a + n) = a + up8 n := by unfold up8; omega
theorem up8_mod (n : Nat) : up8 n % 8 = 0 := by unfold up8; omega
/-- A piece's bytes. -/
def encP (p : Pc) : List Int := be 2 p.1 ++ be 2 p.2.length ++ p.2 ++ List.replicate (up8 (4 + p.2.length) - (4 + p.2.length)) 0
theorem encP_len (p : Pc) : (encP p).length = up8 (4 + p.2.length) := by
  have := up8_le (4 + p.2.length)
  simp [encP, be_len]; omega
def encL (L : List Pc) : List Int := (L.map encP).flatten
theorem encL_s {L : List Pc} {i : Nat} (h : i < L.length) : encL (L.take (i + 1)) = encL (L.take i) ++ encP (L.getD i p0) := by
  rw [take_snoc h, encL, List.map_append, List.flatten_append]; simp [encL]
theorem encL_mod (L : List Pc) : (encL L).length % 8 = 0 := by
  induction L with
  | nil => rfl
  | cons p r ih =>
    have : encL (p :: r) = encP p ++ encL r := by simp [encL]
    rw [this, List.length_append, encP_len]
    have := up8_mod (4 + p.2.length)
    omega
theorem encL_le (L : List Pc) (i : Nat) (hb : ∀ k, k < L.length → (L.getD k p0).2.length ≤ 2048) : i ≤ L.length → (encL (L.take i)).length ≤ 2056 * i := by
  induction i with
  | zero => intro _; simp [encL]
  | succ i ih =>
    intro h
    rw [encL_s (by omega), List.length_append, encP_len]
    have := ih (by omega)
    have := hb i (by omega)
    have := up8_le (4 + (L.getD i p0).2.length)
    have : up8 (4 + (L.getD i p0).2.length) % 8 = 0 := up8_mod _
    omega
/-- The noughts behind a piece. -/
theorem enc_fill {E b : List Int} {a t : Nat} (h : E.length % 8 = 0) : (E ++ be 2 t ++ be 2 a ++ b).length = E.length + (4 + b.length) ∧ up8 (E ++ be 2 t ++ be 2 a ++ b).length - (E ++ be 2 t ++ be 2 a ++ b).length = up8 (4 + b.length) - (4 + b.length) := by
  have e : (E ++ be 2 t ++ be 2 a ++ b).length = E.length + (4 + b.length) := by simp [be_len]; omega
  refine ⟨e, ?_⟩
  rw [e, up8_add _ _ h]; omega
theorem enc_put (E : List Int) (p : Pc) : E ++ be 2 p.1 ++ be 2 p.2.length ++ p.2 ++ List.replicate (up8 (4 + p.2.length) - (4 + p.2.length)) 0 = E ++ encP p := by simp [encP]
theorem flat_le (L : List (List Int)) (i : Nat) : (L.take i).flatten.length ≤ L.flatten.length := by
  conv => rhs; rw [← List.take_append_drop i L, List.flatten_append, List.length_append]
  exact Nat.le_add_right _ _
/-- A piece's bytes, step by step. -/
theorem enc_step {L : List Pc} {i : Nat} (h : i < L.length) : (encL (L.take i) ++ be 2 (L.getD i p0).1 ++ be 2 (L.getD i p0).2.length ++ (L.getD i p0).2) ++ List.replicate (up8 (encL (L.take i) ++ be 2 (L.getD i p0).1 ++ be 2 (L.getD i p0).2.length ++ (L.getD i p0).2).length - (encL (L.take i) ++ be 2 (L.getD i p0).1 ++ be 2 (L.getD i p0).2.length ++ (L.getD i p0).2).length) 0 = encL (L.take (i + 1)) := by
  rw [(enc_fill (encL_mod _)).2, enc_put, encL_s h]
theorem enc_step0 {L : List Pc} {i : Nat} (h : i < L.length) (hb : (L.getD i p0).2 = []) : (encL (L.take i) ++ be 2 (L.getD i p0).1 ++ be 2 (L.getD i p0).2.length) ++ List.replicate (up8 ((encL (L.take i) ++ be 2 (L.getD i p0).1).length + 2) - ((encL (L.take i) ++ be 2 (L.getD i p0).1).length + 2)) 0 = encL (L.take (i + 1)) := by
  have e := enc_step h
  rw [hb, List.append_nil] at e
  rw [hb]
  have : ((encL (L.take i) ++ be 2 (L.getD i p0).1).length + 2) = (encL (L.take i) ++ be 2 (L.getD i p0).1 ++ be 2 ([] : List Int).length).length := by simp [be_len]
  rw [this]; exact e
theorem app_len {a b : List Int} {m : Nat} (h : a ++ List.replicate m 0 = b) : a.length + m = b.length := by rw [← h]; simp
theorem app_len2 {a b : List Int} {m n : Nat} (h : a ++ List.replicate m 0 = b) (ha : a.length = n) : n + m = b.length := by rw [← h, ← ha]; simp
theorem encL_le2 (L : List Pc) (i : Nat) (hb : ∀ k, k < i → (L.getD k p0).2.length ≤ 2048) (hi : i ≤ 16) (hL : i ≤ L.length) : (encL (L.take i)).length ≤ 40000 := by
  have h := encL_le (L.take i) i (fun k hk => by
    rw [List.length_take] at hk
    rw [List.getD_eq_getElem?_getD, List.getElem?_take_of_lt (by omega), ← List.getD_eq_getElem?_getD]
    exact hb k (by omega)) (by rw [List.length_take]; omega)
  rw [List.take_take, Nat.min_self] at h
  omega
theorem encL_0 (L : List Pc) : encL (L.take 0) = [] := rfl
/-- The sum of two bytes. -/
def ck1 (n c i : Nat) : Nat := (n + (c * 2 ^ (8 * (1 - i % 2))) % 4294967296) % 4294967296
def ck2 (m : Nat) : Nat := ((m &&& 65535) + m / 2 ^ 16) % 4294967296
def ckS (B : List Int) : Nat → Nat
  | 0 => 0
  | i + 1 => ck2 (ck1 (ckS B i) (B.getD i 0).toNat i)
theorem ckS_0 (B : List Int) : ckS B 0 = 0 := rfl
theorem ckS_lt (B : List Int) (i : Nat) : ckS B i < 4294967296 := by
  cases i with
  | zero => exact Nat.zero_lt_succ _
  | succ i => exact Nat.mod_lt _ (by decide)
theorem ckS_def (B : List Int) (i : Nat) : ((((ckS B i + ((B.getD i 0).toNat * 2 ^ (8 * (1 - i % 2))) % 4294967296) % 4294967296) &&& 65535) + (ckS B i + ((B.getD i 0).toNat * 2 ^ (8 * (1 - i % 2))) % 4294967296) % 4294967296 / 2 ^ 16) % 4294967296 = ckS B (i + 1) := rfl
def chk (B : List Int) : Nat := 65535 ^^^ (ckS B B.length % 65536)
theorem chk_def (B : List Int) : 65535 ^^^ (ckS B B.length % 65536) = chk B := rfl
theorem chk_lt (B : List Int) : chk B < 65536 := Nat.xor_lt_two_pow (n := 16) (by decide) (Nat.mod_lt _ (by decide))
/-- A packet's bytes. -/
abbrev pkH (k n : Nat) : List Int := [1, (k : Int)] ++ be 2 n
def pk0 (k : Nat) (A B E : List Int) : List Int := pkH k (40 + E.length) ++ (List.replicate 4 0 ++ (A ++ (B ++ E)))
def pkB (k : Nat) (A B E : List Int) : List Int := pkH k (40 + E.length) ++ (be 2 (chk (pk0 k A B E)) ++ (List.replicate 2 0 ++ (A ++ (B ++ E))))
theorem pk_flat (k : Nat) (A B E : List Int) : [pkH k (40 + E.length), List.replicate 4 0, A, B, E].flatten = pk0 k A B E := by simp [pk0]
theorem U8'_pk0 {k : Nat} {A B E : List Int} (hk : k < 256) (hA : U8' A) (hB : U8' B) (hE : U8' E) : U8' (pk0 k A B E) := by
  unfold pk0 pkH
  refine U8'_app (U8'_app ?_ (U8'_be _ _)) (U8'_app ?_ (U8'_app hA (U8'_app hB hE)))
  · intro i
    match i with
    | 0 => exact ⟨by simp, by simp⟩
    | 1 => exact ⟨by simp, by simp; omega⟩
    | i + 2 => exact ⟨by simp, by simp⟩
  · intro i
    rw [List.getD_eq_getElem?_getD, List.getElem?_replicate]
    split <;> exact ⟨by decide, by decide⟩
theorem pk0_len {k : Nat} {A B E : List Int} (hA : A.length = 16) (hB : B.length = 16) : (pk0 k A B E).length = 40 + E.length := by
  simp [pk0, pkH, be_len, hA, hB]; omega
theorem pkB_len {k : Nat} {A B E : List Int} (hA : A.length = 16) (hB : B.length = 16) : (pkB k A B E).length = 40 + E.length := by
  simp [pkB, pkH, be_len, hA, hB]; omega
theorem pkB_spl {k m : Nat} {A B E : List Int} (hA : A.length = 16) (hB : B.length = 16) (hm : m = 40 + E.length) : spl (pk0 k A B E) (be 2 (chk (pk0 k A B E))) 4 2 m = pkB k A B E := by
  subst hm
  have h := spl_app (pkH k (40 + E.length)) (be 2 (chk (pk0 k A B E))) (List.replicate 4 0 ++ (A ++ (B ++ E))) 4 2 (40 + E.length) (by simp [pkH, be_len]) (be_len _ _) (by omega) (by simp [pkH, be_len, hA, hB]; omega)
  have e : (List.replicate 4 (0 : Int) ++ (A ++ (B ++ E))).drop 2 = List.replicate 2 0 ++ (A ++ (B ++ E)) := by rw [List.drop_append_of_le_length (by simp)]; rfl
  rw [e] at h
  exact h
end Go.Proofs.X
end

section
open Go Go.Bx Go.Proofs
namespace Go.Proofs.X
attribute [local irreducible] be gN ckS
set_option maxRecDepth 100000 in
set_option maxHeartbeats 4000000 in
theorem may_0 (k : Nat) (hk : k = 0 ∨ 8 < k) : Con Tryz.prog 40 [.s (.int .u8 ((k : Nat) : Int))] [] (.s (.bool false)) [] := by
 refine con_in 14 Tryz.func40 rfl rfl (m := 0) rfl ?_
 intro E hP hn hE
 refine w_seq ?_
 refine g_reg hP hn ?_
 refine s_op k_as ?_
 refine s_nil trivial ?_
 refine n_wp ?_
 refine w_seq ?_
 refine w_seq ?_
 refine g_reg hP hn ?_
 refine s_op k_mv ?_
 refine s_nil trivial ?_
 refine n_wp ?_
 refine w_block ?_
 refine w_seq ?_
 refine w_block ?_
 refine w_block ?_
 refine w_seq ?_
 refine w_seq ?_
 refine w_seq ?_
 refine w_seq ?_
 refine g_reg hP hn ?_
 refine s_op k_eql ?_
 refine s_op k_as ?_
 refine s_nil trivial ?_
 refine n_wp ?_
 refine w_F rfl ?_ 
 refine w_seq ?_
 refine g_reg hP hn ?_
 refine s_op k_eql ?_
 refine s_op k_as ?_
 refine s_nil trivial ?_
 refine n_wp ?_
 refine w_F rfl ?_ 
 refine w_seq ?_
 refine g_reg hP hn ?_
 refine s_op k_eql ?_
 refine s_op k_as ?_
 refine s_nil trivial ?_
 refine n_wp ?_
 refine w_F rfl ?_ 
 refine g_reg hP hn ?_
 refine s_op k_eql ?_
 refine s_op k_as ?_
 refine s_nil trivial ?_
 refine n_wp ?_
 refine w_F rfl ?_ 
 refine w_skip ?_
 refine n_wp ?_
 refine w_seq ?_
 refine w_seq ?_
 refine g_reg hP hn ?_
 refine s_op k_eql ?_
 refine s_op k_as ?_
 refine s_nil trivial ?_
 refine n_wp ?_
 refine w_F rfl ?_ 
 refine w_seq ?_
 refine g_reg hP hn ?_
 refine s_op k_eql ?_
 refine s_op k_as ?_
 refine s_nil trivial ?_
 refine n_wp ?_
 refine w_F rfl ?_ 
 refine w_seq ?_
 refine g_reg hP hn ?_
 refine s_op k_eql ?_
 refine s_op k_as ?_
 refine s_nil trivial ?_
 refine n_wp ?_
 refine w_F rfl ?_ 
 refine g_reg hP hn ?_
 refine s_op k_eql ?_
 refine s_op k_as ?_
 refine s_nil trivial ?_
 refine n_wp ?_
 refine w_F rfl ?_ 
 refine w_skip ?_
 refine n_wp ?_
 refine w_exit ?_
 refine x_ne rfl ?_
 refine x_ne rfl ?_
 refine x_thn ?_
 refine x_eq ?_
 refine n_wp ?_
 refine w_seq ?_
 refine g_reg hP hn ?_
 refine s_op k_as ?_
 refine s_nil trivial ?_
 refine n_wp ?_
 refine w_ret ?_
 exact d_ret hP hn hE [] (by first | exact r_tmp Tryz.results40 | exact r_tmpa Tryz.results40)

set_option maxRecDepth 100000 in
set_option maxHeartbeats 4000000 in
theorem may_1  : Con Tryz.prog 40 [.s (.int .u8 ((1 : Nat) : Int))] [] (.s (.bool true)) [] := by
 refine con_in 14 Tryz.func40 rfl rfl (m := 0) rfl ?_
 intro E hP hn hE
 refine w_seq ?_
 refine g_reg hP hn ?_
 refine s_op k_as ?_
 refine s_nil trivial ?_
 refine n_wp ?_
 refine w_seq ?_
 refine w_seq ?_
 refine g_reg hP hn ?_
 refine s_op k_mv ?_
 refine s_nil trivial ?_
 refine n_wp ?_
 refine w_block ?_
 refine w_seq ?_
 refine w_block ?_
 refine w_block ?_
 refine w_seq ?_
 refine w_seq ?_
 refine w_seq ?_
 refine w_seq ?_
 refine g_reg hP hn ?_
 refine s_op k_eql ?_
 refine s_op k_as ?_
 refine s_nil trivial ?_
 refine n_wp ?_
 refine w_T rfl ?_ 
 refine w_skip ?_
 refine n_wp ?_
 refine w_T rfl ?_ 
 refine w_exit ?_
 refine x_thn ?_
 refine x_thn ?_
 refine x_eq ?_
 refine n_blo ?_
 refine n_wp ?_
 refine w_seq ?_
 refine w_seq ?_
 refine g_reg hP hn ?_
 refine s_op k_as ?_
 refine s_nil trivial ?_
 refine n_wp ?_
 refine w_ret ?_
 refine r_thn ?_
 refine r_blo ?_
 refine r_thn ?_
 exact d_ret hP hn hE [] (by first | exact r_tmp Tryz.results40 | exact r_tmpa Tryz.results40)

set_option maxRecDepth 100000 in
set_option maxHeartbeats 4000000 in
theorem may_2  : Con Tryz.prog 40 [.s (.int .u8 ((2 : Nat) : Int))] [] (.s (.bool true)) [] := by
 refine con_in 14 Tryz.func40 rfl rfl (m := 0) rfl ?_
 intro E hP hn hE
 refine w_seq ?_
 refine g_reg hP hn ?_
 refine s_op k_as ?_
 refine s_nil trivial ?_
 refine n_wp ?_
 refine w_seq ?_
 refine w_seq ?_
 refine g_reg hP hn ?_
 refine s_op k_mv ?_
 refine s_nil trivial ?_
 refine n_wp ?_
 refine w_block ?_
 refine w_seq ?_
 refine w_block ?_
 refine w_block ?_
 refine w_seq ?_
 refine w_seq ?_
 refine w_seq ?_
 refine w_seq ?_
 refine g_reg hP hn ?_
 refine s_op k_eql ?_
 refine s_op k_as ?_
 refine s_nil trivial ?_
 refine n_wp ?_
 refine w_F rfl ?_ 
 refine w_seq ?_
 refine g_reg hP hn ?_
 refine s_op k_eql ?_
 refine s_op k_as ?_
 refine s_nil trivial ?_
 refine n_wp ?_
 refine w_T rfl ?_ 
 refine w_skip ?_
 refine n_wp ?_
 refine w_T rfl ?_ 
 refine w_exit ?_
 refine x_thn ?_
 refine x_thn ?_
 refine x_eq ?_
 refine n_blo ?_
 refine n_wp ?_
 refine w_seq ?_
 refine w_seq ?_
 refine g_reg hP hn ?_
 refine s_op k_as ?_
 refine s_nil trivial ?_
 refine n_wp ?_
 refine w_ret ?_
 refine r_thn ?_
 refine r_blo ?_
 refine r_thn ?_
 exact d_ret hP hn hE [] (by first | exact r_tmp Tryz.results40 | exact r_tmpa Tryz.results40)

set_option maxRecDepth 100000 in
set_option maxHeartbeats 4000000 in
theorem may_3  : Con Tryz.prog 40 [.s (.int .u8 ((3 : Nat) : Int))] [] (.s (.bool true)) [] := by
 refine con_in 14 Tryz.func40 rfl rfl (m := 0) rfl ?_
 intro E hP hn hE
 refine w_seq ?_
 refine g_reg hP hn ?_
 refine s_op k_as ?_
 refine s_nil trivial ?_
 refine n_wp ?_
 refine w_seq ?_
 refine w_seq ?_
 refine g_reg hP hn ?_
 refine s_op k_mv ?_
 refine s_nil trivial ?_
 refine n_wp ?_
 refine w_block ?_
 refine w_seq ?_
 refine w_block ?_
 refine w_block ?_
 refine w_seq ?_
 refine w_seq ?_
 refine w_seq ?_
 refine w_seq ?_
 refine g_reg hP hn ?_
 refine s_op k_eql ?_
 refine s_op k_as ?_
 refine s_nil trivial ?_
 refine n_wp ?_
 refine w_F rfl ?_ 
 refine w_seq ?_
 refine g_reg hP hn ?_
 refine s_op k_eql ?_
 refine s_op k_as ?_
 refine s_nil trivial ?_
 refine n_wp ?_
 refine w_F rfl ?_ 
 refine w_seq ?_
 refine g_reg hP hn ?_
 refine s_op k_eql ?_
 refine s_op k_as ?_
 refine s_nil trivial ?_
 refine n_wp ?_
 refine w_T rfl ?_ 
 refine w_skip ?_
 refine n_wp ?_
 refine w_T rfl ?_ 
 refine w_exit ?_
 refine x_thn ?_
 refine x_thn ?_
 refine x_eq ?_
 refine n_blo ?_
 refine n_wp ?_
 refine w_seq ?_
 refine w_seq ?_
 refine g_reg hP hn ?_
 refine s_op k_as ?_
 refine s_nil trivial ?_
 refine n_wp ?_
 refine w_ret ?_
 refine r_thn ?_
 refine r_blo ?_
 refine r_thn ?_
 exact d_ret hP hn hE [] (by first | exact r_tmp Tryz.results40 | exact r_tmpa Tryz.results40)

set_option maxRecDepth 100000 in
set_option maxHeartbeats 4000000 in
theorem may_4  : Con Tryz.prog 40 [.s (.int .u8 ((4 : Nat) : Int))] [] (.s (.bool true)) [] := by
 refine con_in 14 Tryz.func40 rfl rfl (m := 0) rfl ?_
 intro E hP hn hE
 refine w_seq ?_
 refine g_reg hP hn ?_
 refine s_op k_as ?_
 refine s_nil trivial ?_
 refine n_wp ?_
 refine w_seq ?_
 refine w_seq ?_
 refine g_reg hP hn ?_
 refine s_op k_mv ?_
 refine s_nil trivial ?_
 refine n_wp ?_
 refine w_block ?_
 refine w_seq ?_
 refine w_block ?_
 refine w_block ?_
 refine w_seq ?_
 refine w_seq ?_
 refine w_seq ?_
 refine w_seq ?_
 refine g_reg hP hn ?_
 refine s_op k_eql ?_
 refine s_op k_as ?_
 refine s_nil trivial ?_
 refine n_wp ?_
 refine w_F rfl ?_ 
 refine w_seq ?_
 refine g_reg hP hn ?_
 refine s_op k_eql ?_
 refine s_op k_as ?_
 refine s_nil trivial ?_
 refine n_wp ?_
 refine w_F rfl ?_ 
 refine w_seq ?_
 refine g_reg hP hn ?_
 refine s_op k_eql ?_
 refine s_op k_as ?_
 refine s_nil trivial ?_
 refine n_wp ?_
 refine w_F rfl ?_ 
 refine g_reg hP hn ?_
 refine s_op k_eql ?_
 refine s_op k_as ?_
 refine s_nil trivial ?_
 refine n_wp ?_
 refine w_T rfl ?_ 
 refine w_exit ?_
 refine x_thn ?_
 refine x_thn ?_
 refine x_eq ?_
 refine n_blo ?_
 refine n_wp ?_
 refine w_seq ?_
 refine w_seq ?_
 refine g_reg hP hn ?_
 refine s_op k_as ?_
 refine s_nil trivial ?_
 refine n_wp ?_
 refine w_ret ?_
 refine r_thn ?_
 refine r_blo ?_
 refine r_thn ?_
 exact d_ret hP hn hE [] (by first | exact r_tmp Tryz.results40 | exact r_tmpa Tryz.results40)

set_option maxRecDepth 100000 in
set_option maxHeartbeats 4000000 in
theorem may_5  : Con Tryz.prog 40 [.s (.int .u8 ((5 : Nat) : Int))] [] (.s (.bool true)) [] := by
 refine con_in 14 Tryz.func40 rfl rfl (m := 0) rfl ?_
 intro E hP hn hE
 refine w_seq ?_
 refine g_reg hP hn ?_
 refine s_op k_as ?_
 refine s_nil trivial ?_
 refine n_wp ?_
 refine w_seq ?_
 refine w_seq ?_
 refine g_reg hP hn ?_
 refine s_op k_mv ?_
 refine s_nil trivial ?_
 refine n_wp ?_
 refine w_block ?_
 refine w_seq ?_
 refine w_block ?_
 refine w_block ?_
 refine w_seq ?_
 refine w_seq ?_
 refine w_seq ?_
 refine w_seq ?_
 refine g_reg hP hn ?_
 refine s_op k_eql ?_
 refine s_op k_as ?_
 refine s_nil trivial ?_
 refine n_wp ?_
 refine w_F rfl ?_ 
 refine w_seq ?_
 refine g_reg hP hn ?_
 refine s_op k_eql ?_
 refine s_op k_as ?_
 refine s_nil trivial ?_
 refine n_wp ?_
 refine w_F rfl ?_ 
 refine w_seq ?_
 refine g_reg hP hn ?_
 refine s_op k_eql ?_
 refine s_op k_as ?_
 refine s_nil trivial ?_
 refine n_wp ?_
 refine w_F rfl ?_ 
 refine g_reg hP hn ?_
 refine s_op k_eql ?_
 refine s_op k_as ?_
 refine s_nil trivial ?_
 refine n_wp ?_
 refine w_F rfl ?_ 
 refine w_skip ?_
 refine n_wp ?_
 refine w_seq ?_
 refine w_seq ?_
 refine g_reg hP hn ?_
 refine s_op k_eql ?_
 refine s_op k_as ?_
 refine s_nil trivial ?_
 refine n_wp ?_
 refine w_T rfl ?_ 
 refine w_skip ?_
 refine n_wp ?_
 refine w_T rfl ?_ 
 refine w_exit ?_
 refine x_thn ?_
 refine x_ne rfl ?_
 refine x_eq ?_
 refine n_wp ?_
 refine w_seq ?_
 refine w_seq ?_
 refine g_reg hP hn ?_
 refine s_op k_as ?_
 refine s_nil trivial ?_
 refine n_wp ?_
 refine w_ret ?_
 refine r_thn ?_
 refine r_blo ?_
 refine r_thn ?_
 exact d_ret hP hn hE [] (by first | exact r_tmp Tryz.results40 | exact r_tmpa Tryz.results40)

set_option maxRecDepth 100000 in
set_option maxHeartbeats 4000000 in
theorem may_6  : Con Tryz.prog 40 [.s (.int .u8 ((6 : Nat) : Int))] [] (.s (.bool true)) [] := by
 refine con_in 14 Tryz.func40 rfl rfl (m := 0) rfl ?_
 intro E hP hn hE
 refine w_seq ?_
 refine g_reg hP hn ?_
 refine s_op k_as ?_
 refine s_nil trivial ?_
 refine n_wp ?_
 refine w_seq ?_
 refine w_seq ?_
 refine g_reg hP hn ?_
 refine s_op k_mv ?_
 refine s_nil trivial ?_
 refine n_wp ?_
 refine w_block ?_
 refine w_seq ?_
 refine w_block ?_
 refine w_block ?_
 refine w_seq ?_
 refine w_seq ?_
 refine w_seq ?_
 refine w_seq ?_
 refine g_reg hP hn ?_
 refine s_op k_eql ?_
 refine s_op k_as ?_
 refine s_nil trivial ?_
 refine n_wp ?_
 refine w_F rfl ?_ 
 refine w_seq ?_
 refine g_reg hP hn ?_
 refine s_op k_eql ?_
 refine s_op k_as ?_
 refine s_nil trivial ?_
 refine n_wp ?_
 refine w_F rfl ?_ 
 refine w_seq ?_
 refine g_reg hP hn ?_
 refine s_op k_eql ?_
 refine s_op k_as ?_
 refine s_nil trivial ?_
 refine n_wp ?_
 refine w_F rfl ?_ 
 refine g_reg hP hn ?_
 refine s_op k_eql ?_
 refine s_op k_as ?_
 refine s_nil trivial ?_
 refine n_wp ?_
 refine w_F rfl ?_ 
 refine w_skip ?_
 refine n_wp ?_
 refine w_seq ?_
 refine w_seq ?_
 refine g_reg hP hn ?_
 refine s_op k_eql ?_
 refine s_op k_as ?_
 refine s_nil trivial ?_
 refine n_wp ?_
 refine w_F rfl ?_ 
 refine w_seq ?_
 refine g_reg hP hn ?_
 refine s_op k_eql ?_
 refine s_op k_as ?_
 refine s_nil trivial ?_
 refine n_wp ?_
 refine w_T rfl ?_ 
 refine w_skip ?_
 refine n_wp ?_
 refine w_T rfl ?_ 
 refine w_exit ?_
 refine x_thn ?_
 refine x_ne rfl ?_
 refine x_eq ?_
 refine n_wp ?_
 refine w_seq ?_
 refine w_seq ?_
 refine g_reg hP hn ?_
 refine s_op k_as ?_
 refine s_nil trivial ?_
 refine n_wp ?_
 refine w_ret ?_
 refine r_thn ?_
 refine r_blo ?_
 refine r_thn ?_
 exact d_ret hP hn hE [] (by first | exact r_tmp Tryz.results40 | exact r_tmpa Tryz.results40)

set_option maxRecDepth 100000 in
set_option maxHeartbeats 4000000 in
theorem may_7  : Con Tryz.prog 40 [.s (.int .u8 ((7 : Nat) : Int))] [] (.s (.bool true)) [] := by
 refine con_in 14 Tryz.func40 rfl rfl (m := 0) rfl ?_
 intro E hP hn hE
 refine w_seq ?_
 refine g_reg hP hn ?_
 refine s_op k_as ?_
 refine s_nil trivial ?_
 refine n_wp ?_
 refine w_seq ?_
 refine w_seq ?_
 refine g_reg hP hn ?_
 refine s_op k_mv ?_
 refine s_nil trivial ?_
 refine n_wp ?_
 refine w_block ?_
 refine w_seq ?_
 refine w_block ?_
 refine w_block ?_
 refine w_seq ?_
 refine w_seq ?_
 refine w_seq ?_
 refine w_seq ?_
 refine g_reg hP hn ?_
 refine s_op k_eql ?_
 refine s_op k_as ?_
 refine s_nil trivial ?_
 refine n_wp ?_
 refine w_F rfl ?_ 
 refine w_seq ?_
 refine g_reg hP hn ?_
 refine s_op k_eql ?_
 refine s_op k_as ?_
 refine s_nil trivial ?_
 refine n_wp ?_
 refine w_F rfl ?_ 
 refine w_seq ?_
 refine g_reg hP hn ?_
 refine s_op k_eql ?_
 refine s_op k_as ?_
 refine s_nil trivial ?_
 refine n_wp ?_
 refine w_F rfl ?_ 
 refine g_reg hP hn ?_
 refine s_op k_eql ?_
 refine s_op k_as ?_
 refine s_nil trivial ?_
 refine n_wp ?_
 refine w_F rfl ?_ 
 refine w_skip ?_
 refine n_wp ?_
 refine w_seq ?_
 refine w_seq ?_
 refine g_reg hP hn ?_
 refine s_op k_eql ?_
 refine s_op k_as ?_
 refine s_nil trivial ?_
 refine n_wp ?_
 refine w_F rfl ?_ 
 refine w_seq ?_
 refine g_reg hP hn ?_
 refine s_op k_eql ?_
 refine s_op k_as ?_
 refine s_nil trivial ?_
 refine n_wp ?_
 refine w_F rfl ?_ 
 refine w_seq ?_
 refine g_reg hP hn ?_
 refine s_op k_eql ?_
 refine s_op k_as ?_
 refine s_nil trivial ?_
 refine n_wp ?_
 refine w_T rfl ?_ 
 refine w_skip ?_
 refine n_wp ?_
 refine w_T rfl ?_ 
 refine w_exit ?_
 refine x_thn ?_
 refine x_ne rfl ?_
 refine x_eq ?_
 refine n_wp ?_
 refine w_seq ?_
 refine w_seq ?_
 refine g_reg hP hn ?_
 refine s_op k_as ?_
 refine s_nil trivial ?_
 refine n_wp ?_
 refine w_ret ?_
 refine r_thn ?_
 refine r_blo ?_
 refine r_thn ?_
 exact d_ret hP hn hE [] (by first | exact r_tmp Tryz.results40 | exact r_tmpa Tryz.results40)

set_option maxRecDepth 100000 in
set_option maxHeartbeats 4000000 in
theorem may_8  : Con Tryz.prog 40 [.s (.int .u8 ((8 : Nat) : Int))] [] (.s (.bool true)) [] := by
 refine con_in 14 Tryz.func40 rfl rfl (m := 0) rfl ?_
 intro E hP hn hE
 refine w_seq ?_
 refine g_reg hP hn ?_
 refine s_op k_as ?_
 refine s_nil trivial ?_
 refine n_wp ?_
 refine w_seq ?_
 refine w_seq ?_
 refine g_reg hP hn ?_
 refine s_op k_mv ?_
 refine s_nil trivial ?_
 refine n_wp ?_
 refine w_block ?_
 refine w_seq ?_
 refine w_block ?_
 refine w_block ?_
 refine w_seq ?_
 refine w_seq ?_
 refine w_seq ?_
 refine w_seq ?_
 refine g_reg hP hn ?_
 refine s_op k_eql ?_
 refine s_op k_as ?_
 refine s_nil trivial ?_
 refine n_wp ?_
 refine w_F rfl ?_ 
 refine w_seq ?_
 refine g_reg hP hn ?_
 refine s_op k_eql ?_
 refine s_op k_as ?_
 refine s_nil trivial ?_
 refine n_wp ?_
 refine w_F rfl ?_ 
 refine w_seq ?_
 refine g_reg hP hn ?_
 refine s_op k_eql ?_
 refine s_op k_as ?_
 refine s_nil trivial ?_
 refine n_wp ?_
 refine w_F rfl ?_ 
 refine g_reg hP hn ?_
 refine s_op k_eql ?_
 refine s_op k_as ?_
 refine s_nil trivial ?_
 refine n_wp ?_
 refine w_F rfl ?_ 
 refine w_skip ?_
 refine n_wp ?_
 refine w_seq ?_
 refine w_seq ?_
 refine g_reg hP hn ?_
 refine s_op k_eql ?_
 refine s_op k_as ?_
 refine s_nil trivial ?_
 refine n_wp ?_
 refine w_F rfl ?_ 
 refine w_seq ?_
 refine g_reg hP hn ?_
 refine s_op k_eql ?_
 refine s_op k_as ?_
 refine s_nil trivial ?_
 refine n_wp ?_
 refine w_F rfl ?_ 
 refine w_seq ?_
 refine g_reg hP hn ?_
 refine s_op k_eql ?_
 refine s_op k_as ?_
 refine s_nil trivial ?_
 refine n_wp ?_
 refine w_F rfl ?_ 
 refine g_reg hP hn ?_
 refine s_op k_eql ?_
 refine s_op k_as ?_
 refine s_nil trivial ?_
 refine n_wp ?_
 refine w_T rfl ?_ 
 refine w_exit ?_
 refine x_thn ?_
 refine x_ne rfl ?_
 refine x_eq ?_
 refine n_wp ?_
 refine w_seq ?_
 refine w_seq ?_
 refine g_reg hP hn ?_
 refine s_op k_as ?_
 refine s_nil trivial ?_
 refine n_wp ?_
 refine w_ret ?_
 refine r_thn ?_
 refine r_blo ?_
 refine r_thn ?_
 exact d_ret hP hn hE [] (by first | exact r_tmp Tryz.results40 | exact r_tmpa Tryz.results40)

theorem may_c (k : Nat) : Con Tryz.prog 40 [.s (.int .u8 ((k : Nat) : Int))] [] (.s (.bool (mayK k))) [] := by
 by_cases h : k = 0 ∨ 8 < k
 · have e : mayK k = false := by
     unfold mayK
     rcases h with h | h
     · rw [decide_eq_false (show ¬ 0 < k by omega)]; rfl
     · rw [decide_eq_false (show ¬ k ≤ 8 by omega), Bool.and_false]
   rw [e]; exact may_0 k h
 · have : k = 1 ∨ k = 2 ∨ k = 3 ∨ k = 4 ∨ k = 5 ∨ k = 6 ∨ k = 7 ∨ k = 8 := by omega
   rcases this with rfl | rfl | rfl | rfl | rfl | rfl | rfl | rfl
   · exact may_1
   · exact may_2
   · exact may_3
   · exact may_4
   · exact may_5
   · exact may_6
   · exact may_7
   · exact may_8

set_option maxRecDepth 100000 in
set_option maxHeartbeats 4000000 in
theorem check2_n (B : List Int) (hU : U8' B) (hBb : B.length ≤ 1000000) : Con Tryz.prog 46 [.s (.fzi .u8 B)] [] (.s (.int .u16 ((chk B : Nat) : Int))) [] := by
 refine con_in 31 Tryz.func46 rfl rfl (m := 0) rfl ?_
 intro E hP hn hE
 refine w_seq ?_
 refine g_reg hP hn ?_
 refine s_op k_as ?_
 refine s_nil trivial ?_
 refine n_wp ?_
 refine w_seq ?_
 refine g_reg hP hn ?_
 refine s_op k_as ?_
 refine s_nil trivial ?_
 refine n_wp ?_
 refine w_seq ?_
 refine w_seq ?_
 refine g_reg hP hn ?_
 refine s_op k_mv ?_
 refine s_op k_len ?_
 refine s_op k_mv ?_
 refine s_nil trivial ?_
 refine n_wp ?_
 refine w_block ?_
 refine c_loop (fun m_ T H => ∃ i, i ≤ B.length ∧ m_ = B.length - i ∧ T = [(3, .s (.int .u32 ((ckS B i : Nat) : Int))), (6, .s (.fzi .u8 B)), (7, .s (.int .i64 ((B.length : Nat) : Int))), (8, .s (.int .i64 ((i : Nat) : Int)))] ∧ H = []) (B.length) ⟨0, by omega, rfl, by rw [ckS_0], rfl⟩ (wk hE []) ?_
 rintro n_ T_ H_ ⟨i, hi, rfl, rfl, rfl⟩
 refine w_seq ?_
 refine g_reg hP hn ?_
 refine s_op k_lss ?_
 refine s_nil trivial ?_
 refine n_wp ?_
 refine w_seq ?_
 refine w_if rfl (fun h_t9 => ?_) (fun h_t9 => ?_)
 · skip
   haveI hiB : IsN (B.getD i 0) (B.getD i 0).toNat := ⟨(Int.toNat_of_nonneg (hU i).1).symm⟩
   have hb1 := (hU i).1
   have hb2 := (hU i).2
   have hck := ckS_lt B i
   refine w_skip ?_
   refine n_wp ?_
   refine w_seq ?_
   refine w_block ?_
   refine w_seq ?_
   refine g_reg hP hn ?_
   refine s_op k_mv ?_
   refine s_op k_ix ?_
   refine s_op k_ld ?_
   refine s_op k_as ?_
   refine s_op k_as ?_
   refine s_nil trivial ?_
   refine n_wp ?_
   refine w_seq ?_
   refine g_reg hP hn ?_
   refine s_op k_mv ?_
   refine s_op k_mv ?_
   refine s_op k_cv ?_
   refine s_op k_mv ?_
   refine s_op k_rem ?_
   refine s_op k_sub ?_
   refine s_op k_mul ?_
   refine s_op k_shl ?_
   refine s_op k_add ?_
   refine s_op k_as ?_
   refine s_nil trivial ?_
   refine n_wp ?_
   refine g_reg hP hn ?_
   refine s_op k_mv ?_
   refine s_op k_and ?_
   refine s_op k_mv ?_
   refine s_op k_shr ?_
   refine s_op k_add ?_
   refine s_op k_as ?_
   refine s_nil trivial ?_
   refine n_blo ?_
   refine n_wp ?_
   refine g_reg hP hn ?_
   refine s_op k_add ?_
   refine s_op k_mv ?_
   refine s_nil trivial ?_
   exact n_round (B.length - (i + 1)) (by omega) ⟨i + 1, by omega, rfl, by rw [← ckS_def], rfl⟩ (wk hE [])
 · skip
   obtain rfl : i = B.length := Nat.le_antisymm hi (by omega)
   have hck := ckS_lt B B.length
   refine w_exit ?_
   refine x_thn ?_
   refine x_thn ?_
   refine x_eq ?_
   refine n_wp ?_
   refine w_seq ?_
   refine g_reg hP hn ?_
   refine s_op k_mv ?_
   refine s_op k_cv ?_
   refine s_op (l_com (r := ((chk B : Nat) : Int)) rfl ((m_xor (k := .u16) (m := ((65535 : Nat) : Int)) (show 65535 < 65536 by decide) (Nat.mod_lt _ (by decide))).trans (congrArg _ (chk_def B)))) ?_
   refine s_op k_as ?_
   refine s_nil trivial ?_
   refine n_wp ?_
   refine w_ret ?_
   exact d_ret hP hn hE [] (by first | exact r_tmp Tryz.results46 | exact r_tmpa Tryz.results46)

end Go.Proofs.X
end
