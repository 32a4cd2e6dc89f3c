/- A part of the proofs of this claim: BBit1, BDivW, BDivT, BDiv1, BDiv2, Bx30, BModW, BModT, BMod1. No conditions. -/
import Derived.Test.YtcddchknofjbhaaGreatA5
set_option linter.unusedVariables false
set_option linter.unusedSimpArgs false
section
set_option maxRecDepth 100000
set_option maxHeartbeats 4000000
open Go Go.Bx Go.Proofs
namespace Go.Proofs.X
attribute [local irreducible] bitsN
theorem len64_n (x : Nat) (hx : x < 18446744073709551616) : Con Tryz.prog 170 [.s (.int .u64 ((x : Nat) : Int))] [] (.s (.int .i64 ((bitsN x : Nat) : Int))) [] := by
 refine con_in 25 Tryz.func170 rfl rfl (m := 0) rfl ?_
 intro E hP hn hE
 refine qz hP hn ?_
 refine s_op k_as ?_
 refine s_nil trivial (n_wp (w_seq (qz hP hn ?_)))
 refine o2 ?_
 refine s_nil trivial (n_wp ?_)
 refine w_cut (fun T H => ∃ y1 n1, y1 < 4294967296 ∧ n1 ≤ 32 ∧ bitsN x = n1 + bitsN y1 ∧ T = [(0, .s (.int .u64 ((y1 : Nat) : Int))), (2, .s (.int .i64 ((n1 : Nat) : Int)))] ∧ H = []) ?_ ?_
 · refine w_if rfl (fun h_t4 => ?_) (fun h_t4 => ?_)
   · refine qz hP hn ?_
     refine o3 ?_
     refine qy hP hn ?_
     refine s_op k_as ?_
     refine s_nil trivial ?_
     exact n_cut ⟨x / 2 ^ 32, 32, by omega, by omega, bitsN_shr (k := 32) (by omega), rfl, rfl⟩ (wk hE [])
   · refine w_skip ?_
     exact n_cut ⟨x, 0, by omega, by omega, by omega, rfl, rfl⟩ (wk hE [])
 rintro T H ⟨y1, n1, hy1, hn1, hb1, rfl, rfl⟩
 refine w_seq (qz hP hn ?_)
 refine o2 ?_
 refine s_nil trivial (n_wp ?_)
 refine w_cut (fun T H => ∃ y2 n2, y2 < 65536 ∧ n2 ≤ 48 ∧ bitsN x = n2 + bitsN y2 ∧ T = [(0, .s (.int .u64 ((y2 : Nat) : Int))), (2, .s (.int .i64 ((n2 : Nat) : Int)))] ∧ H = []) ?_ ?_
 · refine w_if rfl (fun h_t8 => ?_) (fun h_t8 => ?_)
   · refine qz hP hn ?_
     refine o3 ?_
     refine qy hP hn ?_
     refine o3 ?_
     refine s_nil trivial ?_
     exact n_cut ⟨y1 / 2 ^ 16, n1 + 16, by omega, by omega, by rw [hb1, bitsN_shr (x := y1) (k := 16) (by omega), Nat.add_assoc], rfl, rfl⟩ (wk hE [])
   · refine w_skip ?_
     exact n_cut ⟨y1, n1, by omega, by omega, hb1, rfl, rfl⟩ (wk hE [])
 rintro T H ⟨y2, n2, hy2, hn2, hb2, rfl, rfl⟩
 refine w_seq (qz hP hn ?_)
 refine o2 ?_
 refine s_nil trivial (n_wp ?_)
 refine w_cut (fun T H => ∃ y3 n3, y3 < 256 ∧ n3 ≤ 56 ∧ bitsN x = n3 + bitsN y3 ∧ T = [(0, .s (.int .u64 ((y3 : Nat) : Int))), (2, .s (.int .i64 ((n3 : Nat) : Int)))] ∧ H = []) ?_ ?_
 · refine w_if rfl (fun h_t14 => ?_) (fun h_t14 => ?_)
   · refine qz hP hn ?_
     refine o3 ?_
     refine qy hP hn ?_
     refine o3 ?_
     refine s_nil trivial ?_
     exact n_cut ⟨y2 / 2 ^ 8, n2 + 8, by omega, by omega, by rw [hb2, bitsN_shr (x := y2) (k := 8) (by omega), Nat.add_assoc], rfl, rfl⟩ (wk hE [])
   · refine w_skip ?_
     exact n_cut ⟨y2, n2, by omega, by omega, hb2, rfl, rfl⟩ (wk hE [])
 rintro T H ⟨y3, n3, hy3, hn3, hb3, rfl, rfl⟩
 refine w_seq ?_
 have hb8 := bitsN_mono (m := 8) (n := y3) (by omega)
 refine g_reg hP hn ?_
 refine o3 ?_
 refine s_op (k_ids (bitsN y3) (hr := tab_ok _ (by decide +kernel) y3 (by omega))) ?_
 refine o3 ?_
 refine s_nil trivial (n_wp ?_)
 rw [← hb3]
 refine w_ret ?_
 exact d_ret hP hn hE [] (by first | exact r_tmp Tryz.results170 | exact r_tmpa Tryz.results170)

theorem lz64_n (x : Nat) (hx : x < 18446744073709551616) : Con Tryz.prog 168 [.s (.int .u64 ((x : Nat) : Int))] [] (.s (.int .i64 ((64 - bitsN x : Nat) : Int))) [] := by
 refine con_in 6 Tryz.func168 rfl rfl (m := 0) rfl ?_
 intro E hP hn hE
 refine qz hP hn ?_
 refine s_op k_as ?_
 refine s_nil trivial (n_wp (w_seq ?_))
 have hb := bitsN_mono (m := 64) (n := x) (by omega)
 refine g_reg hP hn ?_
 refine s_op k_mv ?_
 refine s_op (k_call [] (con := len64_n _ (by omega))) ?_
 refine o2 ?_
 refine s_nil trivial (n_wp (w_ret ?_))
 exact d_ret hP hn hE [] (by first | exact r_tmp Tryz.results168 | exact r_tmpa Tryz.results168)

theorem mul64_n (x y : Nat) (hx : x < 18446744073709551616) (hy : y < 18446744073709551616) : Con Tryz.prog 159 [.s (.int .u64 ((x : Nat) : Int)), .s (.int .u64 ((y : Nat) : Int))] [] (.tup [.s (.int .u64 ((x * y / 18446744073709551616 : Nat) : Int)), .s (.int .u64 ((x * y % 18446744073709551616 : Nat) : Int))]) [] := by
 refine con_in 51 Tryz.func159 rfl rfl (m := 0) rfl ?_
 intro E hP hn hE
 obtain ⟨b1, b2, b3, hhi⟩ := Go.Lib.mul64_hi x y hx hy
 have b4 := Go.Lib.half_mul_le (a := x / 4294967296) (b := y / 4294967296) (by omega) (by omega)
 have b5 := Go.Lib.half_mul_le (a := x / 4294967296) (b := y % 4294967296) (by omega) (by omega)
 have b6 := Go.Lib.half_mul_le (a := x % 4294967296) (b := y / 4294967296) (by omega) (by omega)
 refine qz hP hn ?_
 refine o2 ?_
 refine qx hP hn ?_
 refine o3 ?_
 refine qx hP hn ?_
 refine o3 ?_
 refine qx hP hn ?_
 refine o3 ?_
 refine qx hP hn ?_
 refine o3 ?_
 refine s_nil trivial (n_wp (w_seq ?_))
 rw [and32 x, and32 y, show (2 : Nat) ^ 32 = 4294967296 from rfl]
 refine g_reg hP hn ?_
 refine o4 ?_
 refine qx hP hn ?_
 refine o4 ?_
 refine o3 ?_
 refine qx hP hn ?_
 refine o3 ?_
 refine qx hP hn ?_
 refine o3 ?_
 refine s_nil trivial (n_wp (w_seq ?_))
 rw [and32, show (2 : Nat) ^ 32 = 4294967296 from rfl]
 refine g_reg hP hn ?_
 refine o4 ?_
 refine o2 ?_
 refine qx hP hn ?_
 refine o4 ?_
 refine o3 ?_
 refine o2 ?_
 refine s_nil trivial (n_wp (w_seq ?_))
 rw [show (2 : Nat) ^ 32 = 4294967296 from rfl, hhi]
 refine g_reg hP hn ?_
 refine o2 ?_
 refine s_op (k_mul (by exact l_bin rfl rfl (b_mul m_mulm))) ?_
 refine s_op k_as ?_
 refine s_nil trivial (n_wp (w_ret ?_))
 exact d_ret hP hn hE [] (ret2 Tryz.results159 (by first | exact ri_tmp rfl | exact ri_tmpa rfl) (by first | exact ri_tmp rfl | exact ri_tmpa rfl))

theorem div64_0 (lo y : Nat) (hy0 : 0 < y) (hy : y < 18446744073709551616) (hl : lo < 18446744073709551616) : Con Tryz.prog 163 [.s (.int .u64 0), .s (.int .u64 ((lo : Nat) : Int)), .s (.int .u64 ((y : Nat) : Int))] [] (.tup [.s (.int .u64 ((lo / y : Nat) : Int)), .s (.int .u64 ((lo % y : Nat) : Int))]) [] := by
 refine con_in 135 Tryz.func163 rfl rfl (m := 0) rfl ?_
 intro E hP hn hE
 refine qz hP hn ?_
 refine o2 ?_
 refine s_nil trivial (n_wp (w_seq (qz hP hn ?_)))
 refine o2 ?_
 refine s_nil trivial (n_wp ?_)
 refine w_F rfl ?_ 
 refine w_skip (n_wp (w_seq (qz hP hn ?_)))
 refine o3 ?_
 refine s_nil trivial (n_wp ?_)
 refine w_F rfl ?_ 
 refine w_skip (n_wp (w_seq (qz hP hn ?_)))
 refine o2 ?_
 refine s_nil trivial (n_wp ?_)
 refine w_T rfl ?_ 
 refine w_seq ?_
 refine g_any hP hn ?_
 refine o4 ?_
 refine o4 ?_
 refine s_nil (by kernel_rfl) ?_
 refine n_wp (w_ret (r_thn ?_))
 exact d_ret hP hn hE [] (ret2 Tryz.results163 (by first | exact ri_tmp rfl | exact ri_tmpa rfl) (by first | exact ri_tmp rfl | exact ri_tmpa rfl))

theorem div64_h (hi lo y : Nat) (hh0 : 0 < hi) (hh : hi < y) (hy : y < 18446744073709551616) (hl : lo < 18446744073709551616) : Con Tryz.prog 163 [.s (.int .u64 ((hi : Nat) : Int)), .s (.int .u64 ((lo : Nat) : Int)), .s (.int .u64 ((y : Nat) : Int))] [] (.tup [.s (.int .u64 (((hi * 18446744073709551616 + lo) / y : Nat) : Int)), .s (.int .u64 (((hi * 18446744073709551616 + lo) % y : Nat) : Int))]) [] := by
 refine con_in 135 Tryz.func163 rfl rfl (m := 0) rfl ?_
 intro E hP hn hE
 obtain ⟨Y, un, u0, d⟩ := dv_of (by omega) hy hh hl
 have hbig := d.big
 have hunlt := d.lt
 have hs63 := d.s64
 have hu0l : u0 < 18446744073709551616 := by rw [← d.hu0]; exact Nat.mod_lt _ (by omega)
 have hy0m : Y % 4294967296 < 4294967296 := Nat.mod_lt _ (by omega)
 have hall := kn_all d (by omega)
 refine qz hP hn ?_
 refine o2 ?_
 refine s_nil trivial (n_wp (w_seq (qz hP hn ?_)))
 refine o2 ?_
 refine s_nil trivial (n_wp ?_)
 refine w_F rfl ?_ 
 refine w_skip (n_wp (w_seq (qz hP hn ?_)))
 refine o3 ?_
 refine s_nil trivial (n_wp ?_)
 refine w_F rfl ?_ 
 refine w_skip (n_wp (w_seq (qz hP hn ?_)))
 refine o2 ?_
 refine s_nil trivial (n_wp ?_)
 refine w_F rfl ?_ 
 refine w_skip (n_wp (qz hP hn ?_))
 refine s_op k_mv ?_
 refine s_op (k_call [] (con := lz64_n _ (by omega))) ?_
 refine o2 ?_
 refine qx hP hn ?_
 refine o4 ?_
 refine s_nil trivial (n_wp (w_seq ?_))
 rw [d.hY]
 refine g_reg hP hn ?_
 refine o3 ?_
 refine qx hP hn ?_
 refine o3 ?_
 refine s_nil trivial (n_wp (w_seq ?_))
 rw [and32, show (2 : Nat) ^ 32 = 4294967296 from rfl]
 have hlq : lo / 2 ^ (64 - (64 - bitsN y)) < 18446744073709551616 := Nat.lt_of_le_of_lt (Nat.div_le_self _ _) hl
 have hhq : hi * 2 ^ (64 - bitsN y) % 18446744073709551616 < 18446744073709551616 := Nat.mod_lt _ (by omega)
 refine g_reg hP hn ?_
 refine o4 ?_
 refine o3 ?_
 refine o2 ?_
 refine s_nil trivial (n_wp (w_seq ?_))
 rw [d.hun]
 refine g_reg hP hn ?_
 refine o4 ?_
 refine s_nil trivial (n_wp (w_seq ?_))
 rw [d.hu0]
 refine g_reg hP hn ?_
 refine o3 ?_
 refine qx hP hn ?_
 refine o3 ?_
 refine s_nil trivial (n_wp (w_seq ?_))
 rw [and32 u0, show (2 : Nat) ^ 32 = 4294967296 from rfl]
 have hkf := kn_fit un (Y / 4294967296) (by omega)
 refine g_reg hP hn ?_
 refine o4 ?_
 refine qx hP hn ?_
 refine o4 ?_
 refine s_op (k_sub (by exact l_bin rfl rfl (b_sub (m_sub (c := un % (Y / 4294967296)) (hc := ⟨kn_rest _ _⟩) ⟨Nat.div_mul_le_self _ _, by omega⟩)))) ?_
 refine s_op k_as ?_
 refine s_nil trivial (n_wp (w_seq (w_block ?_)))
 refine c_loop (fun m T H => ∃ q rh, m = q ∧ KL un (u0 / 4294967296) Y q rh ∧ T = [(2, .s (.int .u64 ((Y : Nat) : Int))), (8, .s (.int .u64 ((64 - bitsN y : Nat) : Int))), (9, .s (.int .u64 ((Y / 4294967296 : Nat) : Int))), (10, .s (.int .u64 ((Y % 4294967296 : Nat) : Int))), (11, .s (.int .u64 ((un : Nat) : Int))), (13, .s (.int .u64 ((u0 / 4294967296 : Nat) : Int))), (14, .s (.int .u64 ((u0 % 4294967296 : Nat) : Int))), (15, .s (.int .u64 ((q : Nat) : Int))), (16, .s (.int .u64 ((rh : Nat) : Int)))] ∧ H = []) ((un / (Y / 4294967296))) ⟨_, _, rfl, KL.start (by omega) d.lt d.big.1 d.big.2, rfl, rfl⟩ (wk hE []) ?_
 rintro n_ T_ H_ ⟨q, rh, hm, kl, rfl, rfl⟩
 have hq := kl.hq
 have hr := kl.hr
 refine w_seq (qz hP hn ?_)
 refine o3 ?_
 refine s_opf rfl rfl (fun hB => by rw [hB]; (try simp only [Bool.or_eq_true, Bool.or_eq_false_iff, Bool.and_eq_true, Bool.not_eq_true', Bool.not_eq_false', decide_eq_true_eq, decide_eq_false_iff_not] at hB); exact k_mv) ?_
 refine s_opf rfl rfl (fun hB => by rw [hB]; (try simp only [Bool.or_eq_true, Bool.or_eq_false_iff, Bool.and_eq_true, Bool.not_eq_true', Bool.not_eq_false', decide_eq_true_eq, decide_eq_false_iff_not] at hB); exact k_mv) ?_
 refine s_opf rfl rfl (fun hB => by rw [hB]; (try simp only [Bool.or_eq_true, Bool.or_eq_false_iff, Bool.and_eq_true, Bool.not_eq_true', Bool.not_eq_false', decide_eq_true_eq, decide_eq_false_iff_not] at hB); exact k_mul (by exact l_bin rfl rfl (b_mul (m_mul (kn_mul hB hy0m))))) ?_
 refine s_opf rfl rfl (fun hB => by rw [hB]; (try simp only [Bool.or_eq_true, Bool.or_eq_false_iff, Bool.and_eq_true, Bool.not_eq_true', Bool.not_eq_false', decide_eq_true_eq, decide_eq_false_iff_not] at hB); exact k_mv) ?_
 refine s_opf rfl rfl (fun hB => by rw [hB]; (try simp only [Bool.or_eq_true, Bool.or_eq_false_iff, Bool.and_eq_true, Bool.not_eq_true', Bool.not_eq_false', decide_eq_true_eq, decide_eq_false_iff_not] at hB); exact k_mul) ?_
 refine s_opf rfl rfl (fun hB => by rw [hB]; (try simp only [Bool.or_eq_true, Bool.or_eq_false_iff, Bool.and_eq_true, Bool.not_eq_true', Bool.not_eq_false', decide_eq_true_eq, decide_eq_false_iff_not] at hB); exact k_mv) ?_
 refine s_opf rfl rfl (fun hB => by rw [hB]; (try simp only [Bool.or_eq_true, Bool.or_eq_false_iff, Bool.and_eq_true, Bool.not_eq_true', Bool.not_eq_false', decide_eq_true_eq, decide_eq_false_iff_not] at hB); exact k_add) ?_
 refine s_opf rfl rfl (fun hB => by rw [hB]; (try simp only [Bool.or_eq_true, Bool.or_eq_false_iff, Bool.and_eq_true, Bool.not_eq_true', Bool.not_eq_false', decide_eq_true_eq, decide_eq_false_iff_not] at hB); exact k_gtr) ?_
 refine s_op k_pk ?_
 refine s_nil trivial (n_wp ?_)
 refine w_cond rfl (fun h_t78 => ?_) (fun h_t78 => ?_)
 · simp only [Bool.or_eq_true, Bool.or_eq_false_iff, decide_eq_true_eq, decide_eq_false_iff_not] at h_t78
   have nx := kl.next (by omega) d.lt d.big.1 h_t78
   refine w_skip (n_wp (w_block (qz hP hn ?_)))
   refine o3 ?_
   refine qx hP hn ?_
   refine o4 ?_
   refine qx hP hn ?_
   refine o2 ?_
   refine s_nil trivial (n_wp ?_)
   refine w_if rfl (fun h_t85 => ?_) (fun h_t85 => ?_)
   · have hqq := kn_far nx.2 d.big.1 (by omega) h_t85
     rw [hqq]
     refine w_exit (x_ne rfl (x_thn (x_eq (n_wp (qz hP hn ?_)))))
     refine s_op k_mv ?_
     refine s_op (k_mul (by exact l_bin rfl rfl (b_mul m_mulm))) ?_
     refine s_op k_mv ?_
     refine s_op (k_add (by exact l_bin rfl rfl (b_add m_addm))) ?_
     refine o2 ?_
     refine s_op (k_mul (by exact l_bin rfl rfl (b_mul m_mulm))) ?_
     refine s_op (k_sub (by exact l_bin rfl rfl (b_sub (m_subm (by omega))))) ?_
     refine s_op k_as ?_
     refine s_nil trivial (n_wp (w_seq ?_))
     rw [kn_wrap (q := (un * 4294967296 + u0 / 4294967296) / Y) rfl (by omega) d.big.2]
     have hml := Nat.mod_lt (un * 4294967296 + u0 / 4294967296) (show 0 < Y by omega)
     have hkf2 := kn_fit ((un * 4294967296 + u0 / 4294967296) % Y) (Y / 4294967296) (by omega)
     have hq1l := kn_q (un1 := u0 / 4294967296) d.lt (by omega)
     refine g_reg hP hn ?_
     refine o4 ?_
     refine qx hP hn ?_
     refine o4 ?_
     refine s_op (k_sub (by exact l_bin rfl rfl (b_sub (m_sub (c := (un * 4294967296 + u0 / 4294967296) % Y % (Y / 4294967296)) (hc := ⟨kn_rest _ _⟩) ⟨Nat.div_mul_le_self _ _, by omega⟩)))) ?_
     refine s_op k_as ?_
     refine s_nil trivial (n_wp (w_seq (w_block ?_)))
     refine c_loop (fun m T H => ∃ q rh, m = q ∧ KL ((un * 4294967296 + u0 / 4294967296) % Y) (u0 % 4294967296) Y q rh ∧ T = [(2, .s (.int .u64 ((Y : Nat) : Int))), (8, .s (.int .u64 ((64 - bitsN y : Nat) : Int))), (9, .s (.int .u64 ((Y / 4294967296 : Nat) : Int))), (10, .s (.int .u64 ((Y % 4294967296 : Nat) : Int))), (14, .s (.int .u64 ((u0 % 4294967296 : Nat) : Int))), (15, .s (.int .u64 (((un * 4294967296 + u0 / 4294967296) / Y : Nat) : Int))), (17, .s (.int .u64 (((un * 4294967296 + u0 / 4294967296) % Y : Nat) : Int))), (18, .s (.int .u64 ((q : Nat) : Int))), (16, .s (.int .u64 ((rh : Nat) : Int)))] ∧ H = []) ((((un * 4294967296 + u0 / 4294967296) % Y) / (Y / 4294967296))) ⟨_, _, rfl, KL.start (by omega) (Nat.mod_lt _ (by omega)) d.big.1 d.big.2, rfl, rfl⟩ (wk hE []) ?_
     rintro n_ T_ H_ ⟨q, rh, hm, kl, rfl, rfl⟩
     have hq := kl.hq
     have hr := kl.hr
     refine w_seq (qz hP hn ?_)
     refine o3 ?_
     refine s_opf rfl rfl (fun hB => by rw [hB]; (try simp only [Bool.or_eq_true, Bool.or_eq_false_iff, Bool.and_eq_true, Bool.not_eq_true', Bool.not_eq_false', decide_eq_true_eq, decide_eq_false_iff_not] at hB); exact k_mv) ?_
     refine s_opf rfl rfl (fun hB => by rw [hB]; (try simp only [Bool.or_eq_true, Bool.or_eq_false_iff, Bool.and_eq_true, Bool.not_eq_true', Bool.not_eq_false', decide_eq_true_eq, decide_eq_false_iff_not] at hB); exact k_mv) ?_
     refine s_opf rfl rfl (fun hB => by rw [hB]; (try simp only [Bool.or_eq_true, Bool.or_eq_false_iff, Bool.and_eq_true, Bool.not_eq_true', Bool.not_eq_false', decide_eq_true_eq, decide_eq_false_iff_not] at hB); exact k_mul (by exact l_bin rfl rfl (b_mul (m_mul (kn_mul hB hy0m))))) ?_
     refine s_opf rfl rfl (fun hB => by rw [hB]; (try simp only [Bool.or_eq_true, Bool.or_eq_false_iff, Bool.and_eq_true, Bool.not_eq_true', Bool.not_eq_false', decide_eq_true_eq, decide_eq_false_iff_not] at hB); exact k_mv) ?_
     refine s_opf rfl rfl (fun hB => by rw [hB]; (try simp only [Bool.or_eq_true, Bool.or_eq_false_iff, Bool.and_eq_true, Bool.not_eq_true', Bool.not_eq_false', decide_eq_true_eq, decide_eq_false_iff_not] at hB); exact k_mul) ?_
     refine s_opf rfl rfl (fun hB => by rw [hB]; (try simp only [Bool.or_eq_true, Bool.or_eq_false_iff, Bool.and_eq_true, Bool.not_eq_true', Bool.not_eq_false', decide_eq_true_eq, decide_eq_false_iff_not] at hB); exact k_mv) ?_
     refine s_opf rfl rfl (fun hB => by rw [hB]; (try simp only [Bool.or_eq_true, Bool.or_eq_false_iff, Bool.and_eq_true, Bool.not_eq_true', Bool.not_eq_false', decide_eq_true_eq, decide_eq_false_iff_not] at hB); exact k_add) ?_
     refine s_opf rfl rfl (fun hB => by rw [hB]; (try simp only [Bool.or_eq_true, Bool.or_eq_false_iff, Bool.and_eq_true, Bool.not_eq_true', Bool.not_eq_false', decide_eq_true_eq, decide_eq_false_iff_not] at hB); exact k_gtr) ?_
     refine s_op k_pk ?_
     refine s_nil trivial (n_wp ?_)
     refine w_cond rfl (fun h_t113 => ?_) (fun h_t113 => ?_)
     · simp only [Bool.or_eq_true, Bool.or_eq_false_iff, decide_eq_true_eq, decide_eq_false_iff_not] at h_t113
       have nx := kl.next (by omega) (Nat.mod_lt _ (by omega)) d.big.1 h_t113
       refine w_skip (n_wp (w_block (qz hP hn ?_)))
       refine o3 ?_
       refine qx hP hn ?_
       refine o4 ?_
       refine qx hP hn ?_
       refine o2 ?_
       refine s_nil trivial (n_wp ?_)
       refine w_if rfl (fun h_t120 => ?_) (fun h_t120 => ?_)
       · have hqq := kn_far nx.2 d.big.1 (by omega) h_t120
         rw [hqq]
         refine w_exit (x_ne rfl (x_thn (x_eq (n_wp (w_seq ?_)))))
         have hq2l := kn_q (un := (un * 4294967296 + u0 / 4294967296) % Y) (un1 := u0 % 4294967296) (Nat.mod_lt _ (by omega)) (by omega)
         refine g_reg hP hn ?_
         refine o3 ?_
         refine o2 ?_
         refine s_op (k_mul (by exact l_bin rfl rfl (b_mul m_mulm))) ?_
         refine s_op k_mv ?_
         refine s_op (k_add (by exact l_bin rfl rfl (b_add m_addm))) ?_
         refine o2 ?_
         refine s_op (k_mul (by exact l_bin rfl rfl (b_mul m_mulm))) ?_
         refine s_op (k_sub (by exact l_bin rfl rfl (b_sub (m_subm (by omega))))) ?_
         rw [kn_wrap (un := (un * 4294967296 + u0 / 4294967296) % Y) (u1 := u0 % 4294967296) (q := ((un * 4294967296 + u0 / 4294967296) % Y * 4294967296 + u0 % 4294967296) / Y) rfl (by omega) d.big.2]
         refine o4 ?_
         refine s_nil trivial (n_wp ?_)
         rw [hall.1, hall.2]
         refine w_ret ?_
         exact d_ret hP hn hE [] (ret2 Tryz.results163 (by first | exact ri_tmp rfl | exact ri_tmpa rfl) (by first | exact ri_tmp rfl | exact ri_tmpa rfl))
       · refine w_skip (n_blo ?_)
         exact n_round (q - 1) (by omega) ⟨q - 1, _, rfl, ⟨nx.2, by omega, by omega⟩, rfl, rfl⟩ (wk hE [])
     · simp only [Bool.or_eq_true, Bool.or_eq_false_iff, decide_eq_true_eq, decide_eq_false_iff_not] at h_t113
       have hqq := kl.done d.big.1 h_t113.2
       rw [hqq]
       refine w_exit (x_thn (x_thn (x_eq (n_wp (w_seq ?_)))))
       have hq2l := kn_q (un := (un * 4294967296 + u0 / 4294967296) % Y) (un1 := u0 % 4294967296) (Nat.mod_lt _ (by omega)) (by omega)
       refine g_reg hP hn ?_
       refine o3 ?_
       refine o2 ?_
       refine s_op (k_mul (by exact l_bin rfl rfl (b_mul m_mulm))) ?_
       refine s_op k_mv ?_
       refine s_op (k_add (by exact l_bin rfl rfl (b_add m_addm))) ?_
       refine o2 ?_
       refine s_op (k_mul (by exact l_bin rfl rfl (b_mul m_mulm))) ?_
       refine s_op (k_sub (by exact l_bin rfl rfl (b_sub (m_subm (by omega))))) ?_
       rw [kn_wrap (un := (un * 4294967296 + u0 / 4294967296) % Y) (u1 := u0 % 4294967296) (q := ((un * 4294967296 + u0 / 4294967296) % Y * 4294967296 + u0 % 4294967296) / Y) rfl (by omega) d.big.2]
       refine o4 ?_
       refine s_nil trivial (n_wp ?_)
       rw [hall.1, hall.2]
       refine w_ret ?_
       exact d_ret hP hn hE [] (ret2 Tryz.results163 (by first | exact ri_tmp rfl | exact ri_tmpa rfl) (by first | exact ri_tmp rfl | exact ri_tmpa rfl))
   · refine w_skip (n_blo ?_)
     exact n_round (q - 1) (by omega) ⟨q - 1, _, rfl, ⟨nx.2, by omega, by omega⟩, rfl, rfl⟩ (wk hE [])
 · simp only [Bool.or_eq_true, Bool.or_eq_false_iff, decide_eq_true_eq, decide_eq_false_iff_not] at h_t78
   have hqq := kl.done d.big.1 h_t78.2
   rw [hqq]
   refine w_exit (x_thn (x_thn (x_eq (n_wp (qz hP hn ?_)))))
   refine s_op k_mv ?_
   refine s_op (k_mul (by exact l_bin rfl rfl (b_mul m_mulm))) ?_
   refine s_op k_mv ?_
   refine s_op (k_add (by exact l_bin rfl rfl (b_add m_addm))) ?_
   refine o2 ?_
   refine s_op (k_mul (by exact l_bin rfl rfl (b_mul m_mulm))) ?_
   refine s_op (k_sub (by exact l_bin rfl rfl (b_sub (m_subm (by omega))))) ?_
   refine s_op k_as ?_
   refine s_nil trivial (n_wp (w_seq ?_))
   rw [kn_wrap (q := (un * 4294967296 + u0 / 4294967296) / Y) rfl (by omega) d.big.2]
   have hml := Nat.mod_lt (un * 4294967296 + u0 / 4294967296) (show 0 < Y by omega)
   have hkf2 := kn_fit ((un * 4294967296 + u0 / 4294967296) % Y) (Y / 4294967296) (by omega)
   have hq1l := kn_q (un1 := u0 / 4294967296) d.lt (by omega)
   refine g_reg hP hn ?_
   refine o4 ?_
   refine qx hP hn ?_
   refine o4 ?_
   refine s_op (k_sub (by exact l_bin rfl rfl (b_sub (m_sub (c := (un * 4294967296 + u0 / 4294967296) % Y % (Y / 4294967296)) (hc := ⟨kn_rest _ _⟩) ⟨Nat.div_mul_le_self _ _, by omega⟩)))) ?_
   refine s_op k_as ?_
   refine s_nil trivial (n_wp (w_seq (w_block ?_)))
   refine c_loop (fun m T H => ∃ q rh, m = q ∧ KL ((un * 4294967296 + u0 / 4294967296) % Y) (u0 % 4294967296) Y q rh ∧ T = [(2, .s (.int .u64 ((Y : Nat) : Int))), (8, .s (.int .u64 ((64 - bitsN y : Nat) : Int))), (9, .s (.int .u64 ((Y / 4294967296 : Nat) : Int))), (10, .s (.int .u64 ((Y % 4294967296 : Nat) : Int))), (14, .s (.int .u64 ((u0 % 4294967296 : Nat) : Int))), (15, .s (.int .u64 (((un * 4294967296 + u0 / 4294967296) / Y : Nat) : Int))), (17, .s (.int .u64 (((un * 4294967296 + u0 / 4294967296) % Y : Nat) : Int))), (18, .s (.int .u64 ((q : Nat) : Int))), (16, .s (.int .u64 ((rh : Nat) : Int)))] ∧ H = []) ((((un * 4294967296 + u0 / 4294967296) % Y) / (Y / 4294967296))) ⟨_, _, rfl, KL.start (by omega) (Nat.mod_lt _ (by omega)) d.big.1 d.big.2, rfl, rfl⟩ (wk hE []) ?_
   rintro n_ T_ H_ ⟨q, rh, hm, kl, rfl, rfl⟩
   have hq := kl.hq
   have hr := kl.hr
   refine w_seq (qz hP hn ?_)
   refine o3 ?_
   refine s_opf rfl rfl (fun hB => by rw [hB]; (try simp only [Bool.or_eq_true, Bool.or_eq_false_iff, Bool.and_eq_true, Bool.not_eq_true', Bool.not_eq_false', decide_eq_true_eq, decide_eq_false_iff_not] at hB); exact k_mv) ?_
   refine s_opf rfl rfl (fun hB => by rw [hB]; (try simp only [Bool.or_eq_true, Bool.or_eq_false_iff, Bool.and_eq_true, Bool.not_eq_true', Bool.not_eq_false', decide_eq_true_eq, decide_eq_false_iff_not] at hB); exact k_mv) ?_
   refine s_opf rfl rfl (fun hB => by rw [hB]; (try simp only [Bool.or_eq_true, Bool.or_eq_false_iff, Bool.and_eq_true, Bool.not_eq_true', Bool.not_eq_false', decide_eq_true_eq, decide_eq_false_iff_not] at hB); exact k_mul (by exact l_bin rfl rfl (b_mul (m_mul (kn_mul hB hy0m))))) ?_
   refine s_opf rfl rfl (fun hB => by rw [hB]; (try simp only [Bool.or_eq_true, Bool.or_eq_false_iff, Bool.and_eq_true, Bool.not_eq_true', Bool.not_eq_false', decide_eq_true_eq, decide_eq_false_iff_not] at hB); exact k_mv) ?_
   refine s_opf rfl rfl (fun hB => by rw [hB]; (try simp only [Bool.or_eq_true, Bool.or_eq_false_iff, Bool.and_eq_true, Bool.not_eq_true', Bool.not_eq_false', decide_eq_true_eq, decide_eq_false_iff_not] at hB); exact k_mul) ?_
   refine s_opf rfl rfl (fun hB => by rw [hB]; (try simp only [Bool.or_eq_true, Bool.or_eq_false_iff, Bool.and_eq_true, Bool.not_eq_true', Bool.not_eq_false', decide_eq_true_eq, decide_eq_false_iff_not] at hB); exact k_mv) ?_
   refine s_opf rfl rfl (fun hB => by rw [hB]; (try simp only [Bool.or_eq_true, Bool.or_eq_false_iff, Bool.and_eq_true, Bool.not_eq_true', Bool.not_eq_false', decide_eq_true_eq, decide_eq_false_iff_not] at hB); exact k_add) ?_
   refine s_opf rfl rfl (fun hB => by rw [hB]; (try simp only [Bool.or_eq_true, Bool.or_eq_false_iff, Bool.and_eq_true, Bool.not_eq_true', Bool.not_eq_false', decide_eq_true_eq, decide_eq_false_iff_not] at hB); exact k_gtr) ?_
   refine s_op k_pk ?_
   refine s_nil trivial (n_wp ?_)
   refine w_cond rfl (fun h_t113 => ?_) (fun h_t113 => ?_)
   · simp only [Bool.or_eq_true, Bool.or_eq_false_iff, decide_eq_true_eq, decide_eq_false_iff_not] at h_t113
     have nx := kl.next (by omega) (Nat.mod_lt _ (by omega)) d.big.1 h_t113
     refine w_skip (n_wp (w_block (qz hP hn ?_)))
     refine o3 ?_
     refine qx hP hn ?_
     refine o4 ?_
     refine qx hP hn ?_
     refine o2 ?_
     refine s_nil trivial (n_wp ?_)
     refine w_if rfl (fun h_t120 => ?_) (fun h_t120 => ?_)
     · have hqq := kn_far nx.2 d.big.1 (by omega) h_t120
       rw [hqq]
       refine w_exit (x_ne rfl (x_thn (x_eq (n_wp (w_seq ?_)))))
       have hq2l := kn_q (un := (un * 4294967296 + u0 / 4294967296) % Y) (un1 := u0 % 4294967296) (Nat.mod_lt _ (by omega)) (by omega)
       refine g_reg hP hn ?_
       refine o3 ?_
       refine o2 ?_
       refine s_op (k_mul (by exact l_bin rfl rfl (b_mul m_mulm))) ?_
       refine s_op k_mv ?_
       refine s_op (k_add (by exact l_bin rfl rfl (b_add m_addm))) ?_
       refine o2 ?_
       refine s_op (k_mul (by exact l_bin rfl rfl (b_mul m_mulm))) ?_
       refine s_op (k_sub (by exact l_bin rfl rfl (b_sub (m_subm (by omega))))) ?_
       rw [kn_wrap (un := (un * 4294967296 + u0 / 4294967296) % Y) (u1 := u0 % 4294967296) (q := ((un * 4294967296 + u0 / 4294967296) % Y * 4294967296 + u0 % 4294967296) / Y) rfl (by omega) d.big.2]
       refine o4 ?_
       refine s_nil trivial (n_wp ?_)
       rw [hall.1, hall.2]
       refine w_ret ?_
       exact d_ret hP hn hE [] (ret2 Tryz.results163 (by first | exact ri_tmp rfl | exact ri_tmpa rfl) (by first | exact ri_tmp rfl | exact ri_tmpa rfl))
     · refine w_skip (n_blo ?_)
       exact n_round (q - 1) (by omega) ⟨q - 1, _, rfl, ⟨nx.2, by omega, by omega⟩, rfl, rfl⟩ (wk hE [])
   · simp only [Bool.or_eq_true, Bool.or_eq_false_iff, decide_eq_true_eq, decide_eq_false_iff_not] at h_t113
     have hqq := kl.done d.big.1 h_t113.2
     rw [hqq]
     refine w_exit (x_thn (x_thn (x_eq (n_wp (w_seq ?_)))))
     have hq2l := kn_q (un := (un * 4294967296 + u0 / 4294967296) % Y) (un1 := u0 % 4294967296) (Nat.mod_lt _ (by omega)) (by omega)
     refine g_reg hP hn ?_
     refine o3 ?_
     refine o2 ?_
     refine s_op (k_mul (by exact l_bin rfl rfl (b_mul m_mulm))) ?_
     refine s_op k_mv ?_
     refine s_op (k_add (by exact l_bin rfl rfl (b_add m_addm))) ?_
     refine o2 ?_
     refine s_op (k_mul (by exact l_bin rfl rfl (b_mul m_mulm))) ?_
     refine s_op (k_sub (by exact l_bin rfl rfl (b_sub (m_subm (by omega))))) ?_
     rw [kn_wrap (un := (un * 4294967296 + u0 / 4294967296) % Y) (u1 := u0 % 4294967296) (q := ((un * 4294967296 + u0 / 4294967296) % Y * 4294967296 + u0 % 4294967296) / Y) rfl (by omega) d.big.2]
     refine o4 ?_
     refine s_nil trivial (n_wp ?_)
     rw [hall.1, hall.2]
     refine w_ret ?_
     exact d_ret hP hn hE [] (ret2 Tryz.results163 (by first | exact ri_tmp rfl | exact ri_tmpa rfl) (by first | exact ri_tmp rfl | exact ri_tmpa rfl))

theorem div64_n (hi lo y : Nat) (hh : hi < y) (hy : y < 18446744073709551616) (hl : lo < 18446744073709551616) : Con Tryz.prog 163 [.s (.int .u64 ((hi : Nat) : Int)), .s (.int .u64 ((lo : Nat) : Int)), .s (.int .u64 ((y : Nat) : Int))] [] (.tup [.s (.int .u64 (((hi * 18446744073709551616 + lo) / y : Nat) : Int)), .s (.int .u64 (((hi * 18446744073709551616 + lo) % y : Nat) : Int))]) [] := by
 by_cases h0 : 0 < hi
 · exact div64_h hi lo y h0 hh hy hl
 · have h0 : hi = 0 := by omega
   subst h0
   have h := div64_0 lo y (by omega) hy hl
   rw [Nat.zero_mul, Nat.zero_add]
   exact h

theorem rem64_n (hi lo y : Nat) (hy0 : 0 < y) (hy : y < 18446744073709551616) (hh : hi < 18446744073709551616) (hl : lo < 18446744073709551616) : Con Tryz.prog 160 [.s (.int .u64 ((hi : Nat) : Int)), .s (.int .u64 ((lo : Nat) : Int)), .s (.int .u64 ((y : Nat) : Int))] [] (.s (.int .u64 (((hi * 18446744073709551616 + lo) % y : Nat) : Int))) [] := by
 refine con_in 19 Tryz.func160 rfl rfl (m := 0) rfl ?_
 intro E hP hn hE
 refine qz hP hn ?_
 refine s_op k_as ?_
 refine qx hP hn ?_
 refine o3 ?_
 refine o2 ?_
 refine s_op (k_call [] (con := div64_n (hi % y) lo y (Nat.mod_lt _ hy0) hy hl)) ?_
 refine o3 ?_
 refine o2 ?_
 refine qx hP hn ?_
 refine o2 ?_
 refine s_nil trivial (n_wp ?_)
 rw [show (hi % y * 18446744073709551616 + lo) % y = (hi * 18446744073709551616 + lo) % y by rw [Nat.add_mod, Nat.mul_mod, Nat.mod_mod, ← Nat.mul_mod, ← Nat.add_mod]]
 refine w_ret ?_
 exact d_ret hP hn hE [] (by first | exact r_tmp Tryz.results160 | exact r_tmpa Tryz.results160)

end Go.Proofs.X
end

section
/- What the walks of division need. No program. -/
open Go Go.Bx
namespace Go.Proofs.X
theorem cmp_ge (a b : Nat) : (0 ≤ cmpI a b) ↔ b ≤ a := by unfold cmpI; split <;> (try split) <;> omega
theorem cmp_gt (a b : Nat) : (0 < cmpI a b) ↔ b < a := by unfold cmpI; split <;> (try split) <;> omega
theorem cmp_l (a b : Nat) : (cmpI a b < 0) ↔ a < b := by unfold cmpI; split <;> (try split) <;> omega
theorem sum_yes {a b m : Nat} (ha : a < m) (hb : b < m) (hm : m < 2 ^ 256) (h : m ≤ a + b) : wd (subN ((a + b) % 2 ^ 256) m) = wd ((a + b) % m) := by
  congr 1
  rw [Nat.mod_eq_sub_mod h, Nat.mod_eq_of_lt (a := a + b - m) (by omega)]
  unfold subN
  omega
theorem sum_no {a b m : Nat} (h : ¬ m ≤ a + b) : wd (a + b) = wd ((a + b) % m) := by rw [Nat.mod_eq_of_lt (by omega)]
structure DvI (a b k : Nat) (u : Int) (dd : Nat) : Prop where
  c : (0 < k ∧ u = (k : Int) - 1 ∧ dd = b * 2 ^ (k - 1) ∧ k ≤ bitsN a - bitsN b + 1 ∧ bitsN b ≤ bitsN a) ∨ (k = 0 ∧ u < 0)
  u : -257 < u
theorem DvI.start {a b : Nat} (h : bitsN b ≤ bitsN a) : DvI a b (bitsN a - bitsN b + 1) ((bitsN a - bitsN b : Nat) : Int) (b * 2 ^ (bitsN a - bitsN b)) := ⟨.inl ⟨by omega, by omega, rfl, by omega, h⟩, by omega⟩
theorem DvI.low {a b r : Nat} {u : Int} (h : u < 0) (h2 : -257 < u) : DvI a b 0 u r := ⟨.inr ⟨rfl, h⟩, h2⟩
theorem DvI.pos {a b k dd : Nat} {u : Int} (d : DvI a b k u dd) (h : 0 ≤ u) : ∃ j, k = j + 1 ∧ u = (j : Int) ∧ dd = b * 2 ^ j ∧ j ≤ bitsN a - bitsN b ∧ bitsN b ≤ bitsN a := by
  rcases d.c with ⟨h1, h2, h3, h4, h5⟩ | ⟨_, h2⟩
  · exact ⟨k - 1, by omega, by omega, h3, by omega, h5⟩
  · omega
theorem DvI.zero {a b k dd : Nat} {u : Int} (d : DvI a b k u dd) (h : ¬ 0 ≤ u) : k = 0 := by
  rcases d.c with ⟨h1, h2, _⟩ | ⟨h1, _⟩ <;> omega
theorem DvI.next {a b j : Nat} (hj : j ≤ bitsN a - bitsN b) (hb : bitsN b ≤ bitsN a) : DvI a b j ((j : Int) - 1) (shN (b * 2 ^ j) (-1)) := by
  refine ⟨?_, by omega⟩
  have hd := shN_down (b * 2 ^ j) 1 (by omega)
  rw [show (-((1 : Nat) : Int)) = -1 from rfl] at hd
  by_cases h0 : j = 0
  · subst h0; exact .inr ⟨rfl, by omega⟩
  · refine .inl ⟨by omega, rfl, ?_, by omega, hb⟩
    rw [hd]
    obtain ⟨i, rfl⟩ : ∃ i, j = i + 1 := ⟨j - 1, by omega⟩
    rw [Nat.pow_succ, Nat.pow_one, ← Nat.mul_assoc, Nat.mul_div_cancel _ (by omega), Nat.add_sub_cancel]
theorem div_s0 {a b : Nat} (hb : b ≠ 0) (h : bitsN b ≤ bitsN a) : a % (b * 2 ^ (bitsN a - bitsN b + 1)) = a ∧ a / (b * 2 ^ (bitsN a - bitsN b + 1)) * 2 ^ (bitsN a - bitsN b + 1) = 0 := by
  have := div_start hb h
  rw [Nat.mod_eq_of_lt this, Nat.div_eq_of_lt this]
  simp
theorem div_l0 {a b : Nat} (h : ¬ bitsN b ≤ bitsN a) : a % (b * 2 ^ 0) = a ∧ a / (b * 2 ^ 0) * 2 ^ 0 = 0 := by
  have := bitsN_lt_imp (show bitsN a < bitsN b by omega)
  rw [Nat.pow_zero, Nat.mul_one, Nat.mod_eq_of_lt this, Nat.div_eq_of_lt this]
  simp
theorem div_set {X j : Nat} (hj : j < 256) (hX : X % 2 ^ (j + 1) = 0) : (wd X).set (j / 64) ((wd X).getD (j / 64) 0 ||| 1 * 2 ^ (j % 64) % 18446744073709551616) = wd (X + 2 ^ j) := by
  have : (2 : Nat) ^ (j % 64) < 2 ^ 64 := Nat.pow_lt_pow_right (by omega) (by omega)
  rw [Nat.one_mul, Nat.mod_eq_of_lt this]
  exact set_bit X j hj hX
theorem mod_le256 {a b : Nat} (ha : a < 2 ^ 256) : a % b < 2 ^ 256 := Nat.lt_of_le_of_lt (Nat.mod_le _ _) ha
def wA (hi lo i : Nat) : Nat := if i = 0 then hi else lo
def wPre (hi lo i : Nat) : Nat := if i = 0 then 0 else if i = 1 then hi else hi * 2 ^ 256 + lo
def wL (hi lo m i j : Nat) : Nat := (wPre hi lo i * 18446744073709551616 ^ j + wA hi lo i / 18446744073709551616 ^ (4 - j)) % m
theorem wL_0 (hi lo m : Nat) (hh : hi < 2 ^ 256) : wL hi lo m 0 0 = 0 := by
  unfold wL wPre wA
  simp only [if_true]
  rw [Nat.div_eq_of_lt (by have : (18446744073709551616 : Nat) ^ (4 - 0) = 2 ^ 256 := rfl
                           omega)]
  simp
theorem wL_next (hi lo m i : Nat) (hi2 : i < 2) (hh : hi < 2 ^ 256) (hl : lo < 2 ^ 256) : wL hi lo m i 4 = wL hi lo m (i + 1) 0 := by
  have e4 : (18446744073709551616 : Nat) ^ 4 = 2 ^ 256 := rfl
  unfold wL wPre wA
  rw [Nat.sub_self, Nat.sub_zero, Nat.pow_zero, Nat.div_one, Nat.mul_one, e4]
  match i, hi2 with
  | 0, _ => simp [Nat.div_eq_of_lt hl]
  | 1, _ => simp [Nat.div_eq_of_lt hl]
theorem wL_step (hi lo m i j : Nat) (hj : j < 4) : (wL hi lo m i j * 18446744073709551616 + dg 18446744073709551616 (wA hi lo i) (3 - j)) % m = wL hi lo m i (j + 1) := by
  unfold wL
  generalize wPre hi lo i = p
  generalize wA hi lo i = A
  rw [Nat.add_mod, Nat.mul_mod, Nat.mod_mod, ← Nat.mul_mod, ← Nat.add_mod]
  congr 1
  have e := dg_split 18446744073709551616 A (3 - j)
  rw [show 3 - j + 1 = 4 - j by omega] at e
  rw [show 4 - (j + 1) = 3 - j by omega, e, Nat.add_mul, Nat.pow_succ, Nat.mul_assoc, Nat.add_assoc]
theorem wL_2 (hi lo m : Nat) (hl : lo < 2 ^ 256) : wL hi lo m 2 0 = (lo + 2 ^ 256 * hi) % m := by
  unfold wL wPre wA
  simp only [if_neg (show ¬ (2 : Nat) = 0 by omega), if_neg (show ¬ (2 : Nat) = 1 by omega)]
  rw [Nat.div_eq_of_lt (by have : (18446744073709551616 : Nat) ^ (4 - 0) = 2 ^ 256 := rfl
                           omega), Nat.pow_zero, Nat.mul_one, Nat.add_zero]
  congr 1
  omega
theorem wL_lt (hi lo m i j : Nat) (hm : 0 < m) : wL hi lo m i j < m := Nat.mod_lt _ hm
def wR (lo hi m i : Nat) : Nat := (lo + hi % 2 ^ i * 2 ^ 256) % m
def wS (m i : Nat) : Nat := 2 ^ (256 + i) % m
theorem wR_0 (lo hi m : Nat) : wR lo hi m 0 = lo % m := by simp [wR, Nat.mod_one]
theorem wS_0 {m : Nat} (hm : 1 < m) : ((2 ^ 256 - 1) % m + 1) % m = wS m 0 := by
  unfold wS
  have h : 2 ^ (256 + 0) = (2 ^ 256 - 1) + 1 := by decide
  rw [h, Nat.add_mod (2 ^ 256 - 1), Nat.mod_eq_of_lt hm]
theorem wS_s (m i : Nat) : (wS m i + wS m i) % m = wS m (i + 1) := by
  unfold wS
  rw [← Nat.add_mod, ← Nat.add_assoc, Nat.pow_succ]
  congr 1; omega
theorem wR_1 {lo hi m i : Nat} (h : hi / 2 ^ i % 2 = 1) : (wR lo hi m i + wS m i) % m = wR lo hi m (i + 1) := by
  unfold wR wS
  have : hi % 2 ^ (i + 1) = hi % 2 ^ i + 2 ^ i := by rw [Nat.pow_succ, Nat.mod_mul, h, Nat.mul_one]
  rw [← Nat.add_mod, this, Nat.add_mul, ← Nat.add_assoc, ← Nat.pow_add, Nat.add_comm i]
theorem wR_n {lo hi m i : Nat} (h : ¬ hi / 2 ^ i % 2 = 1) : wR lo hi m i = wR lo hi m (i + 1) := by
  unfold wR
  have h0 : hi / 2 ^ i % 2 = 0 := by omega
  have : hi % 2 ^ (i + 1) = hi % 2 ^ i := by rw [Nat.pow_succ, Nat.mod_mul, h0, Nat.mul_zero, Nat.add_zero]
  rw [this]
theorem wR_e (lo hi m : Nat) : wR lo hi m (bitsN hi) = (lo + 2 ^ 256 * hi) % m := by
  unfold wR
  rw [Nat.mod_eq_of_lt (bitsN_lt hi), Nat.mul_comm]
theorem wR_lt {lo hi m i : Nat} (hm : 0 < m) : wR lo hi m i < m := Nat.mod_lt _ hm
theorem wS_lt {m i : Nat} (hm : 0 < m) : wS m i < m := Nat.mod_lt _ hm
theorem bits64 {m : Nat} (h : bitsN m ≤ 64) : m < 18446744073709551616 := by
  have := bitsN_lt m
  have h2 : (2 : Nat) ^ bitsN m ≤ 2 ^ 64 := Nat.pow_le_pow_right (by omega) h
  omega
theorem bits65 {m : Nat} (h : ¬ bitsN m ≤ 64) : 18446744073709551616 ≤ m := by
  rcases Nat.lt_or_ge m 18446744073709551616 with h1 | h1
  · exact absurd (bitsN_mono (m := 64) h1) h
  · exact h1
end Go.Proofs.X
end

section
/- Types and functions of divides, as instances. -/
open Go Go.Bx Go.Proofs
namespace Go.Proofs.X
instance : Clb Tryz.prog 162 := ⟨_, Tryz.func162, by kernel_rfl, rfl⟩
instance : Clb Tryz.prog 165 := ⟨_, Tryz.func165, by kernel_rfl, rfl⟩
instance : Clb Tryz.prog 164 := ⟨_, Tryz.func164, by kernel_rfl, rfl⟩
instance : Clb Tryz.prog 150 := ⟨_, Tryz.func150, by kernel_rfl, rfl⟩
instance : NoEq Tryz.prog 24 := ⟨by kernel_rfl⟩
instance : Und Tryz.prog 147 (.slice 24) := ⟨Tryz.underlying147⟩
instance : Sz Tryz.prog 147 1 := ⟨Tryz.sizeOf147⟩
instance : Ag Tryz.prog 147 false := ⟨Tryz.isAgg147⟩
instance : Zv Tryz.prog 147 [.one .nils] := ⟨_, Tryz.zeroValue147, by kernel_rfl⟩
instance : Zn Tryz.prog 147 := ⟨Tryz.zeroValue147⟩
instance : Inf Tryz.prog 147 Tryz.t147 := ⟨by kernel_rfl⟩
end Go.Proofs.X
end

section
set_option maxRecDepth 100000
set_option maxHeartbeats 4000000
open Go Go.Bx Go.Proofs
namespace Go.Proofs.X
attribute [local irreducible] bitsN wd dg cmpI subN undN shN
theorem shift_any (n : Nat) (s : Int) (hn : n < 2 ^ 256) (h1 : -257 < s) (h2 : s < 256) : ∃ r, r < 2 ^ 256 ∧ Con Tryz.prog 169 [.agg [.ints .u64 4 (zs (wd n))], .s (.int .i64 s)] [] (.agg [.ints .u64 4 (zs (wd r))]) [] := by
 by_cases h : s = -256
 · subst h; exact ⟨0, by omega, shift_m256 n⟩
 · refine ⟨shN n s % 2 ^ 256, Nat.mod_lt _ (by omega), ?_⟩
   rw [wd_mod]; exact shift_n n s hn (by omega) h2

theorem none_n  : Con Tryz.prog 162 [] [] (.agg [.ints .u64 4 (zs (wd 0))]) [] := by
 refine con_in 2 Tryz.func162 rfl rfl (m := 0) rfl ?_
 intro E hP hn hE
 refine qz hP hn ?_
 refine s_op k_al ?_
 refine qx hP hn ?_
 refine s_op (k_bd (by exact a_buildK (n := 4) (zs (wd 0)) (by kernel_rfl) (by kernel_rfl) (by rw [zs_len, wd_len]))) ?_
 refine s_st k_st ?_
 refine s_nil trivial (n_wp (w_ret ?_))
 exact d_ret hP hn hE [] (r_cell Tryz.results162)

theorem sum_n (a b m : Nat) (ha : a < m) (hb : b < m) (hm : m < 2 ^ 256) : Con Tryz.prog 165 [.agg [.ints .u64 4 (zs (wd a))], .agg [.ints .u64 4 (zs (wd b))], .agg [.ints .u64 4 (zs (wd m))]] [] (.agg [.ints .u64 4 (zs (wd ((a + b) % m)))]) [] := by
 refine con_in 30 Tryz.func165 rfl rfl (m := 0) rfl ?_
 intro E hP hn hE
 refine qz hP hn ?_
 refine s_op k_bx ?_
 refine s_op k_bx ?_
 refine s_op k_bx ?_
 refine s_op k_al ?_
 refine qx hP hn ?_
 refine o2 ?_
 refine s_op (k_call [] (con := add_n a b (by omega) (by omega))) ?_
 refine o4 ?_
 refine s_st k_st ?_
 refine s_op k_as ?_
 refine s_nil trivial (n_wp (w_seq (qz hP hn ?_)))
 refine o3 ?_
 refine s_opf rfl rfl (fun hB => by rw [hB]; (try simp only [Bool.or_eq_true, Bool.or_eq_false_iff, Bool.and_eq_true, Bool.not_eq_true', Bool.not_eq_false', decide_eq_true_eq, decide_eq_false_iff_not] at hB); exact k_ld) ?_
 refine s_opf rfl rfl (fun hB => by rw [hB]; (try simp only [Bool.or_eq_true, Bool.or_eq_false_iff, Bool.and_eq_true, Bool.not_eq_true', Bool.not_eq_false', decide_eq_true_eq, decide_eq_false_iff_not] at hB); exact k_ld) ?_
 refine s_opf rfl rfl (fun hB => by rw [hB]; (try simp only [Bool.or_eq_true, Bool.or_eq_false_iff, Bool.and_eq_true, Bool.not_eq_true', Bool.not_eq_false', decide_eq_true_eq, decide_eq_false_iff_not] at hB); exact k_call [] (con := cmp_n (a + b) m (by omega) hm)) ?_
 refine s_opf rfl rfl (fun hB => by rw [hB]; (try simp only [Bool.or_eq_true, Bool.or_eq_false_iff, Bool.and_eq_true, Bool.not_eq_true', Bool.not_eq_false', decide_eq_true_eq, decide_eq_false_iff_not] at hB); exact k_geq (by exact l_bin rfl rfl (b_geq rfl))) ?_
 refine s_op k_pk ?_
 refine s_nil trivial (n_wp ?_)
 refine w_cond rfl (fun h_t22 => ?_) (fun h_t22 => ?_)
 · simp only [Bool.or_eq_true, decide_eq_true_eq, cmp_ge] at h_t22
   have hge : m ≤ a + b := by omega
   have hsub := sum_yes ha hb hm hge
   rw [← wd_mod (a + b)]
   refine g_reg hP hn ?_
   refine o2 ?_
   refine s_op (k_call [] (con := sub_n ((a + b) % 2 ^ 256) m (Nat.mod_lt _ (by omega)) hm)) ?_
   refine o3 ?_
   refine s_st k_st ?_
   refine s_nil trivial (n_wp (w_seq ?_))
   try rw [hsub]
   refine g_reg hP hn ?_
   refine s_op k_ld ?_
   refine s_st k_st ?_
   refine s_nil trivial (n_wp (w_ret ?_))
   exact d_ret hP hn hE [] (r_cell Tryz.results165)
 · simp only [Bool.or_eq_false_iff, decide_eq_false_iff_not, cmp_ge] at h_t22
   rw [sum_no h_t22.2]
   refine w_skip (n_wp (w_seq ?_))
   try rw [hsub]
   refine g_reg hP hn ?_
   refine s_op k_ld ?_
   refine s_st k_st ?_
   refine s_nil trivial (n_wp (w_ret ?_))
   exact d_ret hP hn hE [] (r_cell Tryz.results165)

theorem div_n (a b : Nat) (ha : a < 2 ^ 256) (hb : b < 2 ^ 256) (hb0 : b ≠ 0) : Con Tryz.prog 164 [.agg [.ints .u64 4 (zs (wd a))], .agg [.ints .u64 4 (zs (wd b))]] [] (.tup [.agg [.ints .u64 4 (zs (wd (a / b)))], .agg [.ints .u64 4 (zs (wd (a % b)))], .s (.int .i64 0)]) [] := by
 refine con_in 70 Tryz.func164 rfl rfl (m := 0) rfl ?_
 intro E hP hn hE
 have hba := bitsN_256 ha
 have hbb := bitsN_256 hb
 refine qz hP hn ?_
 refine s_op k_bx ?_
 refine s_op k_bx ?_
 refine o3 ?_
 refine s_nil trivial (n_wp (w_seq (w_seq ?_)))
 refine g_any hP hn ?_
 refine s_op k_ld ?_
 refine s_op (k_call [] (con := none_n)) ?_
 refine s_op (k_eql (by exact a_eqA rfl rfl (by rw [zs_len, wd_len]) (by rw [zs_len, wd_len]))) ?_
 refine s_nil (by kernel_rfl) ?_
 refine n_wp ?_
 refine w_F rfl ?_ (decide_eq_false (fun h => hb0 ((wd_inj hb (by omega)).1 (zs_inj.1 h))))
 refine w_skip (n_wp (w_seq ?_))
 refine g_any hP hn ?_
 refine s_op k_ld ?_
 refine s_op (k_call [] (con := bits_n a ha)) ?_
 refine s_op k_ld ?_
 refine s_op (k_call [] (con := bits_n b hb)) ?_
 refine s_op (k_sub (by exact l_bin rfl rfl (b_sub (wrap_i64 (by omega))))) ?_
 refine s_op k_as ?_
 refine s_nil (by kernel_rfl) ?_
 refine n_wp (w_seq (qz hP hn ?_))
 refine s_op k_ld ?_
 refine s_op (k_call [] (con := bits_n a ha)) ?_
 refine o2 ?_
 refine s_opt rfl rfl (fun hB => by rw [hB]; (try simp only [Bool.or_eq_true, Bool.or_eq_false_iff, Bool.and_eq_true, Bool.not_eq_true', Bool.not_eq_false', decide_eq_true_eq, decide_eq_false_iff_not] at hB); exact k_mv) ?_
 refine s_opt rfl rfl (fun hB => by rw [hB]; (try simp only [Bool.or_eq_true, Bool.or_eq_false_iff, Bool.and_eq_true, Bool.not_eq_true', Bool.not_eq_false', decide_eq_true_eq, decide_eq_false_iff_not] at hB); exact k_geq (by exact l_bin rfl rfl (b_geq rfl))) ?_
 refine s_op k_pk ?_
 refine s_nil trivial (n_wp ?_)
 refine w_cond rfl (fun h_t25 => ?_) (fun h_t25 => ?_)
 · simp only [Bool.and_eq_true, decide_eq_true_eq] at h_t25
   have hal : (wd a).getD 0 0 = a := wd_low a (bits64 h_t25.1)
   have hbl : (wd b).getD 0 0 = b := wd_low b (bits64 (by omega))
   have ha64 := bits64 h_t25.1
   have hb64 := bits64 (m := b) (by omega)
   refine w_seq ?_
   refine g_any hP hn ?_
   refine o3 ?_
   refine o2 ?_
   refine s_op (k_call [] (con := of_n _ (Nat.lt_of_le_of_lt (Nat.div_le_self _ _) (by omega)))) ?_
   refine o3 ?_
   refine o2 ?_
   refine s_op (k_call [] (con := of_n _ (Nat.lt_of_le_of_lt (Nat.mod_le _ _) (by omega)))) ?_
   refine s_st k_st ?_
   refine s_st k_st ?_
   refine s_op k_as ?_
   refine s_nil (by kernel_rfl) ?_
   refine n_wp ?_
   rw [hal, hbl]
   refine w_ret (r_thn ?_)
   exact d_ret hP hn hE [] (ret3 Tryz.results164 r_cella r_cella (by first | exact ri_tmp rfl | exact ri_tmpa rfl))
 · refine w_skip (n_wp (qz hP hn ?_))
   refine s_op k_ld ?_
   refine s_st k_st ?_
   refine s_nil trivial (n_wp (w_seq (w_seq ?_)))
   by_cases hle : bitsN b ≤ bitsN a
   · have hb256 := bitsN_256 ha
     have hbp := bitsN_pos hb0
     rw [show ((bitsN a : Nat) : Int) - ((bitsN b : Nat) : Int) = ((bitsN a - bitsN b : Nat) : Int) by omega]
     have hf0 := div_fit hb (bitsN_256 ha) (Nat.le_refl _) hle
     refine g_reg hP hn ?_
     refine o2 ?_
     refine s_op (k_call [] (con := shift_n b ((bitsN a - bitsN b : Nat) : Int) hb (by omega) (by omega))) ?_
     refine s_op k_al ?_
     refine s_st k_st ?_
     refine s_nil trivial (n_wp (w_block ?_))
     refine c_loop (fun m T H => ∃ k u dd, m = k ∧ DvI a b k u dd ∧ dd < 2 ^ 256 ∧ T = [(2, .s (.ptr 0 0 0)), (3, .s (.ptr 1 0 0)), (4, .s (.ptr 2 0 0)), (5, .s (.ptr 3 0 0)), (8, .s (.ptr 4 0 0)), (7, .s (.int .i64 u))] ∧ H = [some ⟨true, [.ints .u64 4 (zs (wd a))]⟩, some ⟨true, [.ints .u64 4 (zs (wd b))]⟩, some ⟨true, [.ints .u64 4 (zs (wd (a / (b * 2 ^ k) * 2 ^ k)))]⟩, some ⟨true, [.ints .u64 4 (zs (wd (a % (b * 2 ^ k))))]⟩, some ⟨true, [.ints .u64 4 (zs (wd dd))]⟩]) ((bitsN a - bitsN b + 1)) ⟨bitsN a - bitsN b + 1, _, b * 2 ^ (bitsN a - bitsN b), rfl, DvI.start hle, hf0, rfl, rfl⟩ (by rw [shN_up, (div_s0 hb0 hle).1, (div_s0 hb0 hle).2, wd_zero]; exact wk hE []) ?_
     rintro n_ T_ H_ ⟨k, u, dd, rfl, dv, hdd, rfl, rfl⟩
     have hu := dv.u
     refine w_seq (qz hP hn ?_)
     refine s_op k_mv ?_
     refine s_op (k_geq (by exact l_bin rfl rfl (b_geq rfl))) ?_
     refine s_nil trivial (n_wp ?_)
     refine w_if rfl (fun h_t43 => ?_) (fun h_t43 => ?_)
     · obtain ⟨j, rfl, rfl, rfl, hj, hble⟩ := dv.pos h_t43
       have hfit := div_fit hb (bitsN_256 ha) hj hble
       have hj256 : j < 256 := by have := bitsN_256 ha; have := bitsN_pos hb0; omega
       have hwl := wd_len (a / (b * 2 ^ (j + 1)) * 2 ^ (j + 1))
       have hwb := wd_B64 (a / (b * 2 ^ (j + 1)) * 2 ^ (j + 1)) (j / 64)
       have hset := div_set (X := a / (b * 2 ^ (j + 1)) * 2 ^ (j + 1)) hj256 (Nat.mul_mod_left _ _)
       have h2m : 1 * 2 ^ (j % 64) % 18446744073709551616 < 18446744073709551616 := Nat.mod_lt _ (by omega)
       refine w_skip (n_wp (w_seq (w_block (qz hP hn ?_))))
       refine o2 ?_
       refine s_op (k_call [] (con := cmp_n _ _ (mod_le256 ha) hfit)) ?_
       refine s_op (k_geq (by exact l_bin rfl rfl (b_geq rfl))) ?_
       refine s_nil trivial (n_wp ?_)
       refine w_if rfl (fun h_t51 => ?_) (fun h_t51 => ?_)
       · rw [cmp_ge] at h_t51
         have hy := div_yes (by omega) h_t51
         refine qz hP hn ?_
         refine o2 ?_
         refine s_op (k_call [] (con := sub_n _ _ (mod_le256 ha) hfit)) ?_
         refine o3 ?_
         refine s_st k_st ?_
         refine s_nil trivial (n_wp ?_)
         rw [subN_le (mod_le256 ha) h_t51, hy.1]
         refine g_any hP hn ?_
         refine o4 ?_
         refine o3 ?_
         refine o2 ?_
         refine s_st k_st ?_
         refine s_nil (by kernel_rfl) ?_
         refine n_blo (n_wp (w_seq (w_seq ?_)))
         try rw [hset, hy.2]
         refine g_reg hP hn ?_
         refine s_op k_ld ?_
         refine qy hP hn ?_
         refine s_op k_al ?_
         refine s_st k_st ?_
         refine qy hP hn ?_
         refine s_op k_mv ?_
         refine s_op (k_sub (by exact l_bin rfl rfl (b_sub (wrap_i64 (by omega))))) ?_
         refine s_op k_ld ?_
         refine s_op (k_call [] (con := shift_n (b * 2 ^ j) (-1) hfit (by omega) (by omega))) ?_
         refine s_op k_as ?_
         refine s_st k_st ?_
         refine s_nil trivial ?_
         exact n_round j (by omega) ⟨j, ((j : Nat) : Int) - 1, shN (b * 2 ^ j) (-1), rfl, DvI.next hj hble, by rw [show (-1 : Int) = -((1 : Nat) : Int) from rfl, shN_down _ _ (by omega)]; exact Nat.lt_of_le_of_lt (Nat.div_le_self _ _) hfit, rfl, rfl⟩ (wk hE [0, 1, 2, 3, 5])
       · rw [cmp_ge] at h_t51
         rw [(div_no (by omega) h_t51).1, (div_no (by omega) h_t51).2]
         refine w_skip (n_blo (n_wp (w_seq (w_seq ?_))))
         try rw [hset, hy.2]
         refine g_reg hP hn ?_
         refine s_op k_ld ?_
         refine qy hP hn ?_
         refine s_op k_al ?_
         refine s_st k_st ?_
         refine qy hP hn ?_
         refine s_op k_mv ?_
         refine s_op (k_sub (by exact l_bin rfl rfl (b_sub (wrap_i64 (by omega))))) ?_
         refine s_op k_ld ?_
         refine s_op (k_call [] (con := shift_n (b * 2 ^ j) (-1) hfit (by omega) (by omega))) ?_
         refine s_op k_as ?_
         refine s_st k_st ?_
         refine s_nil trivial ?_
         exact n_round j (by omega) ⟨j, ((j : Nat) : Int) - 1, shN (b * 2 ^ j) (-1), rfl, DvI.next hj hble, by rw [show (-1 : Int) = -((1 : Nat) : Int) from rfl, shN_down _ _ (by omega)]; exact Nat.lt_of_le_of_lt (Nat.div_le_self _ _) hfit, rfl, rfl⟩ (wk hE [0, 1, 2, 3, 5])
     · have hk0 := dv.zero h_t43
       subst hk0
       rw [Nat.pow_zero, Nat.mul_one, Nat.mul_one]
       refine w_exit (x_thn (x_thn (x_eq (n_wp (w_seq ?_)))))
       refine g_any hP hn ?_
       refine o2 ?_
       refine s_st k_st ?_
       refine s_st k_st ?_
       refine s_op k_as ?_
       refine s_nil (by kernel_rfl) ?_
       refine n_wp (w_ret ?_)
       exact d_ret hP hn hE [] (ret3 Tryz.results164 r_cella r_cella (by first | exact ri_tmp rfl | exact ri_tmpa rfl))
   · have hb256 := bitsN_256 hb
     obtain ⟨r, hr, hsh⟩ := shift_any b (((bitsN a : Nat) : Int) - ((bitsN b : Nat) : Int)) hb (by omega) (by omega)
     refine g_reg hP hn ?_
     refine o2 ?_
     refine s_op (k_call [] (con := hsh)) ?_
     refine s_op k_al ?_
     refine s_st k_st ?_
     refine s_nil trivial (n_wp (w_block ?_))
     refine c_loop (fun m T H => ∃ k u dd, m = k ∧ DvI a b k u dd ∧ dd < 2 ^ 256 ∧ T = [(2, .s (.ptr 0 0 0)), (3, .s (.ptr 1 0 0)), (4, .s (.ptr 2 0 0)), (5, .s (.ptr 3 0 0)), (8, .s (.ptr 4 0 0)), (7, .s (.int .i64 u))] ∧ H = [some ⟨true, [.ints .u64 4 (zs (wd a))]⟩, some ⟨true, [.ints .u64 4 (zs (wd b))]⟩, some ⟨true, [.ints .u64 4 (zs (wd (a / (b * 2 ^ k) * 2 ^ k)))]⟩, some ⟨true, [.ints .u64 4 (zs (wd (a % (b * 2 ^ k))))]⟩, some ⟨true, [.ints .u64 4 (zs (wd dd))]⟩]) (0) ⟨0, ((bitsN a : Nat) : Int) - ((bitsN b : Nat) : Int), r, rfl, DvI.low (by omega) (by omega), hr, rfl, rfl⟩ (by rw [(div_l0 hle).1, (div_l0 hle).2, wd_zero]; exact wk hE []) ?_
     rintro n_ T_ H_ ⟨k, u, dd, rfl, dv, hdd, rfl, rfl⟩
     have hu := dv.u
     refine w_seq (qz hP hn ?_)
     refine s_op k_mv ?_
     refine s_op (k_geq (by exact l_bin rfl rfl (b_geq rfl))) ?_
     refine s_nil trivial (n_wp ?_)
     refine w_if rfl (fun h_t43 => ?_) (fun h_t43 => ?_)
     · obtain ⟨j, rfl, rfl, rfl, hj, hble⟩ := dv.pos h_t43
       have hfit := div_fit hb (bitsN_256 ha) hj hble
       have hj256 : j < 256 := by have := bitsN_256 ha; have := bitsN_pos hb0; omega
       have hwl := wd_len (a / (b * 2 ^ (j + 1)) * 2 ^ (j + 1))
       have hwb := wd_B64 (a / (b * 2 ^ (j + 1)) * 2 ^ (j + 1)) (j / 64)
       have hset := div_set (X := a / (b * 2 ^ (j + 1)) * 2 ^ (j + 1)) hj256 (Nat.mul_mod_left _ _)
       have h2m : 1 * 2 ^ (j % 64) % 18446744073709551616 < 18446744073709551616 := Nat.mod_lt _ (by omega)
       refine w_skip (n_wp (w_seq (w_block (qz hP hn ?_))))
       refine o2 ?_
       refine s_op (k_call [] (con := cmp_n _ _ (mod_le256 ha) hfit)) ?_
       refine s_op (k_geq (by exact l_bin rfl rfl (b_geq rfl))) ?_
       refine s_nil trivial (n_wp ?_)
       refine w_if rfl (fun h_t51 => ?_) (fun h_t51 => ?_)
       · rw [cmp_ge] at h_t51
         have hy := div_yes (by omega) h_t51
         refine qz hP hn ?_
         refine o2 ?_
         refine s_op (k_call [] (con := sub_n _ _ (mod_le256 ha) hfit)) ?_
         refine o3 ?_
         refine s_st k_st ?_
         refine s_nil trivial (n_wp ?_)
         rw [subN_le (mod_le256 ha) h_t51, hy.1]
         refine g_any hP hn ?_
         refine o4 ?_
         refine o3 ?_
         refine o2 ?_
         refine s_st k_st ?_
         refine s_nil (by kernel_rfl) ?_
         refine n_blo (n_wp (w_seq (w_seq ?_)))
         try rw [hset, hy.2]
         refine g_reg hP hn ?_
         refine s_op k_ld ?_
         refine qy hP hn ?_
         refine s_op k_al ?_
         refine s_st k_st ?_
         refine qy hP hn ?_
         refine s_op k_mv ?_
         refine s_op (k_sub (by exact l_bin rfl rfl (b_sub (wrap_i64 (by omega))))) ?_
         refine s_op k_ld ?_
         refine s_op (k_call [] (con := shift_n (b * 2 ^ j) (-1) hfit (by omega) (by omega))) ?_
         refine s_op k_as ?_
         refine s_st k_st ?_
         refine s_nil trivial ?_
         exact n_round j (by omega) ⟨j, ((j : Nat) : Int) - 1, shN (b * 2 ^ j) (-1), rfl, DvI.next hj hble, by rw [show (-1 : Int) = -((1 : Nat) : Int) from rfl, shN_down _ _ (by omega)]; exact Nat.lt_of_le_of_lt (Nat.div_le_self _ _) hfit, rfl, rfl⟩ (wk hE [0, 1, 2, 3, 5])
       · rw [cmp_ge] at h_t51
         rw [(div_no (by omega) h_t51).1, (div_no (by omega) h_t51).2]
         refine w_skip (n_blo (n_wp (w_seq (w_seq ?_))))
         try rw [hset, hy.2]
         refine g_reg hP hn ?_
         refine s_op k_ld ?_
         refine qy hP hn ?_
         refine s_op k_al ?_
         refine s_st k_st ?_
         refine qy hP hn ?_
         refine s_op k_mv ?_
         refine s_op (k_sub (by exact l_bin rfl rfl (b_sub (wrap_i64 (by omega))))) ?_
         refine s_op k_ld ?_
         refine s_op (k_call [] (con := shift_n (b * 2 ^ j) (-1) hfit (by omega) (by omega))) ?_
         refine s_op k_as ?_
         refine s_st k_st ?_
         refine s_nil trivial ?_
         exact n_round j (by omega) ⟨j, ((j : Nat) : Int) - 1, shN (b * 2 ^ j) (-1), rfl, DvI.next hj hble, by rw [show (-1 : Int) = -((1 : Nat) : Int) from rfl, shN_down _ _ (by omega)]; exact Nat.lt_of_le_of_lt (Nat.div_le_self _ _) hfit, rfl, rfl⟩ (wk hE [0, 1, 2, 3, 5])
     · have hk0 := dv.zero h_t43
       subst hk0
       rw [Nat.pow_zero, Nat.mul_one, Nat.mul_one]
       refine w_exit (x_thn (x_thn (x_eq (n_wp (w_seq ?_)))))
       refine g_any hP hn ?_
       refine o2 ?_
       refine s_st k_st ?_
       refine s_st k_st ?_
       refine s_op k_as ?_
       refine s_nil (by kernel_rfl) ?_
       refine n_wp (w_ret ?_)
       exact d_ret hP hn hE [] (ret3 Tryz.results164 r_cella r_cella (by first | exact ri_tmp rfl | exact ri_tmpa rfl))

end Go.Proofs.X
end

section
set_option maxRecDepth 100000
set_option maxHeartbeats 4000000
open Go Go.Bx Go.Proofs
namespace Go.Proofs.X
theorem wrow (hi lo i : Nat) (h : i < 2) : SubS (([[.ints .u64 4 (zs (wd hi))], [.ints .u64 4 (zs (wd lo))]] : List (List Seg)).getD i []) (0 + 0) 4 [.ints .u64 4 (zs (wd (wA hi lo i)))] := by
 match i, h with
 | 0, _ => exact .whole rfl
 | 1, _ => exact .whole rfl
attribute [local irreducible] bitsN wd dg cmpI undN shN wL wR wS wA
theorem wide_s (lo hi m : Nat) (hl : lo < 2 ^ 256) (hh : hi < 2 ^ 256) (hm : m < 2 ^ 256) (hb0 : m ≠ 0) (h64 : bitsN m ≤ 64) : Con Tryz.prog 150 [.agg [.ints .u64 4 (zs (wd lo))], .agg [.ints .u64 4 (zs (wd hi))], .agg [.ints .u64 4 (zs (wd m))]] [] (.tup [.agg [.ints .u64 4 (zs (wd ((lo + 2 ^ 256 * hi) % m)))], .s (.int .i64 0)]) [] := by
 refine con_in 94 Tryz.func150 rfl rfl (m := 0) rfl ?_
 intro E hP hn hE
 have hm64 := bits64 h64
 have hml : (wd m).getD 0 0 = m := wd_low m hm64
 refine qz hP hn ?_
 refine s_op k_bx ?_
 refine s_op k_bx ?_
 refine s_op k_bx ?_
 refine o2 ?_
 refine s_nil trivial (n_wp (w_seq (w_seq ?_)))
 refine g_any hP hn ?_
 refine s_op k_ld ?_
 refine s_op (k_call [] (con := none_n)) ?_
 refine s_op (k_eql (by exact a_eqA rfl rfl (by rw [zs_len, wd_len]) (by rw [zs_len, wd_len]))) ?_
 refine s_nil (by kernel_rfl) ?_
 refine n_wp ?_
 refine w_F rfl ?_ (decide_eq_false (fun h => hb0 ((wd_inj hm (by omega)).1 (zs_inj.1 h))))
 refine w_skip (n_wp (w_seq (qz hP hn ?_)))
 refine s_op k_ld ?_
 refine s_op (k_call [] (con := bits_n m hm)) ?_
 refine s_op k_leq ?_
 refine s_nil trivial (n_wp ?_)
 refine w_T rfl ?_ 
 refine qz hP hn ?_
 refine s_op k_as ?_
 refine s_nil trivial (n_wp (w_seq (qz hP hn ?_)))
 refine o2 ?_
 refine s_op (k_bsR [[.ints .u64 4 (zs (wd hi))], [.ints .u64 4 (zs (wd lo))]]) ?_
 refine o2 ?_
 refine s_nil trivial (n_wp (w_block ?_))
 refine c_loop (fun m_ T H => ∃ i, i ≤ 2 ∧ m_ = 2 - i ∧ T = [(5, .s (.ptr 2 0 0)), (6, .s (.ptr 3 0 0)), (8, .s (.int .u64 ((wL hi lo m i 0 : Nat) : Int))), (27, .s (.fz 2 4 (rowsF fun i => ([[.ints .u64 4 (zs (wd hi))], [.ints .u64 4 (zs (wd lo))]] : List (List Seg)).getD i []))), (28, .s (.int .i64 ((2 : Nat) : Int))), (29, .s (.int .i64 ((i : Nat) : Int)))] ∧ H = [some ⟨true, [.ints .u64 4 (zs (wd lo))]⟩, some ⟨true, [.ints .u64 4 (zs (wd hi))]⟩, some ⟨true, [.ints .u64 4 (zs (wd m))]⟩, some ⟨true, [.ints .u64 4 (zs (List.replicate 4 0))]⟩]) (2) ⟨0, by omega, rfl, rfl, rfl⟩ (by rw [wL_0 hi lo m hh]; exact wk hE []) ?_
 rintro n_ T_ H_ ⟨i, hi_, rfl, rfl, rfl⟩
 refine qz hP hn ?_
 refine s_op k_lss ?_
 refine s_nil trivial (n_wp (w_seq ?_))
 refine w_if rfl (fun h_t30 => ?_) (fun h_t30 => ?_)
 · refine w_skip (n_wp (w_seq (w_block (qz hP hn ?_))))
   refine s_op k_ix ?_
   refine s_op (k_ld (by exact l_loadf_agg (segs := ([[.ints .u64 4 (zs (wd hi))], [.ints .u64 4 (zs (wd lo))]] : List (List Seg)).getD i []) (sub := [.ints .u64 4 (zs (wd (wA hi lo i)))]) rfl (Nat.le_refl _) (wrow hi lo i (by omega)) Ag.h Sz.h)) ?_
   refine s_op k_al ?_
   refine s_st k_st ?_
   refine qx hP hn ?_
   refine s_op k_mv ?_
   refine s_nil trivial (n_wp (w_block ?_))
   refine c_loop (fun m_ T H => ∃ j, j ≤ 4 ∧ m_ = 4 - j ∧ T = [(5, .s (.ptr 2 0 0)), (6, .s (.ptr 3 0 0)), (8, .s (.int .u64 ((wL hi lo m i j : Nat) : Int))), (10, .s (.ptr 4 0 0)), (27, .s (.fz 2 4 (rowsF fun i => ([[.ints .u64 4 (zs (wd hi))], [.ints .u64 4 (zs (wd lo))]] : List (List Seg)).getD i []))), (28, .s (.int .i64 ((2 : Nat) : Int))), (29, .s (.int .i64 ((i : Nat) : Int))), (33, .s (.int .i64 ((j : Nat) : Int)))] ∧ H = [some ⟨true, [.ints .u64 4 (zs (wd lo))]⟩, some ⟨true, [.ints .u64 4 (zs (wd hi))]⟩, some ⟨true, [.ints .u64 4 (zs (wd m))]⟩, some ⟨true, [.ints .u64 4 (zs (List.replicate 4 0))]⟩, some ⟨true, [.ints .u64 4 (zs (wd (wA hi lo i)))]⟩]) (4) ⟨0, by omega, rfl, rfl, rfl⟩ (wk hE []) ?_
   rintro n_ T_ H_ ⟨j, hj, rfl, rfl, rfl⟩
   have hwb := wd_B64 (wA hi lo i)
   refine qz hP hn ?_
   refine s_op k_lss ?_
   refine s_nil trivial (n_wp (w_seq ?_))
   refine w_if rfl (fun h_t34 => ?_) (fun h_t34 => ?_)
   · refine w_skip (n_wp (w_seq (w_block (qz hP hn ?_))))
     refine o2 ?_
     refine s_nil trivial (n_wp ?_)
     refine g_any hP hn ?_
     refine o4 ?_
     refine o3 ?_
     rw [zs_getD (wd (wA hi lo i)), zs_getD (wd m)]
     refine s_op (k_call [] (con := div64_n (wL hi lo m i j) ((wd (wA hi lo i)).getD (3 - j) 0) ((wd m).getD 0 0) (by rw [hml]; exact wL_lt _ _ _ _ _ (by omega)) (by omega) (hwb _))) ?_
     refine o4 ?_
     refine s_nil (by kernel_rfl) ?_
     refine n_blo (n_wp ?_)
     rw [hml, wd_at _ (3 - j) (by omega), wL_step hi lo m i j h_t34]
     refine g_reg hP hn ?_
     refine o2 ?_
     refine s_nil trivial ?_
     exact n_round (4 - (j + 1)) (by omega) ⟨j + 1, by omega, rfl, rfl, rfl⟩ (wk hE [])
   · have hj4 : j = 4 := by omega
     subst hj4
     rw [wL_next hi lo m i h_t30 hh hl]
     refine w_exit (x_thn (x_thn (x_eq (n_blo (n_wp (g_reg hP hn ?_))))))
     refine o2 ?_
     refine s_nil trivial ?_
     exact n_round (2 - (i + 1)) (by omega) ⟨i + 1, by omega, rfl, rfl, rfl⟩ (wk hE [])
 · have hi2 : i = 2 := by omega
   subst hi2
   rw [wL_2 hi lo m hl]
   refine w_exit (x_thn (x_thn (x_eq (n_wp (qz hP hn ?_)))))
   refine s_op k_mv ?_
   refine s_op (k_call [] (con := of_n _ (by have := Nat.mod_lt (lo + 2 ^ 256 * hi) (show 0 < m by omega); omega))) ?_
   refine s_st k_st ?_
   refine s_op k_as ?_
   refine s_nil trivial (n_wp (w_ret (r_thn ?_)))
   exact d_ret hP hn hE [] (ret2 Tryz.results150 r_cella (by first | exact ri_tmp rfl | exact ri_tmpa rfl))

theorem wide_l (lo hi m : Nat) (hl : lo < 2 ^ 256) (hh : hi < 2 ^ 256) (hm : m < 2 ^ 256) (hb0 : m ≠ 0) (h64 : ¬ bitsN m ≤ 64) : Con Tryz.prog 150 [.agg [.ints .u64 4 (zs (wd lo))], .agg [.ints .u64 4 (zs (wd hi))], .agg [.ints .u64 4 (zs (wd m))]] [] (.tup [.agg [.ints .u64 4 (zs (wd ((lo + 2 ^ 256 * hi) % m)))], .s (.int .i64 0)]) [] := by
 refine con_in 94 Tryz.func150 rfl rfl (m := 0) rfl ?_
 intro E hP hn hE
 have hm65 := bits65 h64
 have hbh := bitsN_256 hh
 refine qz hP hn ?_
 refine s_op k_bx ?_
 refine s_op k_bx ?_
 refine s_op k_bx ?_
 refine o2 ?_
 refine s_nil trivial (n_wp (w_seq (w_seq ?_)))
 refine g_any hP hn ?_
 refine s_op k_ld ?_
 refine s_op (k_call [] (con := none_n)) ?_
 refine s_op (k_eql (by exact a_eqA rfl rfl (by rw [zs_len, wd_len]) (by rw [zs_len, wd_len]))) ?_
 refine s_nil (by kernel_rfl) ?_
 refine n_wp ?_
 refine w_F rfl ?_ (decide_eq_false (fun h => hb0 ((wd_inj hm (by omega)).1 (zs_inj.1 h))))
 refine w_skip (n_wp (w_seq (qz hP hn ?_)))
 refine s_op k_ld ?_
 refine s_op (k_call [] (con := bits_n m hm)) ?_
 refine s_op k_leq ?_
 refine s_nil trivial (n_wp ?_)
 refine w_F rfl ?_ (decide_eq_false (by omega))
 refine w_skip (n_wp (qz hP hn ?_))
 refine s_op (k_call [] (con := none_n)) ?_
 refine s_op (k_call [] (con := of_n 1 (by omega))) ?_
 refine s_op (k_call [] (con := sub_n 0 1 (by omega) (by omega))) ?_
 refine o4 ?_
 refine s_st k_st ?_
 refine s_op k_as ?_
 refine s_nil trivial (n_wp (w_seq ?_))
 rw [show subN 0 1 = 2 ^ 256 - 1 by unfold subN; decide]
 refine g_reg hP hn ?_
 refine o2 ?_
 refine s_op (k_call [] (con := div_n lo m hl hm hb0)) ?_
 refine o4 ?_
 refine s_st k_st ?_
 refine qx hP hn ?_
 refine o2 ?_
 refine s_op (k_call [] (con := div_n (2 ^ 256 - 1) m (by omega) hm hb0)) ?_
 refine o4 ?_
 refine o2 ?_
 refine s_st k_st ?_
 refine s_st k_st ?_
 refine s_op k_as ?_
 refine s_nil trivial (n_wp (w_seq ?_))
 refine g_any hP hn ?_
 refine s_op k_ld ?_
 refine s_op (k_call [] (con := of_n 1 (by omega))) ?_
 refine s_op k_ld ?_
 refine s_op (k_call [] (con := sum_n ((2 ^ 256 - 1) % m) 1 m (Nat.mod_lt _ (by omega)) (by omega) hm)) ?_
 refine s_st k_st ?_
 refine s_nil (by kernel_rfl) ?_
 refine n_wp (w_seq (w_seq ?_))
 rw [wS_0 (by omega), ← wR_0 lo hi m]
 refine g_reg hP hn ?_
 refine s_op k_ld ?_
 refine s_op (k_call [] (con := bits_n hi hh)) ?_
 refine s_op k_mv ?_
 refine s_nil trivial (n_wp (w_block ?_))
 refine c_loop (fun m_ T H => ∃ i, i ≤ bitsN hi ∧ m_ = bitsN hi - i ∧ T = [(3, .s (.ptr 0 0 0)), (4, .s (.ptr 1 0 0)), (5, .s (.ptr 2 0 0)), (6, .s (.ptr 3 0 0)), (15, .s (.ptr 4 0 0)), (76, .s (.int .i64 ((bitsN hi : Nat) : Int))), (77, .s (.int .i64 ((i : Nat) : Int)))] ∧ H = [some ⟨true, [.ints .u64 4 (zs (wd lo))]⟩, some ⟨true, [.ints .u64 4 (zs (wd hi))]⟩, some ⟨true, [.ints .u64 4 (zs (wd m))]⟩, some ⟨true, [.ints .u64 4 (zs (wd (wR lo hi m i)))]⟩, some ⟨true, [.ints .u64 4 (zs (wd (wS m i)))]⟩]) ((bitsN hi)) ⟨0, by omega, rfl, rfl, rfl⟩ (wk hE [0, 1, 2, 3, 6]) ?_
 rintro n_ T_ H_ ⟨i, hi_, rfl, rfl, rfl⟩
 refine qz hP hn ?_
 refine s_op k_lss ?_
 refine s_nil trivial (n_wp (w_seq ?_))
 refine w_if rfl (fun h_t78 => ?_) (fun h_t78 => ?_)
 · refine w_skip (n_wp (w_seq (w_block (qz hP hn ?_))))
   refine o2 ?_
   refine s_nil trivial (n_wp (w_seq (qz hP hn ?_)))
   refine o2 ?_
   refine s_op (k_call [] (con := bit_n hi i (by omega))) ?_
   refine s_op k_eql ?_
   refine s_nil trivial (n_wp ?_)
   refine w_if rfl (fun h_t83 => ?_) (fun h_t83 => ?_)
   · refine g_reg hP hn ?_
     refine o3 ?_
     refine s_op (k_call [] (con := sum_n (wR lo hi m i) (wS m i) m (wR_lt (by omega)) (wS_lt (by omega)) hm)) ?_
     refine s_st k_st ?_
     refine s_nil trivial (n_wp ?_)
     try rw [wR_1 h_t83]
     refine g_reg hP hn ?_
     refine o3 ?_
     refine s_op (k_call [] (con := sum_n (wS m i) (wS m i) m (wS_lt (by omega)) (wS_lt (by omega)) hm)) ?_
     refine s_st k_st ?_
     refine s_nil trivial (n_blo (n_wp ?_))
     rw [wS_s]
     refine g_reg hP hn ?_
     refine o2 ?_
     refine s_nil trivial ?_
     exact n_round (bitsN hi - (i + 1)) (by omega) ⟨i + 1, by omega, rfl, rfl, rfl⟩ (wk hE [])
   · rw [wR_n h_t83]
     refine w_skip (n_wp ?_)
     try rw [wR_1 h_t83]
     refine g_reg hP hn ?_
     refine o3 ?_
     refine s_op (k_call [] (con := sum_n (wS m i) (wS m i) m (wS_lt (by omega)) (wS_lt (by omega)) hm)) ?_
     refine s_st k_st ?_
     refine s_nil trivial (n_blo (n_wp ?_))
     rw [wS_s]
     refine g_reg hP hn ?_
     refine o2 ?_
     refine s_nil trivial ?_
     exact n_round (bitsN hi - (i + 1)) (by omega) ⟨i + 1, by omega, rfl, rfl, rfl⟩ (wk hE [])
 · have hi2 : i = bitsN hi := by omega
   subst hi2
   rw [wR_e lo hi m]
   refine w_exit (x_thn (x_thn (x_eq (n_wp (qz hP hn ?_)))))
   refine s_op k_ld ?_
   refine s_st k_st ?_
   refine s_op k_as ?_
   refine s_nil trivial (n_wp (w_ret ?_))
   exact d_ret hP hn hE [] (ret2 Tryz.results150 r_cella (by first | exact ri_tmp rfl | exact ri_tmpa rfl))

theorem wide_n (lo hi m : Nat) (hl : lo < 2 ^ 256) (hh : hi < 2 ^ 256) (hm : m < 2 ^ 256) (hb0 : m ≠ 0) : Con Tryz.prog 150 [.agg [.ints .u64 4 (zs (wd lo))], .agg [.ints .u64 4 (zs (wd hi))], .agg [.ints .u64 4 (zs (wd m))]] [] (.tup [.agg [.ints .u64 4 (zs (wd ((lo + 2 ^ 256 * hi) % m)))], .s (.int .i64 0)]) [] := by
 by_cases h : bitsN m ≤ 64
 · exact wide_s lo hi m hl hh hm hb0 h
 · exact wide_l lo hi m hl hh hm hb0 h

end Go.Proofs.X
end

section
/- Function values that catch no numbers; methods bound to what is literal. No program. -/
namespace Go.Bx
section
variable {P : Program} {T : Tm} {H : Heap} {d : Option Tmp} {ty : TypeId} {pos : String} {af : Array Edge} {g : Option (Nat × Bool)}
theorem conv_noid {H : Heap} {x : SV} (h : x.idB (fun _ => false) = true) (hj : x ≠ .junk) : AConv [] H (.s x) (.s (.noid x)) := fun _ _ ρ _ _ _ _ hr => ⟨SV.to_noM h hr, SV.oneCell (ρ := ρ) hr hj⟩
theorem k_fnN {f n : Nat} {caps : Array Operand} {ps : List Operand} (l : List SV) (hl : caps.toList = ps := by rfl) (hc : CapL T (capF l) 0 ps := by first | exact .nil | exact .cons rfl .nil | exact .cons rfl (.cons rfl .nil) | exact .cons rfl (.cons rfl (.cons rfl .nil)) | exact .cons rfl (.cons rfl (.cons rfl (.cons rfl .nil)))) (hn : Nat.beq ps.length l.length = true := by rfl) (hm : l.length = n := by first | exact len_0 | exact len_1 | exact len_2 | exact len_3 | exact len_4) (hid : (SV.clo f n (capF l)).idB (fun _ => false) = true := by rfl) : LOk P ⟨d, .makeFunc (.func f) #[] caps, ty, pos, af, g⟩ T H H (.s (.noid (.clo f n (capF l)))) [] [] :=
  (k_fn l hl hc hn hm).conv (conv_noid hid SV.noConfusion) (fun _ h => by cases h)
def numS : List Seg → Bool
  | [] => true
  | .ints .. :: r => numS r
  | _ => false
theorem litVS_rep {ρ : Rho} : ∀ {l : List Seg} {c : List Value}, litVS l = some c → numS l = true → c.length = sizeS l ∧ RowRep ρ l (fun i => c[i]?)
  | [], c, h, _ => by
    simp only [litVS, Option.some.injEq] at h
    subst h
    exact ⟨rfl, fun i x hx => by simp [atS] at hx⟩
  | .one v :: r, c, h, hl => by simp [numS] at hl
  | .ints k n l :: r, c, h, hl => by
    simp only [litVS] at h
    simp only [numS] at hl
    split at h
    · rename_i q hq
      simp only [Option.some.injEq] at h
      subst h
      obtain ⟨h1, h2⟩ := litVS_rep (ρ := ρ) hq hl
      refine ⟨by simp [sizeS, Seg.size, h1], fun i y hy => ?_⟩
      simp only [atS] at hy
      have hs : (Seg.ints k n l).size = n := rfl
      rw [hs] at hy
      by_cases hi : i < n
      · rw [if_pos hi] at hy
        simp at hy
        subst hy
        exact ⟨.int k (l.getD i 0), by simp [List.getElem?_append_left, hi, Seg.at], rfl, rfl⟩
      · rw [if_neg hi] at hy
        obtain ⟨w, hw, hc⟩ := h2 _ y hy
        refine ⟨w, ?_, hc⟩
        show ((List.range n).map _ ++ q)[i]? = some w
        rw [List.getElem?_append_right (by simp; omega)]
        simpa using hw
    · cases h
  | .rows .. :: _, c, h, _ => by simp [litVS] at h
def valOf (l : List Seg) : Value := match litVS l with | some c => .agg c.toArray | none => .nilIface
theorem numS_lit : ∀ {l : List Seg}, numS l = true → ∃ c, litVS l = some c
  | [], _ => ⟨[], rfl⟩
  | .ints k n l :: r, h => by
    obtain ⟨c, hc⟩ := numS_lit (l := r) h
    exact ⟨(List.range n).map (fun i => Value.int k (l.getD i 0)) ++ c, by simp only [litVS, hc]⟩
  | .one _ :: _, h => by simp [numS] at h
  | .rows .. :: _, h => by simp [numS] at h
theorem valOf_rep {l : List Seg} (h : numS l = true) (ρ : Rho) : (AV.agg l).rep ρ (valOf l) := by
  obtain ⟨c, hc⟩ := numS_lit h
  obtain ⟨h1, h2⟩ := litVS_rep (ρ := ρ) hc h
  unfold valOf
  rw [hc]
  exact ⟨c.toArray, rfl, by simpa using h1, fun i x hx => by
    obtain ⟨v, hv, hcl⟩ := h2 i x hx
    exact ⟨v, by simpa using hv, hcl⟩⟩
theorem valOf_eq {l : List Seg} (h : numS l = true) {ρ : Rho} {v : Value} (hr : (AV.agg l).rep ρ v) : v = valOf l := by
  obtain ⟨c, hc⟩ := numS_lit h
  have : (AV.agg l).litV = some (valOf l) := by simp [AV.litV, valOf, hc]
  exact AV.litV_eq this hr
theorem k_fnb {f : Nat} {x : Operand} {l : List Seg} (hx : ev T x = .agg l := by rfl) (hl : numS l = true := by rfl) : LOk P ⟨d, .makeFunc (.func f) #[x] #[], ty, pos, af, g⟩ T H H (.s (.val (.func (.func f) #[valOf l] #[]))) [] [] :=
  lok_pure fun ρ a w ho => by
    have h1 := one (op := .makeFunc (.func f) #[x] #[]) rfl ho hx
    have h2 := valOf_eq hl h1
    exact ⟨.func (.func f) #[valOf l] #[], by simp [execOp, Instr.makeFunc, h2], rfl, rfl⟩
theorem k_callb {f : Nat} {x : Operand} {A : List Seg} {at_ : Array TypeId} {H1 H' : Heap} {v0 v : AV} [hf : Clb P f] (hx : ev T x = .s (.val (.func (.func f) #[valOf A] #[])) := by rfl) (hA : numS A = true := by rfl) (con : Con P f [.agg A] [] v0 H1) (hok : callOk [] [] [.agg A] [] H1 v0 H.length = true := by rfl) (hv : v0.ren (nmsF [] H.length) = v := by rfl) (hH : aftH H [] [] H1 = H' := by rfl) : LOk P ⟨d, .call ⟨.value x, #[], at_⟩, ty, pos, af, g⟩ T H H' v ([] ++ []) ((muts [] [] 0).map (·.1)) := by
  have hmem : x ∈ (Op.call ⟨.value x, #[], at_⟩).operands := by simp [Op.operands, Call.operands]
  refine step_call' [] [] con (fun ρ a w ho => ?_) hok trivial rfl hv hH
  have h1 := ho _ hmem
  rw [hx] at h1
  have h1 : a.eval x = .func (.func f) #[valOf A] #[] := h1.1
  refine ⟨#[valOf A], by simp [execOp, resolve, Deferred.ofValue, invoke, h1, Sem.run_bind, run_callFunc hf.h], fun c W _ _ => ⟨rfl, fun i y hy => ?_⟩⟩
  match i, hy with
  | 0, hy =>
    have hy : AV.ren (nmsF [] H.length) (.agg A) = y := by simpa using hy
    subst hy
    have hp : (AV.agg A).plain0 = true := by
      have : ∀ l : List Seg, numS l = true → l.all Seg.plain0 = true := by
        intro l
        induction l with
        | nil => intro _; rfl
        | cons s r ih =>
          intro h
          cases s with
          | ints => simp only [numS] at h; simp only [List.all_cons, ih h]; rfl
          | one => simp [numS] at h
          | rows => simp [numS] at h
      exact this A hA
    rw [AV.ren_self hp]
    exact valOf_rep hA ρ
  | i + 1, hy => simp at hy
theorem k_callN {f n : Nat} {x : Operand} {xs : Array Operand} {l : List Operand} {at_ : Array TypeId} {args1 : List AV} {H1 H' : Heap} {v0 v : AV} {R : List Nat} (caps : List SV) [hf : Clb P f] (hx : ev T x = .s (.noid (.clo f n (capF caps))) := by rfl) (hl : xs.toList = l := by rfl) (hargs : ConvL T H R l args1 := by first | exact .nil | exact .cons rfl cv .nil | exact .cons rfl cv (.cons rfl cv .nil) | exact .cons rfl cv (.cons rfl cv (.cons rfl cv .nil))) (con : Con P f (args1 ++ caps.map AV.s) [] v0 H1) (hcn : caps.length = n := by rfl) (hpl : (args1 ++ caps.map AV.s).all AV.plain0 = true := by rfl) (hok : callOk [] R (args1 ++ caps.map AV.s) [] H1 v0 H.length = true := by rfl) (hR : frozenIn H R = true := by rfl) (hv : v0.ren (nmsF [] H.length) = v := by rfl) (hH : aftH H [] [] H1 = H' := by rfl) : LOk P ⟨d, .call ⟨.value x, xs, at_⟩, ty, pos, af, g⟩ T H H' v ([] ++ R) ((muts [] [] 0).map (·.1)) := by
  subst hl
  subst hcn
  have hmem : x ∈ (Op.call ⟨.value x, xs, at_⟩).operands := by simp [Op.operands, Call.operands]
  refine step_call' [] R con (fun ρ a w ho => ?_) hok trivial hR hv hH
  have h1 := ho _ hmem
  rw [hx] at h1
  obtain ⟨vs, e1, e2, e3⟩ := SV.rep_le (noM_le ρ) h1.1
  refine ⟨xs.map a.eval ++ vs, by simp [execOp, resolve, Deferred.ofValue, invoke, e1, Sem.run_bind, run_callFunc hf.h], fun c W hc hH => ?_⟩
  obtain ⟨k1, k2⟩ := hargs.get
  have hxs : xs.size = args1.length := by rw [← k1]; simp
  refine ⟨by simp [e2, hxs], fun i y hy => ?_⟩
  rw [List.getElem?_map] at hy
  obtain ⟨z, hz, rfl⟩ := Option.map_eq_some_iff.1 hy
  have hzm : z ∈ args1 ++ caps.map AV.s := List.mem_of_getElem? hz
  rw [List.all_eq_true] at hpl
  rw [AV.ren_self (hpl z hzm)]
  rcases Nat.lt_or_ge i args1.length with hi | hi
  · rw [List.getElem?_append_left hi] at hz
    have hi2 : i < xs.toList.length := by rw [k1]; exact hi
    have hm : xs.toList[i] ∈ (Op.call ⟨.value x, xs, at_⟩).operands := by
      simp only [Op.operands, Call.operands]
      exact Array.mem_append.2 (.inr (Array.mem_toList_iff.1 (List.getElem_mem hi2)))
    have := k2 i xs.toList[i] z (by simp) hz c W ρ w _ hc hH (ho _ hm)
    rw [Array.getD_eq_getD_getElem?, Array.getElem?_append_left (by simpa using hi2)]
    have hi3 : i < xs.size := by simpa using hi2
    simpa [hi3] using this
  · rw [List.getElem?_append_right hi, List.getElem?_map] at hz
    obtain ⟨u, hu, rfl⟩ := Option.map_eq_some_iff.1 hz
    have hlt : i - args1.length < caps.length := (List.getElem?_eq_some_iff.1 hu).1
    obtain ⟨u', hu', hr⟩ := e3 _ hlt
    rw [Array.getD_eq_getD_getElem?, Array.getElem?_append_right (by simpa using (hxs ▸ hi))]
    have : i - (xs.map a.eval).size = i - args1.length := by simp [hxs]
    rw [this, hu']
    have hc : capF caps (i - args1.length) = u := by unfold capF; rw [List.getD_eq_getElem?_getD, hu]; rfl
    rw [hc] at hr
    exact hr
end
end Go.Bx
end

section
/- Rings and groups, on numbers. No program. -/
open Go Go.Bx
namespace Go.Proofs.X
abbrev NR (x : Nat) : List Seg := [.ints .u64 4 (zs (wd x))]
abbrev NUMS (L : List Nat) : SV := .fz L.length 4 (rowsF fun i => (L.map NR).getD i [])
theorem nums_at (L : List Nat) (i : Nat) (h : i < L.length) : SubS ((L.map NR).getD i []) (0 + 0) 4 [.ints .u64 4 (zs (wd (L.getD i 0)))] := by
  have : (L.map NR).getD i [] = NR (L.getD i 0) := by simp [List.getD_eq_getElem?_getD, h]
  rw [this]
  exact .whole rfl
abbrev MP (m : Nat) : SV := .fptr 4 (cellsF [.ints .u64 4 (zs (wd m))]) 0 0
theorem plus_yes {a b m : Nat} (ha : a < m) (hb : b < m) (hm : m < 2 ^ 256) (h : m - b ≤ a) : wd (subN a (subN m b)) = wd ((a + b) % m) := by
  rw [subN_le hm (by omega), subN_le (by omega) h, Nat.mod_eq_sub_mod (by omega), Nat.mod_eq_of_lt (a := a + b - m) (by omega)]
  congr 1; omega
theorem plus_no {a b m : Nat} (hb : b < m) (h : ¬ m - b ≤ a) : a + b = (a + b) % m := by
  rw [Nat.mod_eq_of_lt (by omega)]
theorem times_l (a b m : Nat) : ((a * b) % 2 ^ 256 + 2 ^ 256 * (a * b / 2 ^ 256)) % m = a * b % m := by rw [Nat.mod_add_div]
theorem times_s (a b m : Nat) : (a * b / 18446744073709551616 * 18446744073709551616 + a * b % 18446744073709551616) % m = a * b % m := by rw [Nat.div_add_mod']
def pO (a n m i : Nat) : Nat := a ^ (n % 2 ^ i) % m
def pB (a m i : Nat) : Nat := a ^ (2 ^ i) % m
theorem pO_0 {a n m : Nat} (hm : 1 < m) : pO a n m 0 = 1 := by simp [pO, Nat.mod_one, Nat.mod_eq_of_lt hm]
theorem pB_0 {a m : Nat} (h : a < m) : pB a m 0 = a := by simp [pB, Nat.mod_eq_of_lt h]
theorem pB_s (a m i : Nat) : pB a m i * pB a m i % m = pB a m (i + 1) := by
  unfold pB
  rw [← Nat.mul_mod, ← Nat.pow_add, Nat.pow_succ]
  congr 2; omega
theorem pO_1 {a n m i : Nat} (h : n / 2 ^ i % 2 = 1) : pO a n m i * pB a m i % m = pO a n m (i + 1) := by
  unfold pO pB
  have : n % 2 ^ (i + 1) = n % 2 ^ i + 2 ^ i := by rw [Nat.pow_succ, Nat.mod_mul, h, Nat.mul_one]
  rw [← Nat.mul_mod, ← Nat.pow_add, this]
theorem pO_n {a n m i : Nat} (h : ¬ n / 2 ^ i % 2 = 1) : pO a n m i = pO a n m (i + 1) := by
  unfold pO
  have h0 : n / 2 ^ i % 2 = 0 := by omega
  have : n % 2 ^ (i + 1) = n % 2 ^ i := by rw [Nat.pow_succ, Nat.mod_mul, h0, Nat.mul_zero, Nat.add_zero]
  rw [this]
theorem pO_e (a n m : Nat) : pO a n m (bitsN n) = a ^ n % m := by unfold pO; rw [Nat.mod_eq_of_lt (bitsN_lt n)]
theorem pO_lt {a n m i : Nat} (h : 0 < m) : pO a n m i < m := Nat.mod_lt _ h
theorem pB_lt {a m i : Nat} (h : 0 < m) : pB a m i < m := Nat.mod_lt _ h
def mayP (p a : Nat) : Bool := decide (1 < p) && !decide (a = 0) && decide (a < p)
theorem mayP_iff (p a : Nat) : mayP p a = true ↔ 1 < p ∧ a ≠ 0 ∧ a < p := by simp [mayP, and_assoc]
def expP (p a n : Nat) : Nat := if mayP p a then a ^ n % p else 0
def expE (p a : Nat) : Int := if mayP p a then 0 else 1
def inP (p q a : Nat) : Bool := mayP p a && decide (a ^ q % p = 1)
def fineP (p q g : Nat) : Bool := (decide (1 < q) && !decide (g = 1)) && inP p q g
theorem expP_lt {p a n : Nat} (hp : p < 2 ^ 256) : expP p a n < 2 ^ 256 := by
  unfold expP
  split
  · rename_i h
    have := (mayP_iff p a).1 h
    have := Nat.mod_lt (a ^ n) (show 0 < p by omega)
    omega
  · omega
abbrev GRP (p q g : Nat) : List Seg := [.ints .u64 4 (zs (wd p)), .ints .u64 4 (zs (wd q)), .ints .u64 4 (zs (wd g))]
abbrev PAIR (p q g a b : Nat) : List Seg := [.ints .u64 4 (zs (wd p)), .ints .u64 4 (zs (wd q)), .ints .u64 4 (zs (wd g)), .ints .u64 4 (zs (wd a)), .ints .u64 4 (zs (wd b))]
end Go.Proofs.X
namespace Go.Bx
open Go.Proofs.X
section
variable {P : Program} {T : Tm} {H : Heap} {d : Option Tmp} {ty : TypeId} {pos : String} {af : Array Edge} {g : Option (Nat × Bool)}
theorem k_eqN (a b : Nat) (ha : a < 2 ^ 256) (hb : b < 2 ^ 256) {t e : TypeId} {x y : Operand} {tyy : TypeId} [hu : Und P t (.array 4 e)] [he : Und P e (.int .u64)] [hs : Sz P e 1] [hg : Ag P e false] [hn : NoEq P t] (hx : ev T x = .agg [.ints .u64 4 (zs (wd a))] := by rfl) (hy : ev T y = .agg [.ints .u64 4 (zs (wd b))] := by rfl) : LOk P ⟨d, .binOp .eql t x y tyy, ty, pos, af, g⟩ T H H (.s (.bool (decide (a = b)))) [] [] := by
  have h := a_eqA (P := P) (H := H) (d := d) (ty := ty) (pos := pos) (af := af) (g := g) (t := t) (tyy := tyy) hx hy (by rw [zs_len, wd_len]) (by rw [zs_len, wd_len])
  rwa [show decide (zs (wd a) = zs (wd b)) = decide (a = b) by rw [decide_eq_decide, zs_inj, wd_inj ha hb]] at h
theorem k_neN (a b : Nat) (ha : a < 2 ^ 256) (hb : b < 2 ^ 256) {t e : TypeId} {x y : Operand} {tyy : TypeId} [hu : Und P t (.array 4 e)] [he : Und P e (.int .u64)] [hs : Sz P e 1] [hg : Ag P e false] [hn : NoEq P t] (hx : ev T x = .agg [.ints .u64 4 (zs (wd a))] := by rfl) (hy : ev T y = .agg [.ints .u64 4 (zs (wd b))] := by rfl) : LOk P ⟨d, .binOp .neq t x y tyy, ty, pos, af, g⟩ T H H (.s (.bool (!decide (a = b)))) [] [] := by
  have h := a_neA (P := P) (H := H) (d := d) (ty := ty) (pos := pos) (af := af) (g := g) (t := t) (tyy := tyy) hx hy (by rw [zs_len, wd_len]) (by rw [zs_len, wd_len])
  rwa [show decide (zs (wd a) = zs (wd b)) = decide (a = b) by rw [decide_eq_decide, zs_inj, wd_inj ha hb]] at h
theorem k_gt0 (a b : Nat) {t tt : TypeId} {x : Operand} (hx : ev T x = .s (.int .i64 (cmpI a b)) := by rfl) : LOk P ⟨d, .binOp .gtr t x (.const (.int .i64 0)) tt, ty, pos, af, g⟩ T H H (.s (.bool (decide (b < a)))) [] [] :=
  l_bin hx rfl (b_gtr (decide_eq_decide.2 (cmp_gt a b)))
theorem k_lt0 (a b : Nat) {t tt : TypeId} {x : Operand} (hx : ev T x = .s (.int .i64 (cmpI a b)) := by rfl) : LOk P ⟨d, .binOp .lss t x (.const (.int .i64 0)) tt, ty, pos, af, g⟩ T H H (.s (.bool (decide (a < b)))) [] [] :=
  l_bin hx rfl (b_lss (decide_eq_decide.2 (cmp_l a b)))
theorem k_ge0 (a b : Nat) {t tt : TypeId} {x : Operand} (hx : ev T x = .s (.int .i64 (cmpI a b)) := by rfl) : LOk P ⟨d, .binOp .geq t x (.const (.int .i64 0)) tt, ty, pos, af, g⟩ T H H (.s (.bool (decide (b ≤ a)))) [] [] :=
  l_bin hx rfl (b_geq (decide_eq_decide.2 (cmp_ge a b)))
end
end Go.Bx
end

section
/- Types and functions of mods and groups, as instances. -/
open Go Go.Bx Go.Proofs
namespace Go.Proofs.X
instance : Clb Tryz.prog 127 := ⟨_, Tryz.func127, by kernel_rfl, rfl⟩
instance : Clb Tryz.prog 126 := ⟨_, Tryz.func126, by kernel_rfl, rfl⟩
instance : Clb Tryz.prog 144 := ⟨_, Tryz.func144, by kernel_rfl, rfl⟩
instance : Clb Tryz.prog 153 := ⟨_, Tryz.func153, by kernel_rfl, rfl⟩
instance : Clb Tryz.prog 155 := ⟨_, Tryz.func155, by kernel_rfl, rfl⟩
instance : Clb Tryz.prog 156 := ⟨_, Tryz.func156, by kernel_rfl, rfl⟩
instance : Clb Tryz.prog 158 := ⟨_, Tryz.func158, by kernel_rfl, rfl⟩
instance : Clb Tryz.prog 116 := ⟨_, Tryz.func116, by kernel_rfl, rfl⟩
instance : Clb Tryz.prog 117 := ⟨_, Tryz.func117, by kernel_rfl, rfl⟩
instance : Clb Tryz.prog 103 := ⟨_, Tryz.func103, by kernel_rfl, rfl⟩
instance : Clb Tryz.prog 73 := ⟨_, Tryz.func73, by kernel_rfl, rfl⟩
instance : Clb Tryz.prog 40 := ⟨_, Tryz.func40, by kernel_rfl, rfl⟩
instance : Clb Tryz.prog 74 := ⟨_, Tryz.func74, by kernel_rfl, rfl⟩
instance : Clb Tryz.prog 43 := ⟨_, Tryz.func43, by kernel_rfl, rfl⟩
instance : Clb Tryz.prog 76 := ⟨_, Tryz.func76, by kernel_rfl, rfl⟩
instance : Clb Tryz.prog 102 := ⟨_, Tryz.func102, by kernel_rfl, rfl⟩
instance : Clb Tryz.prog 77 := ⟨_, Tryz.func77, by kernel_rfl, rfl⟩
instance : Clb Tryz.prog 124 := ⟨_, Tryz.func124, by kernel_rfl, rfl⟩
instance : Clb Tryz.prog 140 := ⟨_, Tryz.func140, by kernel_rfl, rfl⟩
instance : NoEq Tryz.prog 24 := ⟨by kernel_rfl⟩
instance : Und Tryz.prog 26 (.struct #[{ name := "P", type := 24, offset := 0, embedded := false, tag := "", pkgPath := "", byteOffset := 0 }, { name := "Q", type := 24, offset := 4, embedded := false, tag := "", pkgPath := "", byteOffset := 32 }, { name := "G", type := 24, offset := 8, embedded := false, tag := "", pkgPath := "", byteOffset := 64 }]) := ⟨Tryz.underlying26⟩
instance : Sz Tryz.prog 26 12 := ⟨Tryz.sizeOf26⟩
instance : Ag Tryz.prog 26 true := ⟨Tryz.isAgg26⟩
instance : Zv Tryz.prog 26 [.ints .u64 4 (zs (List.replicate 4 0)), .ints .u64 4 (zs (List.replicate 4 0)), .ints .u64 4 (zs (List.replicate 4 0))] := ⟨_, Tryz.zeroValue26, by kernel_rfl⟩
instance : FldC Tryz.prog 26 0 0 := ⟨_, _, _, Tryz.underlying26, rfl, Tryz.sizeOf24, by decide, rfl⟩
instance : FldC Tryz.prog 26 1 4 := ⟨_, _, _, Tryz.underlying26, rfl, Tryz.sizeOf24, by decide, rfl⟩
instance : FldC Tryz.prog 26 2 8 := ⟨_, _, _, Tryz.underlying26, rfl, Tryz.sizeOf24, by decide, rfl⟩
instance : Pl Tryz.prog 26 #[(0, 4), (4, 4), (8, 4)] := ⟨_, Tryz.underlying26, fun w => by kernel_rfl⟩
instance : Inf Tryz.prog 26 Tryz.t26 := ⟨by kernel_rfl⟩
instance : Und Tryz.prog 48 (.int .i64) := ⟨Tryz.underlying48⟩
instance : Sz Tryz.prog 48 1 := ⟨Tryz.sizeOf48⟩
instance : Ag Tryz.prog 48 false := ⟨Tryz.isAgg48⟩
instance : Zv Tryz.prog 48 [.one (.int .i64 0)] := ⟨_, Tryz.zeroValue48, by kernel_rfl⟩
instance : Zi Tryz.prog 48 .i64 := ⟨Tryz.zeroValue48⟩
instance : Inf Tryz.prog 48 Tryz.t48 := ⟨by kernel_rfl⟩
instance : Und Tryz.prog 149 (.struct #[{ name := "Group", type := 26, offset := 0, embedded := true, tag := "", pkgPath := "", byteOffset := 0 }]) := ⟨Tryz.underlying149⟩
instance : Sz Tryz.prog 149 12 := ⟨Tryz.sizeOf149⟩
instance : Ag Tryz.prog 149 true := ⟨Tryz.isAgg149⟩
instance : Zv Tryz.prog 149 [.ints .u64 4 (zs (List.replicate 4 0)), .ints .u64 4 (zs (List.replicate 4 0)), .ints .u64 4 (zs (List.replicate 4 0))] := ⟨_, Tryz.zeroValue149, by kernel_rfl⟩
instance : FldC Tryz.prog 149 0 0 := ⟨_, _, _, Tryz.underlying149, rfl, Tryz.sizeOf26, by decide, rfl⟩
instance : Pl Tryz.prog 149 #[(0, 12)] := ⟨_, Tryz.underlying149, fun w => by kernel_rfl⟩
instance : Inf Tryz.prog 149 Tryz.t149 := ⟨by kernel_rfl⟩
instance : Und Tryz.prog 151 (.struct #[{ name := "ring", type := 149, offset := 0, embedded := true, tag := "", pkgPath := "burrow/groups", byteOffset := 0 }, { name := "a", type := 24, offset := 12, embedded := false, tag := "", pkgPath := "burrow/groups", byteOffset := 96 }, { name := "b", type := 24, offset := 16, embedded := false, tag := "", pkgPath := "burrow/groups", byteOffset := 128 }]) := ⟨Tryz.underlying151⟩
instance : Sz Tryz.prog 151 20 := ⟨Tryz.sizeOf151⟩
instance : Ag Tryz.prog 151 true := ⟨Tryz.isAgg151⟩
instance : Zv Tryz.prog 151 [.ints .u64 4 (zs (List.replicate 4 0)), .ints .u64 4 (zs (List.replicate 4 0)), .ints .u64 4 (zs (List.replicate 4 0)), .ints .u64 4 (zs (List.replicate 4 0)), .ints .u64 4 (zs (List.replicate 4 0))] := ⟨_, Tryz.zeroValue151, by kernel_rfl⟩
instance : FldC Tryz.prog 151 0 0 := ⟨_, _, _, Tryz.underlying151, rfl, Tryz.sizeOf149, by decide, rfl⟩
instance : FldC Tryz.prog 151 1 12 := ⟨_, _, _, Tryz.underlying151, rfl, Tryz.sizeOf24, by decide, rfl⟩
instance : FldC Tryz.prog 151 2 16 := ⟨_, _, _, Tryz.underlying151, rfl, Tryz.sizeOf24, by decide, rfl⟩
instance : Pl Tryz.prog 151 #[(0, 12), (12, 4), (16, 4)] := ⟨_, Tryz.underlying151, fun w => by kernel_rfl⟩
instance : Inf Tryz.prog 151 Tryz.t151 := ⟨by kernel_rfl⟩
instance : Und Tryz.prog 153 (.func #[] #[24, 48] false) := ⟨Tryz.underlying153⟩
instance : Sz Tryz.prog 153 1 := ⟨Tryz.sizeOf153⟩
instance : Ag Tryz.prog 153 false := ⟨Tryz.isAgg153⟩
instance : Zv Tryz.prog 153 [.one (.val .nilFunc)] := ⟨_, Tryz.zeroValue153, by kernel_rfl⟩
instance : Inf Tryz.prog 153 Tryz.t153 := ⟨by kernel_rfl⟩
instance : Und Tryz.prog 218 (.func #[24, 24] #[24] false) := ⟨Tryz.underlying218⟩
instance : Sz Tryz.prog 218 1 := ⟨Tryz.sizeOf218⟩
instance : Ag Tryz.prog 218 false := ⟨Tryz.isAgg218⟩
instance : Zv Tryz.prog 218 [.one (.val .nilFunc)] := ⟨_, Tryz.zeroValue218, by kernel_rfl⟩
instance : Inf Tryz.prog 218 Tryz.t218 := ⟨by kernel_rfl⟩
instance : Und Tryz.prog 220 (.struct #[{ name := "plus", type := 218, offset := 0, embedded := false, tag := "", pkgPath := "burrow/mods", byteOffset := 0 }, { name := "less", type := 218, offset := 1, embedded := false, tag := "", pkgPath := "burrow/mods", byteOffset := 8 }, { name := "times", type := 218, offset := 2, embedded := false, tag := "", pkgPath := "burrow/mods", byteOffset := 16 }]) := ⟨Tryz.underlying220⟩
instance : Sz Tryz.prog 220 3 := ⟨Tryz.sizeOf220⟩
instance : Ag Tryz.prog 220 true := ⟨Tryz.isAgg220⟩
instance : Zv Tryz.prog 220 [.one (.val .nilFunc), .one (.val .nilFunc), .one (.val .nilFunc)] := ⟨_, Tryz.zeroValue220, by kernel_rfl⟩
instance : FldC Tryz.prog 220 0 0 := ⟨_, _, _, Tryz.underlying220, rfl, Tryz.sizeOf218, by decide, rfl⟩
instance : FldC Tryz.prog 220 1 1 := ⟨_, _, _, Tryz.underlying220, rfl, Tryz.sizeOf218, by decide, rfl⟩
instance : FldC Tryz.prog 220 2 2 := ⟨_, _, _, Tryz.underlying220, rfl, Tryz.sizeOf218, by decide, rfl⟩
instance : Pl Tryz.prog 220 #[(0, 1), (1, 1), (2, 1)] := ⟨_, Tryz.underlying220, fun w => by kernel_rfl⟩
instance : Inf Tryz.prog 220 Tryz.t220 := ⟨by kernel_rfl⟩
end Go.Proofs.X
end

section
set_option maxRecDepth 100000
set_option maxHeartbeats 4000000
open Go Go.Bx Go.Proofs
namespace Go.Proofs.X
theorem half64 {a b m : Nat} (ha : a < m) (hb : b < m) (hm : m < 18446744073709551616) : a * b / 18446744073709551616 < 18446744073709551616 := by
 have h1 : a * b ≤ a * 18446744073709551616 := Nat.mul_le_mul_left _ (by omega)
 exact Nat.div_lt_of_lt_mul (by omega)
attribute [local irreducible] bitsN wd dg cmpI subN undN shN
theorem one_n  : Con Tryz.prog 127 [] [] (.agg [.ints .u64 4 (zs (wd 1))]) [] := by
 refine con_in 2 Tryz.func127 rfl rfl (m := 0) rfl ?_
 intro E hP hn hE
 refine qz hP hn ?_
 refine s_op k_al ?_
 refine qx hP hn ?_
 refine s_op (k_call [] (con := of_n 1 (by omega))) ?_
 refine s_st k_st ?_
 refine s_nil trivial (n_wp (w_ret ?_))
 exact d_ret hP hn hE [] (r_cell Tryz.results127)

theorem gone_n  : Con Tryz.prog 73 [] [] (.agg [.ints .u64 4 (zs (wd 1))]) [] := by
 refine con_in 2 Tryz.func73 rfl rfl (m := 0) rfl ?_
 intro E hP hn hE
 refine qz hP hn ?_
 refine s_op k_al ?_
 refine qx hP hn ?_
 refine s_op (k_call [] (con := of_n 1 (by omega))) ?_
 refine s_st k_st ?_
 refine s_nil trivial (n_wp (w_ret ?_))
 exact d_ret hP hn hE [] (r_cell Tryz.results73)

def TM (m : Nat) : Nat := if bitsN m ≤ 64 then 158 else 156
instance tm_clb (m : Nat) : Clb Tryz.prog (TM m) := by unfold TM; split <;> infer_instance
abbrev RG (m : Nat) : List Seg := [.one (.noid (.clo 155 1 (capF [MP m]))), .one (.noid (.clo 153 1 (capF [MP m]))), .one (.noid (.clo (TM m) 1 (capF [MP m])))]

theorem by_s (m : Nat) (hm : m < 2 ^ 256) (h : bitsN m ≤ 64) : Con Tryz.prog 144 [.agg [.ints .u64 4 (zs (wd m))]] [] (.agg [.one (.noid (.clo 155 1 (capF [MP m]))), .one (.noid (.clo 153 1 (capF [MP m]))), .one (.noid (.clo 158 1 (capF [MP m])))]) [] := by
 refine con_in 15 Tryz.func144 rfl rfl (m := 0) rfl ?_
 intro E hP hn hE
 refine qz hP hn ?_
 refine s_op k_bxf ?_
 refine s_op k_al ?_
 refine qx hP hn ?_
 refine s_op (k_fnN [MP m]) ?_
 refine s_op k_fa ?_
 refine s_st k_st ?_
 refine qx hP hn ?_
 refine s_op (k_fnN [MP m]) ?_
 refine s_op k_fa ?_
 refine s_st k_st ?_
 refine qx hP hn ?_
 refine s_op (k_fnN [MP m]) ?_
 refine s_op k_fa ?_
 refine s_st k_st ?_
 refine s_nil trivial (n_wp (w_seq (qz hP hn ?_)))
 refine s_op k_ld ?_
 refine s_op (k_call [] (con := bits_n m hm)) ?_
 refine s_op k_leq ?_
 refine s_nil trivial (n_wp ?_)
 refine w_T rfl ?_ 
 refine g_reg hP hn ?_
 refine s_op (k_fnN [MP m]) ?_
 refine s_op k_fa ?_
 refine s_st k_st ?_
 refine qx hP hn ?_
 refine s_op k_ld ?_
 refine s_st k_st ?_
 refine s_nil trivial (n_wp (w_ret ?_))
 exact d_ret hP hn hE [] (r_cell Tryz.results144)

theorem by_l (m : Nat) (hm : m < 2 ^ 256) (h : ¬ bitsN m ≤ 64) : Con Tryz.prog 144 [.agg [.ints .u64 4 (zs (wd m))]] [] (.agg [.one (.noid (.clo 155 1 (capF [MP m]))), .one (.noid (.clo 153 1 (capF [MP m]))), .one (.noid (.clo 156 1 (capF [MP m])))]) [] := by
 refine con_in 15 Tryz.func144 rfl rfl (m := 0) rfl ?_
 intro E hP hn hE
 refine qz hP hn ?_
 refine s_op k_bxf ?_
 refine s_op k_al ?_
 refine qx hP hn ?_
 refine s_op (k_fnN [MP m]) ?_
 refine s_op k_fa ?_
 refine s_st k_st ?_
 refine qx hP hn ?_
 refine s_op (k_fnN [MP m]) ?_
 refine s_op k_fa ?_
 refine s_st k_st ?_
 refine qx hP hn ?_
 refine s_op (k_fnN [MP m]) ?_
 refine s_op k_fa ?_
 refine s_st k_st ?_
 refine s_nil trivial (n_wp (w_seq (qz hP hn ?_)))
 refine s_op k_ld ?_
 refine s_op (k_call [] (con := bits_n m hm)) ?_
 refine s_op k_leq ?_
 refine s_nil trivial (n_wp ?_)
 refine w_F rfl ?_ 
 refine w_skip (n_wp (qz hP hn ?_))
 refine s_op k_ld ?_
 refine s_st k_st ?_
 refine s_nil trivial (n_wp (w_ret ?_))
 exact d_ret hP hn hE [] (r_cell Tryz.results144)

theorem by_n (m : Nat) (hm : m < 2 ^ 256) : Con Tryz.prog 144 [.agg [.ints .u64 4 (zs (wd m))]] [] (.agg (RG m)) [] := by
 by_cases h : bitsN m ≤ 64
 · have := by_s m hm h
   rwa [← show TM m = 158 from if_pos h] at this
 · have := by_l m hm h
   rwa [← show TM m = 156 from if_neg h] at this

theorem plus_n (a b m : Nat) (ha : a < m) (hb : b < m) (hm : m < 2 ^ 256) : Con Tryz.prog 155 [.agg [.ints .u64 4 (zs (wd a))], .agg [.ints .u64 4 (zs (wd b))], .s (MP m)] [] (.agg [.ints .u64 4 (zs (wd ((a + b) % m)))]) [] := by
 refine con_in 32 Tryz.func155 rfl rfl (m := 0) rfl ?_
 intro E hP hn hE
 refine qz hP hn ?_
 refine s_op k_bx ?_
 refine s_op k_bx ?_
 refine s_op k_al ?_
 refine qx hP hn ?_
 refine o2 ?_
 refine s_op (k_call [] (con := sub_n m b hm (by omega))) ?_
 refine o4 ?_
 refine s_st k_st ?_
 refine s_op k_as ?_
 refine s_nil trivial (n_wp (w_seq (qz hP hn ?_)))
 refine o2 ?_
 refine s_op (k_call [] (con := cmp_n a (subN m b) (by omega) (subN_lt _ _))) ?_
 refine s_op (k_ge0 a (subN m b)) ?_
 refine s_nil trivial (n_wp ?_)
 refine w_if rfl (fun h_t17 => ?_) (fun h_t17 => ?_)
 · rw [subN_le hm (by omega)] at h_t17
   refine qz hP hn ?_
   refine o2 ?_
   refine s_op (k_call [] (con := sub_n a (subN m b) (by omega) (subN_lt _ _))) ?_
   refine o3 ?_
   refine s_st k_st ?_
   refine s_nil trivial (n_wp (w_seq ?_))
   rw [plus_yes ha hb hm h_t17]
   refine g_reg hP hn ?_
   refine s_op k_ld ?_
   refine s_st k_st ?_
   refine s_nil trivial (n_wp (w_ret (r_thn ?_)))
   exact d_ret hP hn hE [] (r_cell Tryz.results155)
 · rw [subN_le hm (by omega)] at h_t17
   refine w_skip (n_wp (qz hP hn ?_))
   refine o2 ?_
   refine s_op (k_call [] (con := add_n a b (by omega) (by omega))) ?_
   refine o3 ?_
   refine s_st k_st ?_
   refine s_nil trivial (n_wp (w_seq ?_))
   rw [show wd (a + b) = wd ((a + b) % m) by rw [← plus_no hb h_t17]]
   refine g_reg hP hn ?_
   refine s_op k_ld ?_
   refine s_st k_st ?_
   refine s_nil trivial (n_wp (w_ret ?_))
   exact d_ret hP hn hE [] (r_cell Tryz.results155)

theorem times3_n (a b m : Nat) (ha : a < m) (hb : b < m) (hm : m < 2 ^ 256) : Con Tryz.prog 156 [.agg [.ints .u64 4 (zs (wd a))], .agg [.ints .u64 4 (zs (wd b))], .s (MP m)] [] (.agg [.ints .u64 4 (zs (wd (a * b % m)))]) [] := by
 refine con_in 24 Tryz.func156 rfl rfl (m := 0) rfl ?_
 intro E hP hn hE
 refine qz hP hn ?_
 refine s_op k_bx ?_
 refine s_op k_bx ?_
 refine s_op k_al ?_
 refine qx hP hn ?_
 refine o2 ?_
 refine s_op (k_call [] (con := mul_n a b (by omega) (by omega))) ?_
 refine o3 ?_
 refine o2 ?_
 refine s_st k_st ?_
 refine s_st k_st ?_
 refine s_nil trivial (n_wp (w_seq ?_))
 rw [← wd_mod (a * b)]
 refine g_reg hP hn ?_
 refine o3 ?_
 refine s_op (k_call [] (con := wide_n ((a * b) % 2 ^ 256) (a * b / 2 ^ 256) m (Nat.mod_lt _ (by omega)) (by have := mul_fit (show a < 2 ^ 256 by omega) (show b < 2 ^ 256 by omega); rw [show (4294967296 : Nat) ^ 16 = 2 ^ 256 * 2 ^ 256 from rfl] at this; exact Nat.div_lt_of_lt_mul this) hm (by omega))) ?_
 refine o4 ?_
 refine s_st k_st ?_
 refine s_op k_as ?_
 refine s_nil trivial (n_wp (w_seq ?_))
 rw [times_l]
 refine g_reg hP hn ?_
 refine s_op k_ld ?_
 refine s_st k_st ?_
 refine s_nil trivial (n_wp (w_ret ?_))
 exact d_ret hP hn hE [] (r_cell Tryz.results156)

theorem times4_n (a b m : Nat) (ha : a < m) (hb : b < m) (hm : m < 2 ^ 256) (h64 : bitsN m ≤ 64) : Con Tryz.prog 158 [.agg [.ints .u64 4 (zs (wd a))], .agg [.ints .u64 4 (zs (wd b))], .s (MP m)] [] (.agg [.ints .u64 4 (zs (wd (a * b % m)))]) [] := by
 refine con_in 22 Tryz.func158 rfl rfl (m := 0) rfl ?_
 intro E hP hn hE
 have hm64 := bits64 h64
 refine qz hP hn ?_
 refine s_op k_bx ?_
 refine s_op k_bx ?_
 refine s_op k_al ?_
 refine qx hP hn ?_
 refine o4 ?_
 rw [zs_getD (wd a), zs_getD (wd b), wd_low a (by omega), wd_low b (by omega)]
 refine s_op (k_call [] (con := mul64_n a b (by omega) (by omega))) ?_
 refine o3 ?_
 refine o2 ?_
 refine qx hP hn ?_
 refine o4 ?_
 rw [zs_getD (wd m), wd_low m hm64]
 refine s_op (k_call [] (con := rem64_n (a * b / 18446744073709551616) (a * b % 18446744073709551616) m (by omega) hm64 (by have := half64 ha hb hm64; omega) (Nat.mod_lt _ (by omega)))) ?_
 refine s_op (k_call [] (con := of_n _ (by rw [times_s]; have := Nat.mod_lt (a * b) (show 0 < m by omega); omega))) ?_
 refine s_st k_st ?_
 refine s_nil trivial (n_wp ?_)
 rw [times_s]
 refine w_ret ?_
 exact d_ret hP hn hE [] (r_cell Tryz.results158)

theorem times_n (a b m : Nat) (ha : a < m) (hb : b < m) (hm : m < 2 ^ 256) : Con Tryz.prog (TM m) [.agg [.ints .u64 4 (zs (wd a))], .agg [.ints .u64 4 (zs (wd b))], .s (MP m)] [] (.agg [.ints .u64 4 (zs (wd (a * b % m)))]) [] := by
 by_cases h : bitsN m ≤ 64
 · rw [show TM m = 158 from if_pos h]; exact times4_n a b m ha hb hm h
 · rw [show TM m = 156 from if_neg h]; exact times3_n a b m ha hb hm

theorem goes_n (m : Nat) (L : List Nat) (hm : m < 2 ^ 256) (h1 : 1 < m) (hL : ∀ i, i < L.length → L.getD i 0 < m) (hLb : L.length ≤ 1000000) : Con Tryz.prog 126 [.agg [.ints .u64 4 (zs (wd m))], .s (NUMS L)] [] (.tup [.agg (RG m), .s (.int .i64 0)]) [] := by
 refine con_in 32 Tryz.func126 rfl rfl (m := 0) rfl ?_
 intro E hP hn hE
 refine qz hP hn ?_
 refine s_op k_bx ?_
 refine o2 ?_
 refine s_nil trivial (n_wp (w_seq ?_))
 refine g_any hP hn ?_
 refine s_op k_ld ?_
 refine s_op (k_call [] (con := one_n)) ?_
 refine s_op (k_call [] (con := cmp_n m 1 hm (by omega))) ?_
 refine s_op (k_gtr (by exact l_bin rfl rfl (b_gtr (r := true) (decide_eq_true ((cmp_gt m 1).2 h1))))) ?_
 refine s_op k_as ?_
 refine s_nil (by kernel_rfl) ?_
 refine n_wp (w_seq (qz hP hn ?_))
 refine o3 ?_
 refine s_nil trivial (n_wp (w_block ?_))
 refine c_loop (fun m_ T H => ∃ i, i ≤ L.length ∧ m_ = L.length - i ∧ T = [(2, .s (.ptr 0 0 0)), (4, .s (.ptr 1 0 0)), (6, .s (.bool true)), (13, .s (NUMS L)), (14, .s (.int .i64 ((L.length : Nat) : Int))), (15, .s (.int .i64 ((i : Nat) : Int)))] ∧ H = [some ⟨true, [.ints .u64 4 (zs (wd m))]⟩, some ⟨true, [.one (.val .nilFunc), .one (.val .nilFunc), .one (.val .nilFunc)]⟩]) (L.length) ⟨0, by omega, rfl, rfl, rfl⟩ (wk hE []) ?_
 rintro n_ T_ H_ ⟨i, hi, rfl, rfl, rfl⟩
 refine qz hP hn ?_
 refine s_op k_lss ?_
 refine s_nil trivial (n_wp (w_seq ?_))
 refine w_if rfl (fun h_t16 => ?_) (fun h_t16 => ?_)
 · refine w_skip (n_wp (w_seq (w_block (qz hP hn ?_))))
   refine s_op k_ix ?_
   refine s_op (k_ld (by exact l_loadf_agg (segs := (L.map NR).getD i []) (sub := [.ints .u64 4 (zs (wd (L.getD i 0)))]) rfl (Nat.le_refl _) (nums_at L i h_t16) Ag.h Sz.h)) ?_
   refine s_op k_al ?_
   refine s_st k_st ?_
   refine qy hP hn ?_
   refine o2 ?_
   refine s_on rfl rfl rfl k_ld ?_
   refine s_on rfl rfl rfl k_ld ?_
   refine s_on rfl rfl rfl (k_call [] (con := cmp_n (L.getD i 0) m (by have := hL i h_t16; omega) hm)) ?_
   refine s_on rfl rfl rfl (k_lss (by exact l_bin rfl rfl (b_lss (r := true) (decide_eq_true ((cmp_l _ m).2 (hL i h_t16)))))) ?_
   refine o2 ?_
   refine s_nil trivial (n_blo (n_wp (g_reg hP hn ?_)))
   refine o2 ?_
   refine s_nil trivial ?_
   exact n_round (L.length - (i + 1)) (by omega) ⟨i + 1, by omega, rfl, rfl, rfl⟩ (wk hE [])
 · refine w_exit (x_thn (x_thn (x_eq (n_wp (w_seq (qz hP hn ?_))))))
   refine o2 ?_
   refine s_nil trivial (n_wp ?_)
   refine w_F rfl ?_ 
   refine w_skip (n_wp (qz hP hn ?_))
   refine s_op k_ld ?_
   refine s_op (k_call [] (con := by_n m hm)) ?_
   refine s_st k_st ?_
   refine s_op k_as ?_
   refine s_nil trivial (n_wp (w_ret ?_))
   exact d_ret hP hn hE [] (ret2 Tryz.results126 r_cella (by first | exact ri_tmp rfl | exact ri_tmpa rfl))

theorem mmul_n (a b m : Nat) (ha : a < m) (hb : b < m) (hm : m < 2 ^ 256) (h1 : 1 < m) : Con Tryz.prog 116 [.agg [.ints .u64 4 (zs (wd a))], .agg [.ints .u64 4 (zs (wd b))], .agg [.ints .u64 4 (zs (wd m))]] [] (.tup [.agg [.ints .u64 4 (zs (wd (a * b % m)))], .s (.int .i64 0)]) [] := by
 refine con_in 27 Tryz.func116 rfl rfl (m := 0) rfl ?_
 intro E hP hn hE
 refine qz hP hn ?_
 refine s_op k_bx ?_
 refine s_op k_bx ?_
 refine s_op k_bx ?_
 refine o2 ?_
 refine qx hP hn ?_
 refine o3 ?_
 refine s_op (k_bsR [NR a, NR b]) ?_
 refine s_op (k_call [] (con := goes_n m [a, b] hm h1 (fun i hi => by match i, hi with | 0, _ => exact ha | 1, _ => exact hb) (Nat.le_of_ble_eq_true rfl))) ?_
 refine o4 ?_
 refine s_st k_st ?_
 refine s_op k_as ?_
 refine s_nil trivial (n_wp (w_seq (qz hP hn ?_)))
 refine o2 ?_
 refine s_nil trivial (n_wp ?_)
 refine w_F rfl ?_ 
 refine w_skip (n_wp (qz hP hn ?_))
 refine o4 ?_
 refine s_op (k_callN [MP m] (con := times_n a b m ha hb hm)) ?_
 refine s_st k_st ?_
 refine s_op k_as ?_
 refine s_nil trivial (n_wp (w_ret ?_))
 exact d_ret hP hn hE [] (ret2 Tryz.results116 r_cella (by first | exact ri_tmp rfl | exact ri_tmpa rfl))

theorem madd_n (a b m : Nat) (ha : a < m) (hb : b < m) (hm : m < 2 ^ 256) (h1 : 1 < m) : Con Tryz.prog 117 [.agg [.ints .u64 4 (zs (wd a))], .agg [.ints .u64 4 (zs (wd b))], .agg [.ints .u64 4 (zs (wd m))]] [] (.tup [.agg [.ints .u64 4 (zs (wd ((a + b) % m)))], .s (.int .i64 0)]) [] := by
 refine con_in 27 Tryz.func117 rfl rfl (m := 0) rfl ?_
 intro E hP hn hE
 refine qz hP hn ?_
 refine s_op k_bx ?_
 refine s_op k_bx ?_
 refine s_op k_bx ?_
 refine o2 ?_
 refine qx hP hn ?_
 refine o3 ?_
 refine s_op (k_bsR [NR a, NR b]) ?_
 refine s_op (k_call [] (con := goes_n m [a, b] hm h1 (fun i hi => by match i, hi with | 0, _ => exact ha | 1, _ => exact hb) (Nat.le_of_ble_eq_true rfl))) ?_
 refine o4 ?_
 refine s_st k_st ?_
 refine s_op k_as ?_
 refine s_nil trivial (n_wp (w_seq (qz hP hn ?_)))
 refine o2 ?_
 refine s_nil trivial (n_wp ?_)
 refine w_F rfl ?_ 
 refine w_skip (n_wp (qz hP hn ?_))
 refine o4 ?_
 refine s_op (k_callN [MP m] (con := plus_n a b m ha hb hm)) ?_
 refine s_st k_st ?_
 refine s_op k_as ?_
 refine s_nil trivial (n_wp (w_ret ?_))
 exact d_ret hP hn hE [] (ret2 Tryz.results117 r_cella (by first | exact ri_tmp rfl | exact ri_tmpa rfl))

theorem may_n (p q g : Nat) (hp : p < 2 ^ 256) (hq : q < 2 ^ 256) (hg : g < 2 ^ 256) (a : Nat) (ha : a < 2 ^ 256) : Con Tryz.prog 102 [.agg (GRP p q g), .agg [.ints .u64 4 (zs (wd a))]] [] (.s (.bool (mayP p a))) [] := by
 refine con_in 24 Tryz.func102 rfl rfl (m := 0) rfl ?_
 intro E hP hn hE
 refine qz hP hn ?_
 refine s_op k_bx ?_
 refine s_op k_bx ?_
 refine s_op k_as ?_
 refine s_nil trivial (n_wp (w_seq ?_))
 refine g_any hP hn ?_
 refine o3 ?_
 refine s_op (k_call [] (con := gone_n)) ?_
 refine s_op (k_call [] (con := cmp_n p 1 hp (by omega))) ?_
 refine s_op (k_gt0 p 1) ?_
 refine s_op k_mv ?_
 refine s_opt rfl rfl (fun hB => by rw [hB]; (try simp only [Bool.or_eq_true, Bool.or_eq_false_iff, Bool.and_eq_true, Bool.not_eq_true', Bool.not_eq_false', decide_eq_true_eq, decide_eq_false_iff_not] at hB); exact k_ld) ?_
 refine s_opt rfl rfl (fun hB => by rw [hB]; (try simp only [Bool.or_eq_true, Bool.or_eq_false_iff, Bool.and_eq_true, Bool.not_eq_true', Bool.not_eq_false', decide_eq_true_eq, decide_eq_false_iff_not] at hB); exact k_call [] (con := of_n 0 (by omega))) ?_
 refine s_opt rfl rfl (fun hB => by rw [hB]; (try simp only [Bool.or_eq_true, Bool.or_eq_false_iff, Bool.and_eq_true, Bool.not_eq_true', Bool.not_eq_false', decide_eq_true_eq, decide_eq_false_iff_not] at hB); exact k_neN a 0 ha (by omega)) ?_
 refine o2 ?_
 refine s_opt rfl rfl (fun hB => by rw [hB]; (try simp only [Bool.or_eq_true, Bool.or_eq_false_iff, Bool.and_eq_true, Bool.not_eq_true', Bool.not_eq_false', decide_eq_true_eq, decide_eq_false_iff_not] at hB); exact k_ld) ?_
 refine s_opt rfl rfl (fun hB => by rw [hB]; (try simp only [Bool.or_eq_true, Bool.or_eq_false_iff, Bool.and_eq_true, Bool.not_eq_true', Bool.not_eq_false', decide_eq_true_eq, decide_eq_false_iff_not] at hB); exact k_fa) ?_
 refine s_opt rfl rfl (fun hB => by rw [hB]; (try simp only [Bool.or_eq_true, Bool.or_eq_false_iff, Bool.and_eq_true, Bool.not_eq_true', Bool.not_eq_false', decide_eq_true_eq, decide_eq_false_iff_not] at hB); exact k_fa) ?_
 refine s_opt rfl rfl (fun hB => by rw [hB]; (try simp only [Bool.or_eq_true, Bool.or_eq_false_iff, Bool.and_eq_true, Bool.not_eq_true', Bool.not_eq_false', decide_eq_true_eq, decide_eq_false_iff_not] at hB); exact k_ld) ?_
 refine s_opt rfl rfl (fun hB => by rw [hB]; (try simp only [Bool.or_eq_true, Bool.or_eq_false_iff, Bool.and_eq_true, Bool.not_eq_true', Bool.not_eq_false', decide_eq_true_eq, decide_eq_false_iff_not] at hB); exact k_call [] (con := cmp_n a p ha hp)) ?_
 refine s_opt rfl rfl (fun hB => by rw [hB]; (try simp only [Bool.or_eq_true, Bool.or_eq_false_iff, Bool.and_eq_true, Bool.not_eq_true', Bool.not_eq_false', decide_eq_true_eq, decide_eq_false_iff_not] at hB); exact k_lt0 a p) ?_
 refine o2 ?_
 refine s_nil (by kernel_rfl) ?_
 refine n_wp (w_ret ?_)
 exact d_ret hP hn hE [] (by first | exact r_tmp Tryz.results102 | exact r_tmpa Tryz.results102)

end Go.Proofs.X
end
