/- A part of the proofs of this claim: BMod1, BMod2, BMod3, BRow1, BSha1, BSha2, BSha3, BMac1, BMac2. No conditions. -/
import Derived.Test.YthgaljeppjdonaaGreatC6
import Derived.Test.YthgaljeppjdonaaGreatC4
set_option linter.unusedVariables false
set_option linter.unusedSimpArgs false
section
open Go Go.Bx Go.Proofs
namespace Go.Proofs.X
theorem half64 {a b m : Nat} (ha : a < m) (hb : b < m) (hm : m < 18446744073709551616) : a * b / 18446744073709551616 < 18446744073709551616 := by
 have h1 : a * b ≤ a * 18446744073709551616 := Nat.mul_le_mul_left _ (by omega)
 exact Nat.div_lt_of_lt_mul (by omega)
attribute [local irreducible] bitsN wd dg cmpI subN undN shN
set_option maxRecDepth 100000 in
set_option maxHeartbeats 4000000 in
theorem one_n  : Con Tryz.prog 119 [] [] (.agg [.ints .u64 4 (zs (wd 1))]) [] := by
 refine con_in 2 Tryz.func119 rfl rfl (m := 0) rfl ?_
 intro E hP hn hE
 refine w_seq ?_
 refine g_reg hP hn ?_
 refine s_op k_al ?_
 refine s_nil trivial ?_
 refine n_wp ?_
 refine w_seq ?_
 refine g_reg hP hn ?_
 refine s_op (k_call [] (con := of_n 1 (by omega))) ?_
 refine s_st k_st ?_
 refine s_nil trivial ?_
 refine n_wp ?_
 refine w_ret ?_
 exact d_ret hP hn hE [] (r_cell Tryz.results119)

set_option maxRecDepth 100000 in
set_option maxHeartbeats 4000000 in
theorem gone_n  : Con Tryz.prog 87 [] [] (.agg [.ints .u64 4 (zs (wd 1))]) [] := by
 refine con_in 2 Tryz.func87 rfl rfl (m := 0) rfl ?_
 intro E hP hn hE
 refine w_seq ?_
 refine g_reg hP hn ?_
 refine s_op k_al ?_
 refine s_nil trivial ?_
 refine n_wp ?_
 refine w_seq ?_
 refine g_reg hP hn ?_
 refine s_op (k_call [] (con := of_n 1 (by omega))) ?_
 refine s_st k_st ?_
 refine s_nil trivial ?_
 refine n_wp ?_
 refine w_ret ?_
 exact d_ret hP hn hE [] (r_cell Tryz.results87)

/-- How products go. -/
def TM (m : Nat) : Nat := if bitsN m ≤ 64 then 137 else 135
instance tm_clb (m : Nat) : Clb Tryz.prog (TM m) := by unfold TM; split <;> infer_instance
abbrev RG (m : Nat) : List Seg := [.one (.noid (.clo 134 1 (capF [MP m]))), .one (.noid (.clo 132 1 (capF [MP m]))), .one (.noid (.clo (TM m) 1 (capF [MP m])))]

set_option maxRecDepth 100000 in
set_option maxHeartbeats 4000000 in
theorem by_s (m : Nat) (hm : m < 2 ^ 256) (h : bitsN m ≤ 64) : Con Tryz.prog 120 [.agg [.ints .u64 4 (zs (wd m))]] [] (.agg [.one (.noid (.clo 134 1 (capF [MP m]))), .one (.noid (.clo 132 1 (capF [MP m]))), .one (.noid (.clo 137 1 (capF [MP m])))]) [] := by
 refine con_in 15 Tryz.func120 rfl rfl (m := 0) rfl ?_
 intro E hP hn hE
 refine w_seq ?_
 refine g_reg hP hn ?_
 refine s_op k_bxf ?_
 refine s_op k_al ?_
 refine s_nil trivial ?_
 refine n_wp ?_
 refine w_seq ?_
 refine g_reg hP hn ?_
 refine s_op (k_fnN [MP m]) ?_
 refine s_op k_fa ?_
 refine s_st k_st ?_
 refine s_nil trivial ?_
 refine n_wp ?_
 refine w_seq ?_
 refine g_reg hP hn ?_
 refine s_op (k_fnN [MP m]) ?_
 refine s_op k_fa ?_
 refine s_st k_st ?_
 refine s_nil trivial ?_
 refine n_wp ?_
 refine w_seq ?_
 refine g_reg hP hn ?_
 refine s_op (k_fnN [MP m]) ?_
 refine s_op k_fa ?_
 refine s_st k_st ?_
 refine s_nil trivial ?_
 refine n_wp ?_
 refine w_seq ?_
 refine w_seq ?_
 refine g_reg hP hn ?_
 refine s_op k_ld ?_
 refine s_op (k_call [] (con := bits_n m hm)) ?_
 refine s_op k_leq ?_
 refine s_nil trivial ?_
 refine n_wp ?_
 refine w_T rfl ?_ 
 refine g_reg hP hn ?_
 refine s_op (k_fnN [MP m]) ?_
 refine s_op k_fa ?_
 refine s_st k_st ?_
 refine s_nil trivial ?_
 refine n_wp ?_
 refine w_seq ?_
 refine g_reg hP hn ?_
 refine s_op k_ld ?_
 refine s_st k_st ?_
 refine s_nil trivial ?_
 refine n_wp ?_
 refine w_ret ?_
 exact d_ret hP hn hE [] (r_cell Tryz.results120)

set_option maxRecDepth 100000 in
set_option maxHeartbeats 4000000 in
theorem by_l (m : Nat) (hm : m < 2 ^ 256) (h : ¬ bitsN m ≤ 64) : Con Tryz.prog 120 [.agg [.ints .u64 4 (zs (wd m))]] [] (.agg [.one (.noid (.clo 134 1 (capF [MP m]))), .one (.noid (.clo 132 1 (capF [MP m]))), .one (.noid (.clo 135 1 (capF [MP m])))]) [] := by
 refine con_in 15 Tryz.func120 rfl rfl (m := 0) rfl ?_
 intro E hP hn hE
 refine w_seq ?_
 refine g_reg hP hn ?_
 refine s_op k_bxf ?_
 refine s_op k_al ?_
 refine s_nil trivial ?_
 refine n_wp ?_
 refine w_seq ?_
 refine g_reg hP hn ?_
 refine s_op (k_fnN [MP m]) ?_
 refine s_op k_fa ?_
 refine s_st k_st ?_
 refine s_nil trivial ?_
 refine n_wp ?_
 refine w_seq ?_
 refine g_reg hP hn ?_
 refine s_op (k_fnN [MP m]) ?_
 refine s_op k_fa ?_
 refine s_st k_st ?_
 refine s_nil trivial ?_
 refine n_wp ?_
 refine w_seq ?_
 refine g_reg hP hn ?_
 refine s_op (k_fnN [MP m]) ?_
 refine s_op k_fa ?_
 refine s_st k_st ?_
 refine s_nil trivial ?_
 refine n_wp ?_
 refine w_seq ?_
 refine w_seq ?_
 refine g_reg hP hn ?_
 refine s_op k_ld ?_
 refine s_op (k_call [] (con := bits_n m hm)) ?_
 refine s_op k_leq ?_
 refine s_nil trivial ?_
 refine n_wp ?_
 refine w_F rfl ?_ 
 refine w_skip ?_
 refine n_wp ?_
 refine w_seq ?_
 refine g_reg hP hn ?_
 refine s_op k_ld ?_
 refine s_st k_st ?_
 refine s_nil trivial ?_
 refine n_wp ?_
 refine w_ret ?_
 exact d_ret hP hn hE [] (r_cell Tryz.results120)

theorem by_n (m : Nat) (hm : m < 2 ^ 256) : Con Tryz.prog 120 [.agg [.ints .u64 4 (zs (wd m))]] [] (.agg (RG m)) [] := by
 by_cases h : bitsN m ≤ 64
 · have := by_s m hm h
   rwa [← show TM m = 137 from if_pos h] at this
 · have := by_l m hm h
   rwa [← show TM m = 135 from if_neg h] at this

set_option maxRecDepth 100000 in
set_option maxHeartbeats 4000000 in
theorem plus_n (a b m : Nat) (ha : a < m) (hb : b < m) (hm : m < 2 ^ 256) : Con Tryz.prog 134 [.agg [.ints .u64 4 (zs (wd a))], .agg [.ints .u64 4 (zs (wd b))], .s (MP m)] [] (.agg [.ints .u64 4 (zs (wd ((a + b) % m)))]) [] := by
 refine con_in 32 Tryz.func134 rfl rfl (m := 0) rfl ?_
 intro E hP hn hE
 refine w_seq ?_
 refine g_reg hP hn ?_
 refine s_op k_bx ?_
 refine s_op k_bx ?_
 refine s_op k_al ?_
 refine s_nil trivial ?_
 refine n_wp ?_
 refine w_seq ?_
 refine g_reg hP hn ?_
 refine s_op k_ld ?_
 refine s_op k_ld ?_
 refine s_op (k_call [] (con := sub_n m b hm (by omega))) ?_
 refine s_op k_mv ?_
 refine s_op k_ex ?_
 refine s_op k_ex ?_
 refine s_op k_al ?_
 refine s_st k_st ?_
 refine s_op k_as ?_
 refine s_nil trivial ?_
 refine n_wp ?_
 refine w_seq ?_
 refine w_seq ?_
 refine g_reg hP hn ?_
 refine s_op k_ld ?_
 refine s_op k_ld ?_
 refine s_op (k_call [] (con := cmp_n a (subN m b) (by omega) (subN_lt _ _))) ?_
 refine s_op (k_ge0 a (subN m b)) ?_
 refine s_nil trivial ?_
 refine n_wp ?_
 refine w_if rfl (fun h_t17 => ?_) (fun h_t17 => ?_)
 · skip
   rw [subN_le hm (by omega)] at h_t17
   refine w_seq ?_
   refine g_reg hP hn ?_
   refine s_op k_ld ?_
   refine s_op k_ld ?_
   refine s_op (k_call [] (con := sub_n a (subN m b) (by omega) (subN_lt _ _))) ?_
   refine s_op k_mv ?_
   refine s_op k_ex ?_
   refine s_op k_ex ?_
   refine s_st k_st ?_
   refine s_nil trivial ?_
   refine n_wp ?_
   refine w_seq ?_
   rw [plus_yes ha hb hm h_t17]
   refine g_reg hP hn ?_
   refine s_op k_ld ?_
   refine s_st k_st ?_
   refine s_nil trivial ?_
   refine n_wp ?_
   refine w_ret ?_
   refine r_thn ?_
   exact d_ret hP hn hE [] (r_cell Tryz.results134)
 · skip
   rw [subN_le hm (by omega)] at h_t17
   refine w_skip ?_
   refine n_wp ?_
   refine w_seq ?_
   refine g_reg hP hn ?_
   refine s_op k_ld ?_
   refine s_op k_ld ?_
   refine s_op (k_call [] (con := add_n a b (by omega) (by omega))) ?_
   refine s_op k_mv ?_
   refine s_op k_ex ?_
   refine s_op k_ex ?_
   refine s_st k_st ?_
   refine s_nil trivial ?_
   refine n_wp ?_
   refine w_seq ?_
   rw [show wd (a + b) = wd ((a + b) % m) by rw [← plus_no hb h_t17]]
   refine g_reg hP hn ?_
   refine s_op k_ld ?_
   refine s_st k_st ?_
   refine s_nil trivial ?_
   refine n_wp ?_
   refine w_ret ?_
   exact d_ret hP hn hE [] (r_cell Tryz.results134)

set_option maxRecDepth 100000 in
set_option maxHeartbeats 4000000 in
theorem times3_n (a b m : Nat) (ha : a < m) (hb : b < m) (hm : m < 2 ^ 256) : Con Tryz.prog 135 [.agg [.ints .u64 4 (zs (wd a))], .agg [.ints .u64 4 (zs (wd b))], .s (MP m)] [] (.agg [.ints .u64 4 (zs (wd (a * b % m)))]) [] := by
 refine con_in 24 Tryz.func135 rfl rfl (m := 0) rfl ?_
 intro E hP hn hE
 refine w_seq ?_
 refine g_reg hP hn ?_
 refine s_op k_bx ?_
 refine s_op k_bx ?_
 refine s_op k_al ?_
 refine s_nil trivial ?_
 refine n_wp ?_
 refine w_seq ?_
 refine g_reg hP hn ?_
 refine s_op k_ld ?_
 refine s_op k_ld ?_
 refine s_op (k_call [] (con := mul_n a b (by omega) (by omega))) ?_
 refine s_op k_mv ?_
 refine s_op k_ex ?_
 refine s_op k_ex ?_
 refine s_op k_al ?_
 refine s_op k_al ?_
 refine s_st k_st ?_
 refine s_st k_st ?_
 refine s_nil trivial ?_
 refine n_wp ?_
 refine w_seq ?_
 rw [← wd_mod (a * b)]
 refine g_reg hP hn ?_
 refine s_op k_ld ?_
 refine s_op k_ld ?_
 refine s_op k_ld ?_
 refine s_op (k_call [] (con := wide_n ((a * b) % 2 ^ 256) (a * b / 2 ^ 256) m (Nat.mod_lt _ (by omega)) (by have := mul_fit (show a < 2 ^ 256 by omega) (show b < 2 ^ 256 by omega); rw [show (4294967296 : Nat) ^ 16 = 2 ^ 256 * 2 ^ 256 from rfl] at this; exact Nat.div_lt_of_lt_mul this) hm (by omega))) ?_
 refine s_op k_mv ?_
 refine s_op k_ex ?_
 refine s_op k_ex ?_
 refine s_op k_al ?_
 refine s_st k_st ?_
 refine s_op k_as ?_
 refine s_nil trivial ?_
 refine n_wp ?_
 refine w_seq ?_
 rw [times_l]
 refine g_reg hP hn ?_
 refine s_op k_ld ?_
 refine s_st k_st ?_
 refine s_nil trivial ?_
 refine n_wp ?_
 refine w_ret ?_
 exact d_ret hP hn hE [] (r_cell Tryz.results135)

set_option maxRecDepth 100000 in
set_option maxHeartbeats 4000000 in
theorem times4_n (a b m : Nat) (ha : a < m) (hb : b < m) (hm : m < 2 ^ 256) (h64 : bitsN m ≤ 64) : Con Tryz.prog 137 [.agg [.ints .u64 4 (zs (wd a))], .agg [.ints .u64 4 (zs (wd b))], .s (MP m)] [] (.agg [.ints .u64 4 (zs (wd (a * b % m)))]) [] := by
 refine con_in 22 Tryz.func137 rfl rfl (m := 0) rfl ?_
 intro E hP hn hE
 have hm64 := bits64 h64
 refine w_seq ?_
 refine g_reg hP hn ?_
 refine s_op k_bx ?_
 refine s_op k_bx ?_
 refine s_op k_al ?_
 refine s_nil trivial ?_
 refine n_wp ?_
 refine w_seq ?_
 refine g_reg hP hn ?_
 refine s_op k_ix ?_
 refine s_op k_ld ?_
 refine s_op k_ix ?_
 refine s_op k_ld ?_
 rw [zs_getD (wd a), zs_getD (wd b), wd_low a (by omega), wd_low b (by omega)]
 refine s_op (k_call [] (con := mul64_n a b (by omega) (by omega))) ?_
 refine s_op k_mv ?_
 refine s_op k_ex ?_
 refine s_op k_ex ?_
 refine s_op k_as ?_
 refine s_op k_as ?_
 refine s_nil trivial ?_
 refine n_wp ?_
 refine w_seq ?_
 refine g_reg hP hn ?_
 refine s_op k_mv ?_
 refine s_op k_mv ?_
 refine s_op k_ix ?_
 refine s_op k_ld ?_
 rw [zs_getD (wd m), wd_low m hm64]
 refine s_op (k_call [] (con := rem64_n (a * b / 18446744073709551616) (a * b % 18446744073709551616) m (by omega) hm64 (by have := half64 ha hb hm64; omega) (Nat.mod_lt _ (by omega)))) ?_
 refine s_op (k_call [] (con := of_n _ (by rw [times_s]; have := Nat.mod_lt (a * b) (show 0 < m by omega); omega))) ?_
 refine s_st k_st ?_
 refine s_nil trivial ?_
 refine n_wp ?_
 rw [times_s]
 refine w_ret ?_
 exact d_ret hP hn hE [] (r_cell Tryz.results137)

theorem times_n (a b m : Nat) (ha : a < m) (hb : b < m) (hm : m < 2 ^ 256) : Con Tryz.prog (TM m) [.agg [.ints .u64 4 (zs (wd a))], .agg [.ints .u64 4 (zs (wd b))], .s (MP m)] [] (.agg [.ints .u64 4 (zs (wd (a * b % m)))]) [] := by
 by_cases h : bitsN m ≤ 64
 · rw [show TM m = 137 from if_pos h]; exact times4_n a b m ha hb hm h
 · rw [show TM m = 135 from if_neg h]; exact times3_n a b m ha hb hm

set_option maxRecDepth 100000 in
set_option maxHeartbeats 4000000 in
theorem goes_n (m : Nat) (L : List Nat) (hm : m < 2 ^ 256) (h1 : 1 < m) (hL : ∀ i, i < L.length → L.getD i 0 < m) (hLb : L.length ≤ 1000000) : Con Tryz.prog 103 [.agg [.ints .u64 4 (zs (wd m))], .s (NUMS L)] [] (.tup [.agg (RG m), .s (.int .i64 0)]) [] := by
 refine con_in 32 Tryz.func103 rfl rfl (m := 0) rfl ?_
 intro E hP hn hE
 refine w_seq ?_
 refine g_reg hP hn ?_
 refine s_op k_bx ?_
 refine s_op k_al ?_
 refine s_op k_as ?_
 refine s_nil trivial ?_
 refine n_wp ?_
 refine w_seq ?_
 refine g_any hP hn ?_
 refine s_op k_ld ?_
 refine s_op (k_call [] (con := one_n)) ?_
 refine s_op (k_call [] (con := cmp_n m 1 hm (by omega))) ?_
 refine s_op (k_gtr (by exact l_bin rfl rfl (b_gtr (r := true) (decide_eq_true ((cmp_gt m 1).2 h1))))) ?_
 refine s_op k_as ?_
 refine s_nil (by kernel_rfl) ?_
 refine n_wp ?_
 refine w_seq ?_
 refine w_seq ?_
 refine g_reg hP hn ?_
 refine s_op k_mv ?_
 refine s_op k_len ?_
 refine s_op k_mv ?_
 refine s_nil trivial ?_
 refine n_wp ?_
 refine w_block ?_
 refine c_loop (fun m_ T H => ∃ i, i ≤ L.length ∧ m_ = L.length - i ∧ T = [(2, .s (.ptr 0 0 0)), (4, .s (.ptr 1 0 0)), (6, .s (.bool true)), (13, .s (NUMS L)), (14, .s (.int .i64 ((L.length : Nat) : Int))), (15, .s (.int .i64 ((i : Nat) : Int)))] ∧ H = [some ⟨true, [.ints .u64 4 (zs (wd m))]⟩, some ⟨true, [.one (.val .nilFunc), .one (.val .nilFunc), .one (.val .nilFunc)]⟩]) (L.length) ⟨0, by omega, rfl, rfl, rfl⟩ (wk hE []) ?_
 rintro n_ T_ H_ ⟨i, hi, rfl, rfl, rfl⟩
 refine w_seq ?_
 refine g_reg hP hn ?_
 refine s_op k_lss ?_
 refine s_nil trivial ?_
 refine n_wp ?_
 refine w_seq ?_
 refine w_if rfl (fun h_t16 => ?_) (fun h_t16 => ?_)
 · skip
   refine w_skip ?_
   refine n_wp ?_
   refine w_seq ?_
   refine w_block ?_
   refine w_seq ?_
   refine g_reg hP hn ?_
   refine s_op k_ix ?_
   refine s_op (k_ld (by exact l_loadf_agg (segs := (L.map NR).getD i []) (sub := [.ints .u64 4 (zs (wd (L.getD i 0)))]) rfl (Nat.le_refl _) (nums_at L i h_t16) Ag.h Sz.h)) ?_
   refine s_op k_al ?_
   refine s_st k_st ?_
   refine s_nil trivial ?_
   refine n_wp ?_
   refine g_reg hP hn ?_
   refine s_op k_mv ?_
   refine s_op k_mv ?_
   refine s_on rfl rfl rfl k_ld ?_
   refine s_on rfl rfl rfl k_ld ?_
   refine s_on rfl rfl rfl (k_call [] (con := cmp_n (L.getD i 0) m (by have := hL i h_t16; omega) hm)) ?_
   refine s_on rfl rfl rfl (k_lss (by exact l_bin rfl rfl (b_lss (r := true) (decide_eq_true ((cmp_l _ m).2 (hL i h_t16)))))) ?_
   refine s_op k_pk ?_
   refine s_op k_as ?_
   refine s_nil trivial ?_
   refine n_blo ?_
   refine n_wp ?_
   refine g_reg hP hn ?_
   refine s_op k_add ?_
   refine s_op k_mv ?_
   refine s_nil trivial ?_
   exact n_round (L.length - (i + 1)) (by omega) ⟨i + 1, by omega, rfl, rfl, rfl⟩ (wk hE [])
 · skip
   refine w_exit ?_
   refine x_thn ?_
   refine x_thn ?_
   refine x_eq ?_
   refine n_wp ?_
   refine w_seq ?_
   refine w_seq ?_
   refine g_reg hP hn ?_
   refine s_op k_mv ?_
   refine s_op k_not ?_
   refine s_nil trivial ?_
   refine n_wp ?_
   refine w_F rfl ?_ 
   refine w_skip ?_
   refine n_wp ?_
   refine w_seq ?_
   refine g_reg hP hn ?_
   refine s_op k_ld ?_
   refine s_op (k_call [] (con := by_n m hm)) ?_
   refine s_st k_st ?_
   refine s_op k_as ?_
   refine s_nil trivial ?_
   refine n_wp ?_
   refine w_ret ?_
   exact d_ret hP hn hE [] (ret2 Tryz.results103 r_cella (by first | exact ri_tmp rfl | exact ri_tmpa rfl))

set_option maxRecDepth 100000 in
set_option maxHeartbeats 4000000 in
theorem mmul_n (a b m : Nat) (ha : a < m) (hb : b < m) (hm : m < 2 ^ 256) (h1 : 1 < m) : Con Tryz.prog 64 [.agg [.ints .u64 4 (zs (wd a))], .agg [.ints .u64 4 (zs (wd b))], .agg [.ints .u64 4 (zs (wd m))]] [] (.tup [.agg [.ints .u64 4 (zs (wd (a * b % m)))], .s (.int .i64 0)]) [] := by
 refine con_in 27 Tryz.func64 rfl rfl (m := 0) rfl ?_
 intro E hP hn hE
 refine w_seq ?_
 refine g_reg hP hn ?_
 refine s_op k_bx ?_
 refine s_op k_bx ?_
 refine s_op k_bx ?_
 refine s_op k_al ?_
 refine s_op k_as ?_
 refine s_nil trivial ?_
 refine n_wp ?_
 refine w_seq ?_
 refine g_reg hP hn ?_
 refine s_op k_ld ?_
 refine s_op k_ld ?_
 refine s_op k_ld ?_
 refine s_op (k_bsR [NR a, NR b]) ?_
 refine s_op (k_call [] (con := goes_n m [a, b] hm h1 (fun i hi => by match i, hi with | 0, _ => exact ha | 1, _ => exact hb) (Nat.le_of_ble_eq_true rfl))) ?_
 refine s_op k_mv ?_
 refine s_op k_ex ?_
 refine s_op k_ex ?_
 refine s_op k_al ?_
 refine s_st k_st ?_
 refine s_op k_as ?_
 refine s_nil trivial ?_
 refine n_wp ?_
 refine w_seq ?_
 refine w_seq ?_
 refine g_reg hP hn ?_
 refine s_op k_mv ?_
 refine s_op k_neq ?_
 refine s_nil trivial ?_
 refine n_wp ?_
 refine w_F rfl ?_ 
 refine w_skip ?_
 refine n_wp ?_
 refine w_seq ?_
 refine g_reg hP hn ?_
 refine s_op k_fa ?_
 refine s_op k_ld ?_
 refine s_op k_ld ?_
 refine s_op k_ld ?_
 refine s_op (k_callN [MP m] (con := times_n a b m ha hb hm)) ?_
 refine s_st k_st ?_
 refine s_op k_as ?_
 refine s_nil trivial ?_
 refine n_wp ?_
 refine w_ret ?_
 exact d_ret hP hn hE [] (ret2 Tryz.results64 r_cella (by first | exact ri_tmp rfl | exact ri_tmpa rfl))

set_option maxRecDepth 100000 in
set_option maxHeartbeats 4000000 in
theorem madd_n (a b m : Nat) (ha : a < m) (hb : b < m) (hm : m < 2 ^ 256) (h1 : 1 < m) : Con Tryz.prog 65 [.agg [.ints .u64 4 (zs (wd a))], .agg [.ints .u64 4 (zs (wd b))], .agg [.ints .u64 4 (zs (wd m))]] [] (.tup [.agg [.ints .u64 4 (zs (wd ((a + b) % m)))], .s (.int .i64 0)]) [] := by
 refine con_in 27 Tryz.func65 rfl rfl (m := 0) rfl ?_
 intro E hP hn hE
 refine w_seq ?_
 refine g_reg hP hn ?_
 refine s_op k_bx ?_
 refine s_op k_bx ?_
 refine s_op k_bx ?_
 refine s_op k_al ?_
 refine s_op k_as ?_
 refine s_nil trivial ?_
 refine n_wp ?_
 refine w_seq ?_
 refine g_reg hP hn ?_
 refine s_op k_ld ?_
 refine s_op k_ld ?_
 refine s_op k_ld ?_
 refine s_op (k_bsR [NR a, NR b]) ?_
 refine s_op (k_call [] (con := goes_n m [a, b] hm h1 (fun i hi => by match i, hi with | 0, _ => exact ha | 1, _ => exact hb) (Nat.le_of_ble_eq_true rfl))) ?_
 refine s_op k_mv ?_
 refine s_op k_ex ?_
 refine s_op k_ex ?_
 refine s_op k_al ?_
 refine s_st k_st ?_
 refine s_op k_as ?_
 refine s_nil trivial ?_
 refine n_wp ?_
 refine w_seq ?_
 refine w_seq ?_
 refine g_reg hP hn ?_
 refine s_op k_mv ?_
 refine s_op k_neq ?_
 refine s_nil trivial ?_
 refine n_wp ?_
 refine w_F rfl ?_ 
 refine w_skip ?_
 refine n_wp ?_
 refine w_seq ?_
 refine g_reg hP hn ?_
 refine s_op k_fa ?_
 refine s_op k_ld ?_
 refine s_op k_ld ?_
 refine s_op k_ld ?_
 refine s_op (k_callN [MP m] (con := plus_n a b m ha hb hm)) ?_
 refine s_st k_st ?_
 refine s_op k_as ?_
 refine s_nil trivial ?_
 refine n_wp ?_
 refine w_ret ?_
 exact d_ret hP hn hE [] (ret2 Tryz.results65 r_cella (by first | exact ri_tmp rfl | exact ri_tmpa rfl))

set_option maxRecDepth 100000 in
set_option maxHeartbeats 4000000 in
theorem may_n (p q g : Nat) (hp : p < 2 ^ 256) (hq : q < 2 ^ 256) (hg : g < 2 ^ 256) (a : Nat) (ha : a < 2 ^ 256) : Con Tryz.prog 112 [.agg (GRP p q g), .agg [.ints .u64 4 (zs (wd a))]] [] (.s (.bool (mayP p a))) [] := by
 refine con_in 24 Tryz.func112 rfl rfl (m := 0) rfl ?_
 intro E hP hn hE
 refine w_seq ?_
 refine g_reg hP hn ?_
 refine s_op k_bx ?_
 refine s_op k_bx ?_
 refine s_op k_as ?_
 refine s_nil trivial ?_
 refine n_wp ?_
 refine w_seq ?_
 refine g_any hP hn ?_
 refine s_op k_fa ?_
 refine s_op k_fa ?_
 refine s_op k_ld ?_
 refine s_op (k_call [] (con := gone_n)) ?_
 refine s_op (k_call [] (con := cmp_n p 1 hp (by omega))) ?_
 refine s_op (k_gt0 p 1) ?_
 refine s_op k_mv ?_
 refine s_opt rfl rfl (fun hB => by rw [hB]; try simp only [Bool.or_eq_true, Bool.or_eq_false_iff, Bool.and_eq_true, Bool.not_eq_true', Bool.not_eq_false', decide_eq_true_eq, decide_eq_false_iff_not] at hB; exact k_ld) ?_
 refine s_opt rfl rfl (fun hB => by rw [hB]; try simp only [Bool.or_eq_true, Bool.or_eq_false_iff, Bool.and_eq_true, Bool.not_eq_true', Bool.not_eq_false', decide_eq_true_eq, decide_eq_false_iff_not] at hB; exact k_call [] (con := of_n 0 (by omega))) ?_
 refine s_opt rfl rfl (fun hB => by rw [hB]; try simp only [Bool.or_eq_true, Bool.or_eq_false_iff, Bool.and_eq_true, Bool.not_eq_true', Bool.not_eq_false', decide_eq_true_eq, decide_eq_false_iff_not] at hB; exact k_neN a 0 ha (by omega)) ?_
 refine s_op k_pk ?_
 refine s_op k_mv ?_
 refine s_opt rfl rfl (fun hB => by rw [hB]; try simp only [Bool.or_eq_true, Bool.or_eq_false_iff, Bool.and_eq_true, Bool.not_eq_true', Bool.not_eq_false', decide_eq_true_eq, decide_eq_false_iff_not] at hB; exact k_ld) ?_
 refine s_opt rfl rfl (fun hB => by rw [hB]; try simp only [Bool.or_eq_true, Bool.or_eq_false_iff, Bool.and_eq_true, Bool.not_eq_true', Bool.not_eq_false', decide_eq_true_eq, decide_eq_false_iff_not] at hB; exact k_fa) ?_
 refine s_opt rfl rfl (fun hB => by rw [hB]; try simp only [Bool.or_eq_true, Bool.or_eq_false_iff, Bool.and_eq_true, Bool.not_eq_true', Bool.not_eq_false', decide_eq_true_eq, decide_eq_false_iff_not] at hB; exact k_fa) ?_
 refine s_opt rfl rfl (fun hB => by rw [hB]; try simp only [Bool.or_eq_true, Bool.or_eq_false_iff, Bool.and_eq_true, Bool.not_eq_true', Bool.not_eq_false', decide_eq_true_eq, decide_eq_false_iff_not] at hB; exact k_ld) ?_
 refine s_opt rfl rfl (fun hB => by rw [hB]; try simp only [Bool.or_eq_true, Bool.or_eq_false_iff, Bool.and_eq_true, Bool.not_eq_true', Bool.not_eq_false', decide_eq_true_eq, decide_eq_false_iff_not] at hB; exact k_call [] (con := cmp_n a p ha hp)) ?_
 refine s_opt rfl rfl (fun hB => by rw [hB]; try simp only [Bool.or_eq_true, Bool.or_eq_false_iff, Bool.and_eq_true, Bool.not_eq_true', Bool.not_eq_false', decide_eq_true_eq, decide_eq_false_iff_not] at hB; exact k_lt0 a p) ?_
 refine s_op k_pk ?_
 refine s_op k_as ?_
 refine s_nil (by kernel_rfl) ?_
 refine n_wp ?_
 refine w_ret ?_
 exact d_ret hP hn hE [] (by first | exact r_tmp Tryz.results112 | exact r_tmpa Tryz.results112)

end Go.Proofs.X
end

section
open Go Go.Bx Go.Proofs
namespace Go.Proofs.X
attribute [local irreducible] bitsN wd dg cmpI subN undN shN pO pB TM mayP Go.Bx.valOf
set_option maxRecDepth 100000 in
set_option maxHeartbeats 4000000 in
theorem mexp_n (a n m : Nat) (ha : a < m) (hnn : n < 2 ^ 256) (hm : m < 2 ^ 256) (h1 : 1 < m) : Con Tryz.prog 113 [.agg [.ints .u64 4 (zs (wd a))], .agg [.ints .u64 4 (zs (wd n))], .agg [.ints .u64 4 (zs (wd m))]] [] (.tup [.agg [.ints .u64 4 (zs (wd (a ^ n % m)))], .s (.int .i64 0)]) [] := by
 refine con_in 45 Tryz.func113 rfl rfl (m := 0) rfl ?_
 intro E hP hn hE
 have hn256 : n < 2 ^ 256 := hnn
 have hbn := bitsN_256 hn256
 refine w_seq ?_
 refine g_reg hP hn ?_
 refine s_op k_bx ?_
 refine s_op k_bx ?_
 refine s_op k_bx ?_
 refine s_op k_al ?_
 refine s_op k_as ?_
 refine s_nil trivial ?_
 refine n_wp ?_
 refine w_seq ?_
 refine g_reg hP hn ?_
 refine s_op k_ld ?_
 refine s_op k_ld ?_
 refine s_op (k_bsR [NR a]) ?_
 refine s_op (k_call [] (con := goes_n m [a] hm h1 (fun i hi => by match i, hi with | 0, _ => exact ha) (Nat.le_of_ble_eq_true rfl))) ?_
 refine s_op k_mv ?_
 refine s_op k_ex ?_
 refine s_op k_ex ?_
 refine s_op k_al ?_
 refine s_st k_st ?_
 refine s_op k_as ?_
 refine s_nil trivial ?_
 refine n_wp ?_
 refine w_seq ?_
 refine w_seq ?_
 refine g_reg hP hn ?_
 refine s_op k_mv ?_
 refine s_op k_neq ?_
 refine s_nil trivial ?_
 refine n_wp ?_
 refine w_F rfl ?_ 
 refine w_skip ?_
 refine n_wp ?_
 refine w_seq ?_
 refine g_reg hP hn ?_
 refine s_op (k_call [] (con := one_n)) ?_
 refine s_op k_al ?_
 refine s_st k_st ?_
 refine s_nil trivial ?_
 refine n_wp ?_
 refine w_seq ?_
 refine w_seq ?_
 refine g_reg hP hn ?_
 refine s_op k_ld ?_
 refine s_op (k_call [] (con := bits_n n hn256)) ?_
 refine s_op k_mv ?_
 refine s_nil trivial ?_
 refine n_wp ?_
 refine w_block ?_
 refine c_loop (fun m_ T H => ∃ i, i ≤ bitsN n ∧ m_ = bitsN n - i ∧ T = [(3, .s (.ptr 0 0 0)), (4, .s (.ptr 1 0 0)), (6, .s (.ptr 3 0 0)), (8, .s (.ptr 4 0 0)), (10, .s (.ptr 5 0 0)), (25, .s (.int .i64 ((bitsN n : Nat) : Int))), (26, .s (.int .i64 ((i : Nat) : Int)))] ∧ H = [some ⟨true, [.ints .u64 4 (zs (wd (pB a m i)))]⟩, some ⟨true, [.ints .u64 4 (zs (wd n))]⟩, some ⟨true, [.ints .u64 4 (zs (wd m))]⟩, some ⟨true, [.ints .u64 4 (zs (List.replicate 4 0))]⟩, some ⟨true, RG m⟩, some ⟨true, [.ints .u64 4 (zs (wd (pO a n m i)))]⟩]) ((bitsN n)) ⟨0, by omega, rfl, rfl, rfl⟩ (by rw [pB_0 ha, pO_0 h1]; exact wk hE [0, 1, 2, 3, 5, 6]) ?_
 rintro n_ T_ H_ ⟨i, hi, rfl, rfl, rfl⟩
 refine w_seq ?_
 refine g_reg hP hn ?_
 refine s_op k_lss ?_
 refine s_nil trivial ?_
 refine n_wp ?_
 refine w_seq ?_
 refine w_if rfl (fun h_t27 => ?_) (fun h_t27 => ?_)
 · skip
   refine w_skip ?_
   refine n_wp ?_
   refine w_seq ?_
   refine w_block ?_
   refine w_seq ?_
   refine g_reg hP hn ?_
   refine s_op k_mv ?_
   refine s_op k_as ?_
   refine s_nil trivial ?_
   refine n_wp ?_
   refine w_seq ?_
   refine w_seq ?_
   refine g_reg hP hn ?_
   refine s_op k_ld ?_
   refine s_op k_mv ?_
   refine s_op (k_call [] (con := bit_n n i (by omega))) ?_
   refine s_op k_eql ?_
   refine s_nil trivial ?_
   refine n_wp ?_
   refine w_if rfl (fun h_t32 => ?_) (fun h_t32 => ?_)
   · skip
     refine g_reg hP hn ?_
     refine s_op k_fa ?_
     refine s_op k_ld ?_
     refine s_op k_ld ?_
     refine s_op k_ld ?_
     refine s_op (k_callN [MP m] (con := times_n (pO a n m i) (pB a m i) m (pO_lt (by omega)) (pB_lt (by omega)) hm)) ?_
     refine s_st k_st ?_
     refine s_nil trivial ?_
     refine n_wp ?_
     try rw [pO_1 h_t32]
     refine g_reg hP hn ?_
     refine s_op k_fa ?_
     refine s_op k_ld ?_
     refine s_op k_ld ?_
     refine s_op k_ld ?_
     refine s_op (k_callN [MP m] (con := times_n (pB a m i) (pB a m i) m (pB_lt (by omega)) (pB_lt (by omega)) hm)) ?_
     refine s_st k_st ?_
     refine s_nil trivial ?_
     refine n_blo ?_
     refine n_wp ?_
     rw [pB_s]
     refine g_reg hP hn ?_
     refine s_op k_add ?_
     refine s_op k_mv ?_
     refine s_nil trivial ?_
     exact n_round (bitsN n - (i + 1)) (by omega) ⟨i + 1, by omega, rfl, rfl, rfl⟩ (wk hE [])
   · skip
     rw [pO_n h_t32]
     refine w_skip ?_
     refine n_wp ?_
     try rw [pO_1 h_t32]
     refine g_reg hP hn ?_
     refine s_op k_fa ?_
     refine s_op k_ld ?_
     refine s_op k_ld ?_
     refine s_op k_ld ?_
     refine s_op (k_callN [MP m] (con := times_n (pB a m i) (pB a m i) m (pB_lt (by omega)) (pB_lt (by omega)) hm)) ?_
     refine s_st k_st ?_
     refine s_nil trivial ?_
     refine n_blo ?_
     refine n_wp ?_
     rw [pB_s]
     refine g_reg hP hn ?_
     refine s_op k_add ?_
     refine s_op k_mv ?_
     refine s_nil trivial ?_
     exact n_round (bitsN n - (i + 1)) (by omega) ⟨i + 1, by omega, rfl, rfl, rfl⟩ (wk hE [])
 · skip
   have hi2 : i = bitsN n := by omega
   subst hi2
   rw [pO_e]
   refine w_exit ?_
   refine x_thn ?_
   refine x_thn ?_
   refine x_eq ?_
   refine n_wp ?_
   refine w_seq ?_
   refine g_reg hP hn ?_
   refine s_op k_ld ?_
   refine s_st k_st ?_
   refine s_op k_as ?_
   refine s_nil trivial ?_
   refine n_wp ?_
   refine w_ret ?_
   exact d_ret hP hn hE [] (ret2 Tryz.results113 r_cella (by first | exact ri_tmp rfl | exact ri_tmpa rfl))

set_option maxRecDepth 100000 in
set_option maxHeartbeats 4000000 in
theorem pow_n (p q g : Nat) (hp : p < 2 ^ 256) (hq : q < 2 ^ 256) (hg : g < 2 ^ 256) (a n : Nat) (ha : a < p) (hnn : n < 2 ^ 256) (h1 : 1 < p) : Con Tryz.prog 91 [.agg (PAIR p q g a n)] [] (.tup [.agg [.ints .u64 4 (zs (wd (a ^ n % p)))], .s (.int .i64 0)]) [] := by
 refine con_in 15 Tryz.func91 rfl rfl (m := 0) rfl ?_
 intro E hP hn hE
 refine w_seq ?_
 refine g_reg hP hn ?_
 refine s_op k_bx ?_
 refine s_op k_al ?_
 refine s_op k_as ?_
 refine s_nil trivial ?_
 refine n_wp ?_
 refine w_seq ?_
 refine g_reg hP hn ?_
 refine s_op k_fa ?_
 refine s_op k_ld ?_
 refine s_op k_fa ?_
 refine s_op k_ld ?_
 refine s_op k_fa ?_
 refine s_op k_fa ?_
 refine s_op k_fa ?_
 refine s_op k_ld ?_
 refine s_op (k_call [] (con := mexp_n a n p ha hnn hp h1)) ?_
 refine s_op k_ex ?_
 refine s_op k_ex ?_
 refine s_st k_st ?_
 refine s_op k_as ?_
 refine s_nil trivial ?_
 refine n_wp ?_
 refine w_ret ?_
 exact d_ret hP hn hE [] (ret2 Tryz.results91 r_cella (by first | exact ri_tmp rfl | exact ri_tmpa rfl))

set_option maxRecDepth 100000 in
set_option maxHeartbeats 4000000 in
theorem prod_n (p q g : Nat) (hp : p < 2 ^ 256) (hq : q < 2 ^ 256) (hg : g < 2 ^ 256) (a b : Nat) (ha : a < p) (hb : b < p) (h1 : 1 < p) : Con Tryz.prog 116 [.agg (PAIR p q g a b)] [] (.tup [.agg [.ints .u64 4 (zs (wd (a * b % p)))], .s (.int .i64 0)]) [] := by
 refine con_in 15 Tryz.func116 rfl rfl (m := 0) rfl ?_
 intro E hP hn hE
 refine w_seq ?_
 refine g_reg hP hn ?_
 refine s_op k_bx ?_
 refine s_op k_al ?_
 refine s_op k_as ?_
 refine s_nil trivial ?_
 refine n_wp ?_
 refine w_seq ?_
 refine g_reg hP hn ?_
 refine s_op k_fa ?_
 refine s_op k_ld ?_
 refine s_op k_fa ?_
 refine s_op k_ld ?_
 refine s_op k_fa ?_
 refine s_op k_fa ?_
 refine s_op k_fa ?_
 refine s_op k_ld ?_
 refine s_op (k_call [] (con := mmul_n a b p ha hb hp h1)) ?_
 refine s_op k_ex ?_
 refine s_op k_ex ?_
 refine s_st k_st ?_
 refine s_op k_as ?_
 refine s_nil trivial ?_
 refine n_wp ?_
 refine w_ret ?_
 exact d_ret hP hn hE [] (ret2 Tryz.results116 r_cella (by first | exact ri_tmp rfl | exact ri_tmpa rfl))

set_option maxRecDepth 100000 in
set_option maxHeartbeats 4000000 in
theorem all_pow (p q g : Nat) (hp : p < 2 ^ 256) (hq : q < 2 ^ 256) (hg : g < 2 ^ 256) (L : List Nat) (hL : ∀ i, i < L.length → L.getD i 0 < 2 ^ 256) (hLb : L.length ≤ 1000000) (a b r : Nat) (hok : ∀ i, i < L.length → mayP p (L.getD i 0) = true) (con : Con Tryz.prog 91 [.agg (PAIR p q g a b)] [] (.tup [.agg [.ints .u64 4 (zs (wd r))], .s (.int .i64 0)]) []) : Con Tryz.prog 90 [.agg (GRP p q g), .s (.val (.func (.func 91) #[Go.Bx.valOf (PAIR p q g a b)] #[])), .s (NUMS L)] [] (.tup [.agg [.ints .u64 4 (zs (wd r))], .s (.int .i64 0)]) [] := by
 refine con_in 26 Tryz.func90 rfl rfl (m := 0) rfl ?_
 intro E hP hn hE
 refine w_seq ?_
 refine g_reg hP hn ?_
 refine s_op k_bx ?_
 refine s_op k_al ?_
 refine s_op k_as ?_
 refine s_nil trivial ?_
 refine n_wp ?_
 refine w_seq ?_
 refine w_seq ?_
 refine g_reg hP hn ?_
 refine s_op k_mv ?_
 refine s_op k_len ?_
 refine s_op k_mv ?_
 refine s_nil trivial ?_
 refine n_wp ?_
 refine w_block ?_
 refine c_loop (fun m_ T H => ∃ i, i ≤ L.length ∧ m_ = L.length - i ∧ (∀ k, k < i → mayP p (L.getD k 0) = true) ∧ T = [(1, .s (.val (.func (.func 91) #[Go.Bx.valOf (PAIR p q g a b)] #[]))), (3, .s (.ptr 0 0 0)), (6, .s (.ptr 1 0 0)), (10, .s (NUMS L)), (11, .s (.int .i64 ((L.length : Nat) : Int))), (12, .s (.int .i64 ((i : Nat) : Int)))] ∧ H = [some ⟨true, GRP p q g⟩, some ⟨true, [.ints .u64 4 (zs (List.replicate 4 0))]⟩]) (L.length) ⟨0, by omega, rfl, fun k hk => absurd hk (Nat.not_lt_zero k), rfl, rfl⟩ (wk hE []) ?_
 rintro n_ T_ H_ ⟨i, hi, rfl, hup, rfl, rfl⟩
 refine w_seq ?_
 refine g_reg hP hn ?_
 refine s_op k_lss ?_
 refine s_nil trivial ?_
 refine n_wp ?_
 refine w_seq ?_
 refine w_if rfl (fun h_t13 => ?_) (fun h_t13 => ?_)
 · skip
   have hmay := hok i h_t13
   refine w_skip ?_
   refine n_wp ?_
   refine w_seq ?_
   refine w_block ?_
   refine w_seq ?_
   refine g_reg hP hn ?_
   refine s_op k_ix ?_
   refine s_op (k_ld (by exact l_loadf_agg (segs := (L.map NR).getD i []) (sub := [.ints .u64 4 (zs (wd (L.getD i 0)))]) rfl (Nat.le_refl _) (nums_at L i h_t13) Ag.h Sz.h)) ?_
   refine s_op k_al ?_
   refine s_st k_st ?_
   refine s_nil trivial ?_
   refine n_wp ?_
   refine w_seq ?_
   refine g_reg hP hn ?_
   refine s_op k_ld ?_
   refine s_op k_ld ?_
   refine s_op (k_call [] (con := may_n p q g hp hq hg (L.getD i 0) (hL i h_t13))) ?_
   refine s_op k_not ?_
   refine s_nil trivial ?_
   refine n_wp ?_
   refine w_F rfl ?_ (by rw [hmay]; rfl)
   refine w_skip ?_
   refine n_blo ?_
   refine n_wp ?_
   refine g_reg hP hn ?_
   refine s_op k_add ?_
   refine s_op k_mv ?_
   refine s_nil trivial ?_
   exact n_round (L.length - (i + 1)) (by omega) ⟨i + 1, by omega, rfl, fun k hk => (Nat.lt_succ_iff_lt_or_eq.1 hk).elim (hup k) (fun e => e ▸ hmay), rfl, rfl⟩ (wk hE [])
 · skip
   refine w_exit ?_
   refine x_thn ?_
   refine x_thn ?_
   refine x_eq ?_
   refine n_wp ?_
   refine w_seq ?_
   refine g_reg hP hn ?_
   refine s_op k_mv ?_
   refine s_op (k_callb (A := PAIR p q g a b) (con := con)) ?_
   refine s_op k_ex ?_
   refine s_op k_ex ?_
   refine s_st k_st ?_
   refine s_op k_as ?_
   refine s_nil trivial ?_
   refine n_wp ?_
   refine w_ret ?_
   exact d_ret hP hn hE [] (ret2 Tryz.results90 r_cella (by first | exact ri_tmp rfl | exact ri_tmpa rfl))

set_option maxRecDepth 100000 in
set_option maxHeartbeats 4000000 in
theorem allno_pow (p q g : Nat) (hp : p < 2 ^ 256) (hq : q < 2 ^ 256) (hg : g < 2 ^ 256) (L : List Nat) (hL : ∀ i, i < L.length → L.getD i 0 < 2 ^ 256) (hLb : L.length ≤ 1000000) (a b j : Nat) (hj : j < L.length) (hno : mayP p (L.getD j 0) = false)  : Con Tryz.prog 90 [.agg (GRP p q g), .s (.val (.func (.func 91) #[Go.Bx.valOf (PAIR p q g a b)] #[])), .s (NUMS L)] [] (.tup [.agg [.ints .u64 4 (zs (wd 0))], .s (.int .i64 1)]) [] := by
 refine con_in 26 Tryz.func90 rfl rfl (m := 0) rfl ?_
 intro E hP hn hE
 refine w_seq ?_
 refine g_reg hP hn ?_
 refine s_op k_bx ?_
 refine s_op k_al ?_
 refine s_op k_as ?_
 refine s_nil trivial ?_
 refine n_wp ?_
 refine w_seq ?_
 refine w_seq ?_
 refine g_reg hP hn ?_
 refine s_op k_mv ?_
 refine s_op k_len ?_
 refine s_op k_mv ?_
 refine s_nil trivial ?_
 refine n_wp ?_
 refine w_block ?_
 refine c_loop (fun m_ T H => ∃ i, i ≤ L.length ∧ m_ = L.length - i ∧ (∀ k, k < i → mayP p (L.getD k 0) = true) ∧ T = [(1, .s (.val (.func (.func 91) #[Go.Bx.valOf (PAIR p q g a b)] #[]))), (3, .s (.ptr 0 0 0)), (6, .s (.ptr 1 0 0)), (10, .s (NUMS L)), (11, .s (.int .i64 ((L.length : Nat) : Int))), (12, .s (.int .i64 ((i : Nat) : Int)))] ∧ H = [some ⟨true, GRP p q g⟩, some ⟨true, [.ints .u64 4 (zs (List.replicate 4 0))]⟩]) (L.length) ⟨0, by omega, rfl, fun k hk => absurd hk (Nat.not_lt_zero k), rfl, rfl⟩ (wk hE []) ?_
 rintro n_ T_ H_ ⟨i, hi, rfl, hup, rfl, rfl⟩
 refine w_seq ?_
 refine g_reg hP hn ?_
 refine s_op k_lss ?_
 refine s_nil trivial ?_
 refine n_wp ?_
 refine w_seq ?_
 have h_t13 : i < L.length := by
  rcases Nat.lt_or_ge i L.length with h | h
  · exact h
  · exact absurd (hup j (by omega)) (by rw [hno]; decide)
 refine w_T rfl ?_ (decide_eq_true h_t13)
 refine w_skip ?_
 refine n_wp ?_
 refine w_seq ?_
 refine w_block ?_
 refine w_seq ?_
 refine g_reg hP hn ?_
 refine s_op k_ix ?_
 refine s_op (k_ld (by exact l_loadf_agg (segs := (L.map NR).getD i []) (sub := [.ints .u64 4 (zs (wd (L.getD i 0)))]) rfl (Nat.le_refl _) (nums_at L i h_t13) Ag.h Sz.h)) ?_
 refine s_op k_al ?_
 refine s_st k_st ?_
 refine s_nil trivial ?_
 refine n_wp ?_
 refine w_seq ?_
 refine g_reg hP hn ?_
 refine s_op k_ld ?_
 refine s_op k_ld ?_
 refine s_op (k_call [] (con := may_n p q g hp hq hg (L.getD i 0) (hL i h_t13))) ?_
 refine s_op k_not ?_
 refine s_nil trivial ?_
 refine n_wp ?_
 refine w_cond rfl (fun h_t19 => ?_) (fun h_t19 => ?_)
 · skip
   refine w_seq ?_
   refine g_reg hP hn ?_
   refine s_op (k_bd (by exact a_buildK (n := 4) (zs (wd 0)) (by kernel_rfl) (by kernel_rfl) (by rw [zs_len, wd_len]))) ?_
   refine s_st k_st ?_
   refine s_op k_as ?_
   refine s_nil trivial ?_
   refine n_wp ?_
   refine w_ret ?_
   refine r_blo ?_
   refine r_thn ?_
   refine r_thn ?_
   refine r_blo ?_
   refine r_thn ?_
   exact d_ret hP hn hE [] (ret2 Tryz.results90 r_cella (by first | exact ri_tmp rfl | exact ri_tmpa rfl))
 · skip
   have hmay : mayP p (L.getD i 0) = true := by simpa using h_t19
   refine w_skip ?_
   refine n_blo ?_
   refine n_wp ?_
   refine g_reg hP hn ?_
   refine s_op k_add ?_
   refine s_op k_mv ?_
   refine s_nil trivial ?_
   exact n_round (L.length - (i + 1)) (by omega) ⟨i + 1, by omega, rfl, fun k hk => (Nat.lt_succ_iff_lt_or_eq.1 hk).elim (hup k) (fun e => e ▸ hmay), rfl, rfl⟩ (wk hE [])

set_option maxRecDepth 100000 in
set_option maxHeartbeats 4000000 in
theorem all_prod (p q g : Nat) (hp : p < 2 ^ 256) (hq : q < 2 ^ 256) (hg : g < 2 ^ 256) (L : List Nat) (hL : ∀ i, i < L.length → L.getD i 0 < 2 ^ 256) (hLb : L.length ≤ 1000000) (a b r : Nat) (hok : ∀ i, i < L.length → mayP p (L.getD i 0) = true) (con : Con Tryz.prog 116 [.agg (PAIR p q g a b)] [] (.tup [.agg [.ints .u64 4 (zs (wd r))], .s (.int .i64 0)]) []) : Con Tryz.prog 90 [.agg (GRP p q g), .s (.val (.func (.func 116) #[Go.Bx.valOf (PAIR p q g a b)] #[])), .s (NUMS L)] [] (.tup [.agg [.ints .u64 4 (zs (wd r))], .s (.int .i64 0)]) [] := by
 refine con_in 26 Tryz.func90 rfl rfl (m := 0) rfl ?_
 intro E hP hn hE
 refine w_seq ?_
 refine g_reg hP hn ?_
 refine s_op k_bx ?_
 refine s_op k_al ?_
 refine s_op k_as ?_
 refine s_nil trivial ?_
 refine n_wp ?_
 refine w_seq ?_
 refine w_seq ?_
 refine g_reg hP hn ?_
 refine s_op k_mv ?_
 refine s_op k_len ?_
 refine s_op k_mv ?_
 refine s_nil trivial ?_
 refine n_wp ?_
 refine w_block ?_
 refine c_loop (fun m_ T H => ∃ i, i ≤ L.length ∧ m_ = L.length - i ∧ (∀ k, k < i → mayP p (L.getD k 0) = true) ∧ T = [(1, .s (.val (.func (.func 116) #[Go.Bx.valOf (PAIR p q g a b)] #[]))), (3, .s (.ptr 0 0 0)), (6, .s (.ptr 1 0 0)), (10, .s (NUMS L)), (11, .s (.int .i64 ((L.length : Nat) : Int))), (12, .s (.int .i64 ((i : Nat) : Int)))] ∧ H = [some ⟨true, GRP p q g⟩, some ⟨true, [.ints .u64 4 (zs (List.replicate 4 0))]⟩]) (L.length) ⟨0, by omega, rfl, fun k hk => absurd hk (Nat.not_lt_zero k), rfl, rfl⟩ (wk hE []) ?_
 rintro n_ T_ H_ ⟨i, hi, rfl, hup, rfl, rfl⟩
 refine w_seq ?_
 refine g_reg hP hn ?_
 refine s_op k_lss ?_
 refine s_nil trivial ?_
 refine n_wp ?_
 refine w_seq ?_
 refine w_if rfl (fun h_t13 => ?_) (fun h_t13 => ?_)
 · skip
   have hmay := hok i h_t13
   refine w_skip ?_
   refine n_wp ?_
   refine w_seq ?_
   refine w_block ?_
   refine w_seq ?_
   refine g_reg hP hn ?_
   refine s_op k_ix ?_
   refine s_op (k_ld (by exact l_loadf_agg (segs := (L.map NR).getD i []) (sub := [.ints .u64 4 (zs (wd (L.getD i 0)))]) rfl (Nat.le_refl _) (nums_at L i h_t13) Ag.h Sz.h)) ?_
   refine s_op k_al ?_
   refine s_st k_st ?_
   refine s_nil trivial ?_
   refine n_wp ?_
   refine w_seq ?_
   refine g_reg hP hn ?_
   refine s_op k_ld ?_
   refine s_op k_ld ?_
   refine s_op (k_call [] (con := may_n p q g hp hq hg (L.getD i 0) (hL i h_t13))) ?_
   refine s_op k_not ?_
   refine s_nil trivial ?_
   refine n_wp ?_
   refine w_F rfl ?_ (by rw [hmay]; rfl)
   refine w_skip ?_
   refine n_blo ?_
   refine n_wp ?_
   refine g_reg hP hn ?_
   refine s_op k_add ?_
   refine s_op k_mv ?_
   refine s_nil trivial ?_
   exact n_round (L.length - (i + 1)) (by omega) ⟨i + 1, by omega, rfl, fun k hk => (Nat.lt_succ_iff_lt_or_eq.1 hk).elim (hup k) (fun e => e ▸ hmay), rfl, rfl⟩ (wk hE [])
 · skip
   refine w_exit ?_
   refine x_thn ?_
   refine x_thn ?_
   refine x_eq ?_
   refine n_wp ?_
   refine w_seq ?_
   refine g_reg hP hn ?_
   refine s_op k_mv ?_
   refine s_op (k_callb (A := PAIR p q g a b) (con := con)) ?_
   refine s_op k_ex ?_
   refine s_op k_ex ?_
   refine s_st k_st ?_
   refine s_op k_as ?_
   refine s_nil trivial ?_
   refine n_wp ?_
   refine w_ret ?_
   exact d_ret hP hn hE [] (ret2 Tryz.results90 r_cella (by first | exact ri_tmp rfl | exact ri_tmpa rfl))

set_option maxRecDepth 100000 in
set_option maxHeartbeats 4000000 in
theorem gexp_y (p q g : Nat) (hp : p < 2 ^ 256) (hq : q < 2 ^ 256) (hg : g < 2 ^ 256) (a n : Nat) (ha : a < 2 ^ 256) (hnn : n < 2 ^ 256) (hmay : mayP p a = true) : Con Tryz.prog 53 [.agg (GRP p q g), .agg [.ints .u64 4 (zs (wd a))], .agg [.ints .u64 4 (zs (wd n))]] [] (.tup [.agg [.ints .u64 4 (zs (wd (a ^ n % p)))], .s (.int .i64 0)]) [] := by
 refine con_in 23 Tryz.func53 rfl rfl (m := 0) rfl ?_
 intro E hP hn hE
 refine w_seq ?_
 refine g_reg hP hn ?_
 refine s_op k_bx ?_
 refine s_op k_bx ?_
 refine s_op k_bx ?_
 refine s_op k_al ?_
 refine s_op k_as ?_
 refine s_nil trivial ?_
 refine n_wp ?_
 refine w_seq ?_
 refine g_reg hP hn ?_
 refine s_op k_ld ?_
 refine s_op k_bd ?_
 refine s_op k_ld ?_
 refine s_op k_ld ?_
 refine s_op k_bd ?_
 refine s_op k_al ?_
 refine s_st k_st ?_
 refine s_nil trivial ?_
 refine n_wp ?_
 refine w_seq ?_
 refine g_reg hP hn ?_
 refine s_op k_fa ?_
 refine s_op k_ld ?_
 refine s_op k_ld ?_
 refine s_op k_fnb ?_
 refine s_op k_ld ?_
 refine s_op (k_bsR [NR a]) ?_
 refine s_op (k_call [] (con := all_pow p q g hp hq hg [a] (fun i hi => by match i, hi with | 0, _ => exact ha) (Nat.le_of_ble_eq_true rfl) a n (a ^ n % p) (fun i hi => by match i, hi with | 0, _ => exact hmay) (pow_n p q g hp hq hg a n ((mayP_iff p a).1 hmay).2.2 hnn ((mayP_iff p a).1 hmay).1))) ?_
 refine s_op k_ex ?_
 refine s_op k_ex ?_
 refine s_st k_st ?_
 refine s_op k_as ?_
 refine s_nil trivial ?_
 refine n_wp ?_
 refine w_ret ?_
 exact d_ret hP hn hE [] (ret2 Tryz.results53 r_cella (by first | exact ri_tmp rfl | exact ri_tmpa rfl))

set_option maxRecDepth 100000 in
set_option maxHeartbeats 4000000 in
theorem gexp_no (p q g : Nat) (hp : p < 2 ^ 256) (hq : q < 2 ^ 256) (hg : g < 2 ^ 256) (a n : Nat) (ha : a < 2 ^ 256) (hnn : n < 2 ^ 256) (hmay : mayP p a = false) : Con Tryz.prog 53 [.agg (GRP p q g), .agg [.ints .u64 4 (zs (wd a))], .agg [.ints .u64 4 (zs (wd n))]] [] (.tup [.agg [.ints .u64 4 (zs (wd 0))], .s (.int .i64 1)]) [] := by
 refine con_in 23 Tryz.func53 rfl rfl (m := 0) rfl ?_
 intro E hP hn hE
 refine w_seq ?_
 refine g_reg hP hn ?_
 refine s_op k_bx ?_
 refine s_op k_bx ?_
 refine s_op k_bx ?_
 refine s_op k_al ?_
 refine s_op k_as ?_
 refine s_nil trivial ?_
 refine n_wp ?_
 refine w_seq ?_
 refine g_reg hP hn ?_
 refine s_op k_ld ?_
 refine s_op k_bd ?_
 refine s_op k_ld ?_
 refine s_op k_ld ?_
 refine s_op k_bd ?_
 refine s_op k_al ?_
 refine s_st k_st ?_
 refine s_nil trivial ?_
 refine n_wp ?_
 refine w_seq ?_
 refine g_reg hP hn ?_
 refine s_op k_fa ?_
 refine s_op k_ld ?_
 refine s_op k_ld ?_
 refine s_op k_fnb ?_
 refine s_op k_ld ?_
 refine s_op (k_bsR [NR a]) ?_
 refine s_op (k_call [] (con := allno_pow p q g hp hq hg [a] (fun i hi => by match i, hi with | 0, _ => exact ha) (Nat.le_of_ble_eq_true rfl) a n 0 (Nat.le_of_ble_eq_true rfl) hmay)) ?_
 refine s_op k_ex ?_
 refine s_op k_ex ?_
 refine s_st k_st ?_
 refine s_op k_as ?_
 refine s_nil trivial ?_
 refine n_wp ?_
 refine w_ret ?_
 exact d_ret hP hn hE [] (ret2 Tryz.results53 r_cella (by first | exact ri_tmp rfl | exact ri_tmpa rfl))

theorem gexp_n (p q g : Nat) (hp : p < 2 ^ 256) (hq : q < 2 ^ 256) (hg : g < 2 ^ 256) (a n : Nat) (ha : a < 2 ^ 256) (hnn : n < 2 ^ 256)  : Con Tryz.prog 53 [.agg (GRP p q g), .agg [.ints .u64 4 (zs (wd a))], .agg [.ints .u64 4 (zs (wd n))]] [] (.tup [.agg [.ints .u64 4 (zs (wd (expP p a n)))], .s (.int .i64 (expE p a))]) [] := by
 unfold expP expE
 by_cases h : mayP p a = true
 · rw [if_pos h, if_pos h]; exact gexp_y p q g hp hq hg a n ha hnn h
 · rw [if_neg h, if_neg h]; exact gexp_no p q g hp hq hg a n ha hnn (by simpa using h)

set_option maxRecDepth 100000 in
set_option maxHeartbeats 4000000 in
theorem in_y (p q g : Nat) (hp : p < 2 ^ 256) (hq : q < 2 ^ 256) (hg : g < 2 ^ 256) (a : Nat) (ha : a < 2 ^ 256) (hmay : mayP p a = true) : Con Tryz.prog 88 [.agg (GRP p q g), .agg [.ints .u64 4 (zs (wd a))]] [] (.s (.bool (decide (a ^ q % p = 1)))) [] := by
 refine con_in 22 Tryz.func88 rfl rfl (m := 0) rfl ?_
 intro E hP hn hE
 refine w_seq ?_
 refine g_reg hP hn ?_
 refine s_op k_bx ?_
 refine s_op k_bx ?_
 refine s_op k_as ?_
 refine s_nil trivial ?_
 refine n_wp ?_
 refine w_seq ?_
 refine g_reg hP hn ?_
 refine s_op k_ld ?_
 refine s_op k_ld ?_
 refine s_op k_fa ?_
 refine s_op k_ld ?_
 refine s_op (k_call [] (con := gexp_y p q g hp hq hg a q ha hq hmay)) ?_
 refine s_op k_mv ?_
 refine s_op k_ex ?_
 refine s_op k_ex ?_
 refine s_op k_al ?_
 refine s_st k_st ?_
 refine s_op k_as ?_
 refine s_nil trivial ?_
 refine n_wp ?_
 refine w_seq ?_
 refine g_any hP hn ?_
 refine s_op k_mv ?_
 refine s_op k_eql ?_
 refine s_op k_mv ?_
 refine s_on rfl rfl rfl k_ld ?_
 refine s_on rfl rfl rfl (k_call [] (con := gone_n)) ?_
 refine s_on rfl rfl rfl (k_eqN (a ^ q % p) 1 (by have := Nat.mod_lt (a ^ q) (show 0 < p by have := (mayP_iff p a).1 hmay; omega); omega) (by omega)) ?_
 refine s_op k_pk ?_
 refine s_op k_as ?_
 refine s_nil (by kernel_rfl) ?_
 refine n_wp ?_
 refine w_ret ?_
 exact d_ret hP hn hE [] (by first | exact r_tmp Tryz.results88 | exact r_tmpa Tryz.results88)

set_option maxRecDepth 100000 in
set_option maxHeartbeats 4000000 in
theorem in_no (p q g : Nat) (hp : p < 2 ^ 256) (hq : q < 2 ^ 256) (hg : g < 2 ^ 256) (a : Nat) (ha : a < 2 ^ 256) (hmay : mayP p a = false) : Con Tryz.prog 88 [.agg (GRP p q g), .agg [.ints .u64 4 (zs (wd a))]] [] (.s (.bool false)) [] := by
 refine con_in 22 Tryz.func88 rfl rfl (m := 0) rfl ?_
 intro E hP hn hE
 refine w_seq ?_
 refine g_reg hP hn ?_
 refine s_op k_bx ?_
 refine s_op k_bx ?_
 refine s_op k_as ?_
 refine s_nil trivial ?_
 refine n_wp ?_
 refine w_seq ?_
 refine g_reg hP hn ?_
 refine s_op k_ld ?_
 refine s_op k_ld ?_
 refine s_op k_fa ?_
 refine s_op k_ld ?_
 refine s_op (k_call [] (con := gexp_no p q g hp hq hg a q ha hq hmay)) ?_
 refine s_op k_mv ?_
 refine s_op k_ex ?_
 refine s_op k_ex ?_
 refine s_op k_al ?_
 refine s_st k_st ?_
 refine s_op k_as ?_
 refine s_nil trivial ?_
 refine n_wp ?_
 refine w_seq ?_
 refine g_any hP hn ?_
 refine s_op k_mv ?_
 refine s_op k_eql ?_
 refine s_op k_mv ?_
 refine s_off rfl rfl rfl ?_
 refine s_off rfl rfl rfl ?_
 refine s_off rfl rfl rfl ?_
 refine s_op k_pk ?_
 refine s_op k_as ?_
 refine s_nil (by kernel_rfl) ?_
 refine n_wp ?_
 refine w_ret ?_
 exact d_ret hP hn hE [] (by first | exact r_tmp Tryz.results88 | exact r_tmpa Tryz.results88)

theorem in_n (p q g : Nat) (hp : p < 2 ^ 256) (hq : q < 2 ^ 256) (hg : g < 2 ^ 256) (a : Nat) (ha : a < 2 ^ 256)  : Con Tryz.prog 88 [.agg (GRP p q g), .agg [.ints .u64 4 (zs (wd a))]] [] (.s (.bool (inP p q a))) [] := by
 unfold inP
 cases h : mayP p a with
 | true => rw [Bool.true_and]; exact in_y p q g hp hq hg a ha h
 | false => rw [Bool.false_and]; exact in_no p q g hp hq hg a ha h

end Go.Proofs.X
end

section
open Go Go.Bx Go.Proofs
namespace Go.Proofs.X
attribute [local irreducible] bitsN wd dg cmpI subN undN shN pO pB TM mayP Go.Bx.valOf inP
set_option maxRecDepth 100000 in
set_option maxHeartbeats 4000000 in
theorem fine_n (p q g : Nat) (hp : p < 2 ^ 256) (hq : q < 2 ^ 256) (hg : g < 2 ^ 256) : Con Tryz.prog 50 [.agg (GRP p q g)] [] (.s (.bool (fineP p q g))) [] := by
 refine con_in 20 Tryz.func50 rfl rfl (m := 0) rfl ?_
 intro E hP hn hE
 refine w_seq ?_
 refine g_reg hP hn ?_
 refine s_op k_bx ?_
 refine s_op k_as ?_
 refine s_nil trivial ?_
 refine n_wp ?_
 refine w_seq ?_
 refine g_any hP hn ?_
 refine s_op k_fa ?_
 refine s_op k_ld ?_
 refine s_op (k_call [] (con := gone_n)) ?_
 refine s_op (k_call [] (con := cmp_n q 1 hq (by omega))) ?_
 refine s_op (k_gt0 q 1) ?_
 refine s_op k_mv ?_
 refine s_opt rfl rfl (fun hB => by rw [hB]; try simp only [Bool.or_eq_true, Bool.or_eq_false_iff, Bool.and_eq_true, Bool.not_eq_true', Bool.not_eq_false', decide_eq_true_eq, decide_eq_false_iff_not] at hB; exact k_fa) ?_
 refine s_opt rfl rfl (fun hB => by rw [hB]; try simp only [Bool.or_eq_true, Bool.or_eq_false_iff, Bool.and_eq_true, Bool.not_eq_true', Bool.not_eq_false', decide_eq_true_eq, decide_eq_false_iff_not] at hB; exact k_ld) ?_
 refine s_opt rfl rfl (fun hB => by rw [hB]; try simp only [Bool.or_eq_true, Bool.or_eq_false_iff, Bool.and_eq_true, Bool.not_eq_true', Bool.not_eq_false', decide_eq_true_eq, decide_eq_false_iff_not] at hB; exact k_call [] (con := gone_n)) ?_
 refine s_opt rfl rfl (fun hB => by rw [hB]; try simp only [Bool.or_eq_true, Bool.or_eq_false_iff, Bool.and_eq_true, Bool.not_eq_true', Bool.not_eq_false', decide_eq_true_eq, decide_eq_false_iff_not] at hB; exact k_neN g 1 hg (by omega)) ?_
 refine s_op k_pk ?_
 refine s_op k_mv ?_
 refine s_opt rfl rfl (fun hB => by rw [hB]; try simp only [Bool.or_eq_true, Bool.or_eq_false_iff, Bool.and_eq_true, Bool.not_eq_true', Bool.not_eq_false', decide_eq_true_eq, decide_eq_false_iff_not] at hB; exact k_ld) ?_
 refine s_opt rfl rfl (fun hB => by rw [hB]; try simp only [Bool.or_eq_true, Bool.or_eq_false_iff, Bool.and_eq_true, Bool.not_eq_true', Bool.not_eq_false', decide_eq_true_eq, decide_eq_false_iff_not] at hB; exact k_fa) ?_
 refine s_opt rfl rfl (fun hB => by rw [hB]; try simp only [Bool.or_eq_true, Bool.or_eq_false_iff, Bool.and_eq_true, Bool.not_eq_true', Bool.not_eq_false', decide_eq_true_eq, decide_eq_false_iff_not] at hB; exact k_ld) ?_
 refine s_opt rfl rfl (fun hB => by rw [hB]; try simp only [Bool.or_eq_true, Bool.or_eq_false_iff, Bool.and_eq_true, Bool.not_eq_true', Bool.not_eq_false', decide_eq_true_eq, decide_eq_false_iff_not] at hB; exact k_call [] (con := in_n p q g hp hq hg g hg)) ?_
 refine s_op k_pk ?_
 refine s_op k_as ?_
 refine s_nil (by kernel_rfl) ?_
 refine n_wp ?_
 refine w_ret ?_
 exact d_ret hP hn hE [] (by first | exact r_tmp Tryz.results50 | exact r_tmpa Tryz.results50)

set_option maxRecDepth 100000 in
set_option maxHeartbeats 4000000 in
theorem gmul_y (p q g : Nat) (hp : p < 2 ^ 256) (hq : q < 2 ^ 256) (hg : g < 2 ^ 256) (a b : Nat) (ha : a < 2 ^ 256) (hb : b < 2 ^ 256) (hma : mayP p a = true) (hmb : mayP p b = true) : Con Tryz.prog 98 [.agg (GRP p q g), .agg [.ints .u64 4 (zs (wd a))], .agg [.ints .u64 4 (zs (wd b))]] [] (.tup [.agg [.ints .u64 4 (zs (wd (a * b % p)))], .s (.int .i64 0)]) [] := by
 refine con_in 24 Tryz.func98 rfl rfl (m := 0) rfl ?_
 intro E hP hn hE
 refine w_seq ?_
 refine g_reg hP hn ?_
 refine s_op k_bx ?_
 refine s_op k_bx ?_
 refine s_op k_bx ?_
 refine s_op k_al ?_
 refine s_op k_as ?_
 refine s_nil trivial ?_
 refine n_wp ?_
 refine w_seq ?_
 refine g_reg hP hn ?_
 refine s_op k_ld ?_
 refine s_op k_bd ?_
 refine s_op k_ld ?_
 refine s_op k_ld ?_
 refine s_op k_bd ?_
 refine s_op k_al ?_
 refine s_st k_st ?_
 refine s_nil trivial ?_
 refine n_wp ?_
 refine w_seq ?_
 refine g_reg hP hn ?_
 refine s_op k_fa ?_
 refine s_op k_ld ?_
 refine s_op k_ld ?_
 refine s_op k_fnb ?_
 refine s_op k_ld ?_
 refine s_op k_ld ?_
 refine s_op (k_bsR [NR a, NR b]) ?_
 refine s_op (k_call [] (con := all_prod p q g hp hq hg [a, b] (fun i hi => by match i, hi with | 0, _ => exact ha | 1, _ => exact hb) (Nat.le_of_ble_eq_true rfl) a b (a * b % p) (fun i hi => by match i, hi with | 0, _ => exact hma | 1, _ => exact hmb) (prod_n p q g hp hq hg a b ((mayP_iff p a).1 hma).2.2 ((mayP_iff p b).1 hmb).2.2 ((mayP_iff p a).1 hma).1))) ?_
 refine s_op k_ex ?_
 refine s_op k_ex ?_
 refine s_st k_st ?_
 refine s_op k_as ?_
 refine s_nil trivial ?_
 refine n_wp ?_
 refine w_ret ?_
 exact d_ret hP hn hE [] (ret2 Tryz.results98 r_cella (by first | exact ri_tmp rfl | exact ri_tmpa rfl))

end Go.Proofs.X
end

section
open Go Go.Bx Go.Proofs
namespace Go.Proofs.X
set_option maxRecDepth 100000 in
set_option maxHeartbeats 4000000 in
theorem backward_c (ws : List Int) : Con Tryz.prog 124 [.s (.fzi .u64 ws)] [] (.s (.clo 142 1 (capF [.ptr 0 0 0]))) [some ⟨true, [.one (.fzi .u64 ws)]⟩] := by
 refine con_in 4 Tryz.func124 rfl rfl (m := 0) rfl ?_
 intro E hP hn hE
 refine w_seq ?_
 refine g_reg hP hn ?_
 refine s_op k_bx ?_
 refine s_op k_as ?_
 refine s_nil trivial ?_
 refine n_wp ?_
 refine w_seq ?_
 refine g_reg hP hn ?_
 refine s_op (k_fn [.ptr 0 0 0]) ?_
 refine s_op k_as ?_
 refine s_nil trivial ?_
 refine n_wp ?_
 refine w_ret ?_
 exact d_ret hP hn hE [] (by first | exact r_tmp Tryz.results124 | exact r_tmpa Tryz.results124)

set_option maxRecDepth 100000 in
set_option maxHeartbeats 4000000 in
theorem back_iter {E : Env} (hPE : E.P = Tryz.prog) {n : Nat} (hnE : E.n = n) (bx : Nat) (ws : List Int) (a b : Nat) (ha : a < n) (hb : b < n) (assign body : Code) (T : Tm) (Hs : Nat → Heap) (hws : ws.length ≤ 1000000) (hbx : ∀ k, k ≤ ws.length → hget (Hs k) bx = some ⟨true, [.one (.fzi .u64 ws)]⟩)
    (hY : ∀ k, k < ws.length → YRound Tryz.prog n assign body (roundT [a, b] [.s (.int .i64 ((ws.length : Int) - 1 - k)), .s (.int .u64 (ws.getD (ws.length - 1 - k) 0))] T) (Hs k) (Hs (k + 1))) : Iter E 142 1 (capF [.ptr bx 0 0]) #[a, b] assign body T (Hs 0) (Hs ws.length) := by
 intro l D ρ W tm w1 fn vs hH hd hT htm hW hl hvs
 rw [hPE]
 have hps : ∀ p ∈ (#[a, b] : Array Tmp).toList, p < n := by
  intro p hp
  simp at hp
  rcases hp with rfl | rfl <;> assumption
 refine calls_none (args := [.s (.val (.func (.yield l) #[] #[])), .s (.ptr bx 0 0)]) 19 Tryz.func142 rfl rfl Tryz.results142 (Nat.le_of_ble_eq_true rfl) hH hd hW ⟨by simp [hvs.1], fun i x hx => ?_⟩ (fun E2 hP hn hE hw0 hρ0 => ?_)
 · match i, hx with
   | 0, hx =>
    simp at hx; subst hx
    refine ⟨?_, rfl⟩
    rw [Array.getD_eq_getD_getElem?, Array.getElem?_append_left (by simp)]; rfl
   | 1, hx =>
    simp at hx; subst hx
    obtain ⟨u, e1, e2⟩ := hvs.2 0 (by omega)
    have : (#[Value.func (.yield l) #[] #[]] ++ vs).getD 1 undef = u := by
     rw [Array.getD_eq_getD_getElem?, Array.getElem?_append_right (by simp)]
     simp [e1]
    rw [this]; exact e2
   | i + 2, hx => simp at hx
 refine i_seq ?_
 refine ig_reg hP hn ?_
 refine s_op (k_ld (by exact a_load_one rfl (hbx 0 (Nat.zero_le _)) rfl)) ?_
 refine s_op k_len ?_
 refine s_op (k_sub (by exact l_bin rfl rfl (b_sub (wrap_i64 (by omega))))) ?_
 refine s_op k_as ?_
 refine s_nil trivial ?_
 refine ni_wp ?_
 refine i_block ?_
 refine i_loop (fun m T H => ∃ (k : Nat) (z : Int), k ≤ ws.length ∧ m = ws.length - k ∧ z = (ws.length : Int) - 1 - k ∧ T = [(0, .s (.val (.func (.yield l) #[] #[]))), (1, .s (.ptr bx 0 0)), (3, .s (.int .i64 z))] ∧ H = Hs k) ws.length ⟨0, (ws.length : Int) - 1, by omega, rfl, by omega, rfl, rfl⟩ weak_tm ?_
 rintro n_ T_ H_ ⟨k, z, hk, rfl, hz, rfl, rfl⟩
 refine i_seq ?_
 refine i_seq ?_
 refine ig_reg hP hn ?_
 refine s_op k_mv ?_
 refine s_op (k_geq (by exact l_bin rfl rfl (b_geq rfl))) ?_
 refine s_nil trivial ?_
 refine ni_wp ?_
 refine iw_if rfl (fun h8 => ?_) (fun h8 => ?_)
 · skip
   have hlt : k < ws.length := by omega
   have hzn : z = ((ws.length - 1 - k : Nat) : Int) := by omega
   refine i_skip ?_
   refine ni_wp ?_
   refine i_seq ?_
   refine i_block ?_
   refine i_seq ?_
   refine i_regY 6 (by rw [hn]; kernel_rfl) (by kernel_rfl) rfl rfl rfl rfl ?_
   rw [hP]
   refine s_op k_mv ?_
   refine s_op k_mv ?_
   refine s_op (k_ld (by exact a_load_one rfl (hbx k hk) rfl)) ?_
   refine s_op k_mv ?_
   refine s_op (k_ix (by exact a_ixi (hj := ⟨hzn⟩) rfl rfl (by omega))) ?_
   refine s_op (k_ld (by exact a_loadf rfl (by omega) rfl)) ?_
   refine s_nil trivial ?_
   refine ⟨[(17, .s (.bool true)), (0, .s (.val (.func (.yield l) #[] #[]))), (1, .s (.ptr bx 0 0)), (3, .s (.int .i64 z))], Hs (k + 1), fun aa ww hr K Q' hK => ?_, ?_⟩
   · rw [← hP]
     exact yield_op (E := E2) (n := n) (D := D) (tm := tm) (fn := fn) (avs := [.s (.int .i64 z), .s (.int .u64 (ws.getD (ws.length - 1 - k) 0))]) (ps := #[a, b]) (Trow := T) (l := l) (H' := Hs (k + 1)) (assign := assign) (body := body) (by exact rfl) (by exact rfl) (by rw [hn]; kernel_rfl) (by rw [hw0]; exact hl) (by rw [hρ0]; exact hT) (htm.trans hnE) hps rfl (by rw [hP, hz]; exact hY k hlt) aa ww hr K Q' (fun a' w' hr' => hK a' w' ((weak_tm : Weak E2 _ _ _ _) a' w' hr'))
   refine s_op k_not ?_
   refine s_nil trivial ?_
   refine ni_wp ?_
   refine iw_F rfl ?_
   refine i_skip ?_
   refine n_blo ?_
   refine ni_wp ?_
   refine ig_reg hP hn ?_
   refine s_op k_mv ?_
   refine s_op (k_sub (by exact l_bin rfl rfl (b_sub (wrap_i64 (by omega))))) ?_
   refine s_op k_as ?_
   refine s_nil trivial ?_
   exact ⟨ws.length - (k + 1), by omega, _, _, weak_tm, k + 1, z - 1, by omega, rfl, by omega, rfl, rfl⟩
 · skip
   have hk2 : k = ws.length := by omega
   subst hk2
   refine i_exit ?_
   refine x_thn ?_
   refine x_thn ?_
   refine x_eq ?_
   exact ⟨.inr rfl, weak_tm⟩

/-- The row's memory: how wide, the bytes, where they are, the place, the words. -/
abbrev RH (each tot at_ : Nat) (out ws : List Int) : Heap := [some ⟨true, [.one (.int .i64 ((each : Nat) : Int))]⟩, some ⟨true, [.ints .u8 tot out]⟩, some ⟨true, [.one (.slice 1 0 0 tot tot)]⟩, some ⟨true, [.one (.int .i64 ((at_ : Nat) : Int))]⟩, some ⟨true, [.one (.fzi .u64 ws)]⟩]
set_option maxRecDepth 100000 in
set_option maxHeartbeats 4000000 in
theorem row1_c (B ws : List Int) (each tot : Nat) (ht : tot = B.length + each * ws.length) (htb : tot ≤ 140737488355328) (hws : ws.length ≤ 1000000) (h0 : 0 < B.length) : Con Tryz.prog 106 [.s (.fzi .u8 B), .s (.int .i64 ((each : Nat) : Int)), .s (.fzi .u64 ws)] [] (.s (.fzi .u8 (spl (rr tot each ws.length ws ws.length) (B.take B.length) 0 B.length tot))) [] := by
 refine con_in 44 Tryz.func106 rfl rfl (m := 0) rfl ?_
 intro E hP hn hE
 refine w_seq ?_
 refine g_reg hP hn ?_
 refine s_op k_bx ?_
 refine s_op k_as ?_
 refine s_nil trivial ?_
 refine n_wp ?_
 refine w_seq ?_
 refine g_reg hP hn ?_
 refine s_op k_mv ?_
 refine s_op k_len ?_
 refine s_op k_ld ?_
 refine s_op k_mv ?_
 refine s_op k_len ?_
 refine s_op k_mul ?_
 refine s_op (k_add (by exact l_bin rfl rfl (b_add (r := ((tot : Nat) : Int)) (by rw [ht]; exact m_add (by omega))))) ?_
 refine s_op k_mk ?_
 refine s_op k_al ?_
 refine s_st k_st ?_
 refine s_nil trivial ?_
 refine n_wp ?_
 refine w_seq ?_
 refine g_reg hP hn ?_
 refine s_op k_ld ?_
 refine s_op k_len ?_
 refine s_op k_al ?_
 refine s_st k_st ?_
 refine s_nil trivial ?_
 refine n_wp ?_
 refine w_seq ?_
 refine w_seq ?_
 refine g_reg hP hn ?_
 refine s_op k_mv ?_
 refine s_op (k_call [] (con := backward_c _)) ?_
 refine s_nil trivial ?_
 refine n_wp ?_
 refine w_block ?_
 have hmul : each * ws.length ≤ tot := by omega
 refine w_weak (weak_tm (T' := [(0, .s (.fzi .u8 B)), (4, .s (.ptr 0 0 0)), (7, .s (.ptr 2 0 0)), (8, .s (.ptr 3 0 0)), (22, .s (.clo 142 1 (capF [.ptr 4 0 0])))])) ?_
 refine w_rangeFunc (gf := 142) (n := 1) (q := capF [.ptr 4 0 0]) (Hend := RH each tot (tot - each * ws.length) (rr tot each ws.length ws ws.length) ws) rfl (by rw [hP]; exact Clb.h) (Nat.le_refl _) (back_iter hP hn 4 ws 23 24 (by decide) (by decide) _ _ _ (fun k => RH each tot (tot - each * k) (rr tot each ws.length ws k) ws) hws (fun _ _ => rfl) (fun k hk => ?_)) ?_
 · have hk1 : each * (k + 1) ≤ each * ws.length := Nat.mul_le_mul_left each hk
   have hnx : tot - each * (k + 1) = tot - each * k - each := by rw [Nat.mul_succ]; omega
   have hA1 : each ≤ tot - each * k := by rw [Nat.mul_succ] at hk1; omega
   have hA2 : tot - each * k ≤ tot := Nat.sub_le _ _
   show YRound _ _ _ _ _ (RH each tot (tot - each * k) (rr tot each ws.length ws k) ws) (RH each tot (tot - each * (k + 1)) (rb (rr tot each ws.length ws k) (tot - each * k) (ws.getD (ws.length - 1 - k) 0) each).1 ws)
   rw [hnx]
   have hout := rr_len tot each ws.length ws k
   generalize tot - each * k = A at *
   generalize rr tot each ws.length ws k = out at *
   generalize ws.getD (ws.length - 1 - k) 0 = v at *
   refine ⟨Nat.le_refl _, [(4, .s (.ptr 0 0 0)), (7, .s (.ptr 2 0 0)), (8, .s (.ptr 3 0 0)), (10, .s (.int .u64 v))], fun l E hP hn hE => ⟨?_, ?_⟩⟩
   · skip
     refine ig_reg hP hn ?_
     refine s_op k_as ?_
     refine s_nil trivial ?_
     exact ⟨rfl, weak_tm⟩
   · skip
     refine i_block ?_
     refine i_seq ?_
     refine ig_reg hP hn ?_
     refine s_op k_ld ?_
     refine s_op k_mv ?_
     refine s_nil trivial ?_
     refine ni_wp ?_
     refine i_block ?_
     refine i_loop (fun m T H => ∃ j, j ≤ each ∧ m = each - j ∧ T = [(4, .s (.ptr 0 0 0)), (7, .s (.ptr 2 0 0)), (8, .s (.ptr 3 0 0)), (10, .s (.int .u64 (rb out A v j).2)), (25, .s (.int .i64 ((each : Nat) : Int))), (26, .s (.int .i64 ((j : Nat) : Int)))] ∧ H = RH each tot (A - j) (rb out A v j).1 ws) (each) ⟨0, by omega, rfl, rfl, rfl⟩ weak_tm ?_
     rintro n_ T_ H_ ⟨j, hj, rfl, rfl, rfl⟩
     have hlj : (rb out A v j).1.length = tot := (rb_len out A v j).trans hout
     refine i_seq ?_
     refine ig_reg hP hn ?_
     refine s_op k_lss ?_
     refine s_nil trivial ?_
     refine ni_wp ?_
     refine i_seq ?_
     refine iw_if rfl (fun h_t27 => ?_) (fun h_t27 => ?_)
     · skip
       refine i_skip ?_
       refine ni_wp ?_
       refine i_seq ?_
       refine i_block ?_
       refine i_seq ?_
       refine ig_reg hP hn ?_
       refine s_op k_ld ?_
       refine s_op k_sub ?_
       refine s_st k_st ?_
       refine s_nil trivial ?_
       refine ni_wp ?_
       refine ig_reg hP hn ?_
       refine s_op k_ld ?_
       refine s_op k_ld ?_
       refine s_op k_mv ?_
       refine s_op k_cv ?_
       refine s_op k_mv ?_
       refine s_op (k_quo (by exact l_bin rfl rfl (b_quo (by decide) rfl))) ?_
       refine s_op k_ix ?_
       refine s_st k_st ?_
       refine s_op k_as ?_
       refine s_nil trivial ?_
       refine n_blo ?_
       refine ni_wp ?_
       refine ig_reg hP hn ?_
       refine s_op k_add ?_
       refine s_op k_mv ?_
       refine s_nil trivial ?_
       exact n_round (each - (j + 1)) (by omega) ⟨j + 1, by omega, rfl, rfl, rfl⟩ weak_tm
     · skip
       have hje : j = each := by omega
       subst hje
       refine i_exit ?_
       refine x_thn ?_
       refine x_thn ?_
       refine x_eq ?_
       refine n_blo ?_
       exact ⟨rfl, weak_tm⟩
 have hat : tot - each * ws.length = B.length := by omega
 rw [hat]
 refine n_blo ?_
 refine n_wp ?_
 refine w_seq ?_
 refine g_reg hP hn ?_
 refine s_op k_ld ?_
 refine s_op k_ld ?_
 refine s_op k_sl ?_
 refine s_op k_mv ?_
 refine s_op (k_cpn B.length) ?_
 refine s_nil trivial ?_
 refine n_wp ?_
 refine w_seq ?_
 refine g_reg hP hn ?_
 refine s_op k_ld ?_
 refine s_op k_as ?_
 refine s_nil trivial ?_
 refine n_wp ?_
 refine w_ret ?_
 have HL : (spl (rr tot each ws.length ws ws.length) (B.take B.length) 0 B.length tot).length = tot := spl_len _ _ _ _ _
 exact d_retw hP hn (r_tmp Tryz.results106) ((frz_sl 0 (l' := spl (rr tot each ws.length ws ws.length) (B.take B.length) 0 B.length tot) (hl := HL) (hl' := by rw [List.drop_zero]; exact List.take_of_length_le (Nat.le_of_eq HL))).trans (wk hE []))

set_option maxRecDepth 100000 in
set_option maxHeartbeats 4000000 in
theorem row0_c (B ws : List Int) (each tot : Nat) (ht : tot = B.length + each * ws.length) (htb : tot ≤ 140737488355328) (hws : ws.length ≤ 1000000) (h0 : B.length = 0) : Con Tryz.prog 106 [.s (.fzi .u8 B), .s (.int .i64 ((each : Nat) : Int)), .s (.fzi .u64 ws)] [] (.s (.fzi .u8 (rr tot each ws.length ws ws.length))) [] := by
 refine con_in 44 Tryz.func106 rfl rfl (m := 0) rfl ?_
 intro E hP hn hE
 refine w_seq ?_
 refine g_reg hP hn ?_
 refine s_op k_bx ?_
 refine s_op k_as ?_
 refine s_nil trivial ?_
 refine n_wp ?_
 refine w_seq ?_
 refine g_reg hP hn ?_
 refine s_op k_mv ?_
 refine s_op k_len ?_
 refine s_op k_ld ?_
 refine s_op k_mv ?_
 refine s_op k_len ?_
 refine s_op k_mul ?_
 refine s_op (k_add (by exact l_bin rfl rfl (b_add (r := ((tot : Nat) : Int)) (by rw [ht]; exact m_add (by omega))))) ?_
 refine s_op k_mk ?_
 refine s_op k_al ?_
 refine s_st k_st ?_
 refine s_nil trivial ?_
 refine n_wp ?_
 refine w_seq ?_
 refine g_reg hP hn ?_
 refine s_op k_ld ?_
 refine s_op k_len ?_
 refine s_op k_al ?_
 refine s_st k_st ?_
 refine s_nil trivial ?_
 refine n_wp ?_
 refine w_seq ?_
 refine w_seq ?_
 refine g_reg hP hn ?_
 refine s_op k_mv ?_
 refine s_op (k_call [] (con := backward_c _)) ?_
 refine s_nil trivial ?_
 refine n_wp ?_
 refine w_block ?_
 have hmul : each * ws.length ≤ tot := by omega
 refine w_weak (weak_tm (T' := [(0, .s (.fzi .u8 B)), (4, .s (.ptr 0 0 0)), (7, .s (.ptr 2 0 0)), (8, .s (.ptr 3 0 0)), (22, .s (.clo 142 1 (capF [.ptr 4 0 0])))])) ?_
 refine w_rangeFunc (gf := 142) (n := 1) (q := capF [.ptr 4 0 0]) (Hend := RH each tot (tot - each * ws.length) (rr tot each ws.length ws ws.length) ws) rfl (by rw [hP]; exact Clb.h) (Nat.le_refl _) (back_iter hP hn 4 ws 23 24 (by decide) (by decide) _ _ _ (fun k => RH each tot (tot - each * k) (rr tot each ws.length ws k) ws) hws (fun _ _ => rfl) (fun k hk => ?_)) ?_
 · have hk1 : each * (k + 1) ≤ each * ws.length := Nat.mul_le_mul_left each hk
   have hnx : tot - each * (k + 1) = tot - each * k - each := by rw [Nat.mul_succ]; omega
   have hA1 : each ≤ tot - each * k := by rw [Nat.mul_succ] at hk1; omega
   have hA2 : tot - each * k ≤ tot := Nat.sub_le _ _
   show YRound _ _ _ _ _ (RH each tot (tot - each * k) (rr tot each ws.length ws k) ws) (RH each tot (tot - each * (k + 1)) (rb (rr tot each ws.length ws k) (tot - each * k) (ws.getD (ws.length - 1 - k) 0) each).1 ws)
   rw [hnx]
   have hout := rr_len tot each ws.length ws k
   generalize tot - each * k = A at *
   generalize rr tot each ws.length ws k = out at *
   generalize ws.getD (ws.length - 1 - k) 0 = v at *
   refine ⟨Nat.le_refl _, [(4, .s (.ptr 0 0 0)), (7, .s (.ptr 2 0 0)), (8, .s (.ptr 3 0 0)), (10, .s (.int .u64 v))], fun l E hP hn hE => ⟨?_, ?_⟩⟩
   · skip
     refine ig_reg hP hn ?_
     refine s_op k_as ?_
     refine s_nil trivial ?_
     exact ⟨rfl, weak_tm⟩
   · skip
     refine i_block ?_
     refine i_seq ?_
     refine ig_reg hP hn ?_
     refine s_op k_ld ?_
     refine s_op k_mv ?_
     refine s_nil trivial ?_
     refine ni_wp ?_
     refine i_block ?_
     refine i_loop (fun m T H => ∃ j, j ≤ each ∧ m = each - j ∧ T = [(4, .s (.ptr 0 0 0)), (7, .s (.ptr 2 0 0)), (8, .s (.ptr 3 0 0)), (10, .s (.int .u64 (rb out A v j).2)), (25, .s (.int .i64 ((each : Nat) : Int))), (26, .s (.int .i64 ((j : Nat) : Int)))] ∧ H = RH each tot (A - j) (rb out A v j).1 ws) (each) ⟨0, by omega, rfl, rfl, rfl⟩ weak_tm ?_
     rintro n_ T_ H_ ⟨j, hj, rfl, rfl, rfl⟩
     have hlj : (rb out A v j).1.length = tot := (rb_len out A v j).trans hout
     refine i_seq ?_
     refine ig_reg hP hn ?_
     refine s_op k_lss ?_
     refine s_nil trivial ?_
     refine ni_wp ?_
     refine i_seq ?_
     refine iw_if rfl (fun h_t27 => ?_) (fun h_t27 => ?_)
     · skip
       refine i_skip ?_
       refine ni_wp ?_
       refine i_seq ?_
       refine i_block ?_
       refine i_seq ?_
       refine ig_reg hP hn ?_
       refine s_op k_ld ?_
       refine s_op k_sub ?_
       refine s_st k_st ?_
       refine s_nil trivial ?_
       refine ni_wp ?_
       refine ig_reg hP hn ?_
       refine s_op k_ld ?_
       refine s_op k_ld ?_
       refine s_op k_mv ?_
       refine s_op k_cv ?_
       refine s_op k_mv ?_
       refine s_op (k_quo (by exact l_bin rfl rfl (b_quo (by decide) rfl))) ?_
       refine s_op k_ix ?_
       refine s_st k_st ?_
       refine s_op k_as ?_
       refine s_nil trivial ?_
       refine n_blo ?_
       refine ni_wp ?_
       refine ig_reg hP hn ?_
       refine s_op k_add ?_
       refine s_op k_mv ?_
       refine s_nil trivial ?_
       exact n_round (each - (j + 1)) (by omega) ⟨j + 1, by omega, rfl, rfl, rfl⟩ weak_tm
     · skip
       have hje : j = each := by omega
       subst hje
       refine i_exit ?_
       refine x_thn ?_
       refine x_thn ?_
       refine x_eq ?_
       refine n_blo ?_
       exact ⟨rfl, weak_tm⟩
 have hat : tot - each * ws.length = B.length := by omega
 rw [hat]
 refine n_blo ?_
 refine n_wp ?_
 refine w_seq ?_
 refine g_reg hP hn ?_
 refine s_op k_ld ?_
 refine s_op k_ld ?_
 refine s_op k_sl ?_
 refine s_op k_mv ?_
 refine s_op a_copy0 ?_
 refine s_nil trivial ?_
 refine n_wp ?_
 refine w_seq ?_
 refine g_reg hP hn ?_
 refine s_op k_ld ?_
 refine s_op k_as ?_
 refine s_nil trivial ?_
 refine n_wp ?_
 refine w_ret ?_
 have HL : (rr tot each ws.length ws ws.length).length = tot := rr_len _ _ _ _ _
 exact d_retw hP hn (r_tmp Tryz.results106) ((frz_sl 0 (l' := rr tot each ws.length ws ws.length) (hl := HL) (hl' := by rw [List.drop_zero]; exact List.take_of_length_le (Nat.le_of_eq HL))).trans (wk hE []))

theorem row_c (B ws : List Int) (each tot : Nat) (ht : tot = B.length + each * ws.length) (htb : tot ≤ 140737488355328) (hws : ws.length ≤ 1000000) : Con Tryz.prog 106 [.s (.fzi .u8 B), .s (.int .i64 ((each : Nat) : Int)), .s (.fzi .u64 ws)] [] (.s (.fzi .u8 (rowL tot B B.length each ws.length ws))) [] := by
 unfold rowL
 by_cases h : B.length = 0
 · rw [if_pos h]; exact row0_c B ws each tot ht htb hws h
 · rw [if_neg h]; exact row1_c B ws each tot ht htb hws (by omega)

set_option maxRecDepth 100000 in
set_option maxHeartbeats 4000000 in
theorem put_c (B : List Int) (v : Int) (n : Nat) (hn8 : n ≤ 8) (hB : B.length ≤ 140737488355000) : Con Tryz.prog 69 [.s (.fzi .u8 B), .s (.int .u64 v), .s (.int .i64 ((n : Nat) : Int))] [] (.s (.fzi .u8 (rowL (B.length + n * 1) B B.length n 1 [v]))) [] := by
 refine con_in 14 Tryz.func69 rfl rfl (m := 0) rfl ?_
 intro E hP hn hE
 refine w_seq ?_
 refine g_reg hP hn ?_
 refine s_op k_as ?_
 refine s_nil trivial ?_
 refine n_wp ?_
 refine w_seq ?_
 refine g_reg hP hn ?_
 refine s_op k_mv ?_
 refine s_op k_mv ?_
 refine s_op (k_min (by exact l_min (r := ((n : Nat) : Int)) rfl rfl (by have := hn8; split <;> omega))) ?_
 refine s_op (k_max (by exact l_max (r := ((n : Nat) : Int)) rfl rfl (by split <;> omega))) ?_
 refine s_op k_mv ?_
 refine s_op k_bsf ?_
 refine s_op (k_call [] (con := row_c B [v] n (B.length + n * 1) rfl (by omega) (Nat.le_of_ble_eq_true rfl))) ?_
 refine s_op k_as ?_
 refine s_nil trivial ?_
 refine n_wp ?_
 refine w_ret ?_
 exact d_ret hP hn hE [] (by first | exact r_tmp Tryz.results69 | exact r_tmpa Tryz.results69)

end Go.Proofs.X
end

section
open Go Go.Bx Go.Proofs
namespace Go.Proofs.X
set_option maxRecDepth 100000 in
set_option maxHeartbeats 4000000 in
theorem rot_c (x k : Int) : Con Tryz.prog 141 [.s (.int .u32 x), .s (.int .i64 k)] [] (.s (.int .u32 (rotI x k))) [] := by
 refine con_in 17 Tryz.func141 rfl rfl (m := 0) rfl ?_
 intro E hP hn hE
 refine w_seq ?_
 refine g_reg hP hn ?_
 refine s_op k_as ?_
 refine s_nil trivial ?_
 refine n_wp ?_
 refine w_seq ?_
 refine g_reg hP hn ?_
 refine s_op k_mv ?_
 refine s_op (k_cv (by exact a_conv rfl rfl)) ?_
 refine s_op (k_and (by exact l_bin rfl rfl (b_and rfl))) ?_
 refine s_op k_as ?_
 refine s_nil trivial ?_
 refine n_wp ?_
 refine w_seq ?_
 refine g_reg hP hn ?_
 refine s_op k_mv ?_
 refine s_op k_mv ?_
 refine s_op (k_shl (by exact l_bin rfl rfl (b_shl (rs_nonneg _) rfl))) ?_
 refine s_op k_mv ?_
 refine s_op k_mv ?_
 refine s_op (k_sub (by exact l_bin rfl rfl (b_sub rfl))) ?_
 refine s_op (k_shr (by exact l_bin rfl rfl (b_shr (wrap_u64_nonneg _) rfl))) ?_
 refine s_op k_or ?_
 refine s_op k_as ?_
 refine s_nil trivial ?_
 refine n_wp ?_
 refine w_ret ?_
 exact d_ret hP hn hE [] (by first | exact r_tmp Tryz.results141 | exact r_tmpa Tryz.results141)

set_option maxRecDepth 100000 in
set_option maxHeartbeats 4000000 in
theorem down_c (x : Int) (ps : List Int) (hl : ps.length ≤ 64) : Con Tryz.prog 123 [.s (.int .u32 x), .s (.fzi .i64 ps)] [] (.s (.int .u32 (dnI x ps ps.length))) [] := by
 refine con_in 22 Tryz.func123 rfl rfl (m := 0) rfl ?_
 intro E hP hn hE
 refine w_seq ?_
 refine g_reg hP hn ?_
 refine s_op k_as ?_
 refine s_nil trivial ?_
 refine n_wp ?_
 refine w_seq ?_
 refine g_reg hP hn ?_
 refine s_op k_as ?_
 refine s_nil trivial ?_
 refine n_wp ?_
 refine w_seq ?_
 refine w_seq ?_
 refine g_reg hP hn ?_
 refine s_op k_mv ?_
 refine s_op k_len ?_
 refine s_op k_mv ?_
 refine s_nil trivial ?_
 refine n_wp ?_
 refine w_block ?_
 refine c_loop (fun m T H => ∃ i, i ≤ ps.length ∧ m = ps.length - i ∧ T = [(0, .s (.int .u32 x)), (5, .s (.int .u32 (dnI x ps i))), (8, .s (.fzi .i64 ps)), (9, .s (.int .i64 ((ps.length : Nat) : Int))), (10, .s (.int .i64 ((i : Nat) : Int)))] ∧ H = []) (ps.length) ⟨0, by omega, rfl, rfl, rfl⟩ (wk hE []) ?_
 rintro n_ T_ H_ ⟨i, hi, rfl, rfl, rfl⟩
 refine w_seq ?_
 refine g_reg hP hn ?_
 refine s_op k_lss ?_
 refine s_nil trivial ?_
 refine n_wp ?_
 refine w_seq ?_
 refine w_if rfl (fun h_t11 => ?_) (fun h_t11 => ?_)
 · skip
   refine w_skip ?_
   refine n_wp ?_
   refine w_seq ?_
   refine w_block ?_
   refine w_seq ?_
   refine g_reg hP hn ?_
   refine s_op k_ix ?_
   refine s_op k_ld ?_
   refine s_op k_as ?_
   refine s_nil trivial ?_
   refine n_wp ?_
   refine g_reg hP hn ?_
   refine s_op k_mv ?_
   refine s_op k_mv ?_
   refine s_op k_mv ?_
   refine s_op k_neg ?_
   refine s_op (k_call [] (con := rot_c _ _)) ?_
   refine s_op k_xor ?_
   refine s_op k_as ?_
   refine s_nil trivial ?_
   refine n_blo ?_
   refine n_wp ?_
   refine g_reg hP hn ?_
   refine s_op k_add ?_
   refine s_op k_mv ?_
   refine s_nil trivial ?_
   exact n_round (ps.length - (i + 1)) (by omega) ⟨i + 1, by omega, rfl, rfl, rfl⟩ (wk hE [])
 · skip
   have hi : i = ps.length := by omega
   subst hi
   refine w_exit ?_
   refine x_thn ?_
   refine x_thn ?_
   refine x_eq ?_
   refine n_wp ?_
   refine w_seq ?_
   refine g_reg hP hn ?_
   refine s_op k_mv ?_
   refine s_op k_as ?_
   refine s_nil trivial ?_
   refine n_wp ?_
   refine w_ret ?_
   exact d_ret hP hn hE [] (by first | exact r_tmp Tryz.results123 | exact r_tmpa Tryz.results123)

set_option maxRecDepth 100000 in
set_option maxHeartbeats 4000000 in
theorem get_c (B : List Int) (m : Nat) (h0 : 0 < m) (h8 : m ≤ 8) (hm : m ≤ B.length) : Con Tryz.prog 42 [.s (.fzi .u8 B), .s (.int .i64 ((m : Nat) : Int))] [] (.tup [.s (.int .u64 (getI B m)), .s (.int .i64 0)]) [] := by
 refine con_in 35 Tryz.func42 rfl rfl (m := 0) rfl ?_
 intro E hP hn hE
 refine w_seq ?_
 refine g_reg hP hn ?_
 refine s_op k_as ?_
 refine s_op k_as ?_
 refine s_nil trivial ?_
 refine n_wp ?_
 refine w_seq ?_
 refine w_seq ?_
 refine g_reg hP hn ?_
 refine s_op k_mv ?_
 refine s_op k_lss ?_
 refine s_op k_mv ?_
 refine s_on rfl rfl rfl k_mv ?_
 refine s_on rfl rfl rfl k_gtr ?_
 refine s_op k_pk ?_
 refine s_nil trivial ?_
 refine n_wp ?_
 refine w_F rfl ?_ 
 refine w_skip ?_
 refine n_wp ?_
 refine w_seq ?_
 refine w_seq ?_
 refine g_reg hP hn ?_
 refine s_op k_mv ?_
 refine s_op k_len ?_
 refine s_op k_mv ?_
 refine s_op k_lss ?_
 refine s_nil trivial ?_
 refine n_wp ?_
 refine w_F rfl ?_ 
 refine w_skip ?_
 refine n_wp ?_
 refine w_seq ?_
 refine g_reg hP hn ?_
 refine s_op k_al ?_
 refine s_nil trivial ?_
 refine n_wp ?_
 refine w_seq ?_
 refine g_reg hP hn ?_
 refine s_op k_mv ?_
 refine s_op k_sub ?_
 refine s_op k_sl ?_
 refine s_op k_mv ?_
 refine s_op (k_cpn m) ?_
 refine s_nil trivial ?_
 refine n_wp ?_
 refine w_seq ?_
 refine w_seq ?_
 refine g_reg hP hn ?_
 refine s_op k_mv ?_
 refine s_nil trivial ?_
 refine n_wp ?_
 refine w_block ?_
 refine c_loop (fun q T H => ∃ i, i ≤ 8 ∧ q = 8 - i ∧ T = [(4, .s (.int .u64 (gI (spl (z 8) (B.take m) (8 - m) m 8) i))), (6, .s (.ptr 0 0 0)), (23, .s (.int .i64 ((i : Nat) : Int)))] ∧ H = [some ⟨true, [.ints .u8 8 (spl (z 8) (B.take m) (8 - m) m 8)]⟩]) (8) ⟨0, by omega, rfl, rfl, rfl⟩ (wk hE []) ?_
 rintro n_ T_ H_ ⟨i, hi, rfl, rfl, rfl⟩
 refine w_seq ?_
 refine g_reg hP hn ?_
 refine s_op k_lss ?_
 refine s_nil trivial ?_
 refine n_wp ?_
 refine w_seq ?_
 refine w_if rfl (fun h_t24 => ?_) (fun h_t24 => ?_)
 · skip
   refine w_skip ?_
   refine n_wp ?_
   refine w_seq ?_
   refine w_block ?_
   refine w_seq ?_
   refine g_reg hP hn ?_
   refine s_op k_mv ?_
   refine s_op k_as ?_
   refine s_nil trivial ?_
   refine n_wp ?_
   refine g_reg hP hn ?_
   refine s_op k_mv ?_
   refine s_op k_mul ?_
   refine s_op k_mv ?_
   refine s_op k_ix ?_
   refine s_op k_ld ?_
   refine s_op k_cv ?_
   refine s_op k_add ?_
   refine s_op k_as ?_
   refine s_nil trivial ?_
   refine n_blo ?_
   refine n_wp ?_
   refine g_reg hP hn ?_
   refine s_op k_add ?_
   refine s_op k_mv ?_
   refine s_nil trivial ?_
   exact n_round (8 - (i + 1)) (by omega) ⟨i + 1, by omega, rfl, rfl, rfl⟩ (wk hE [])
 · skip
   have hi : i = 8 := by omega
   subst hi
   refine w_exit ?_
   refine x_thn ?_
   refine x_thn ?_
   refine x_eq ?_
   refine n_wp ?_
   refine w_seq ?_
   refine g_reg hP hn ?_
   refine s_op k_mv ?_
   refine s_op k_as ?_
   refine s_op k_as ?_
   refine s_nil trivial ?_
   refine n_wp ?_
   refine w_ret ?_
   exact d_ret hP hn hE [] (ret2 Tryz.results42 (by first | exact ri_tmp rfl | exact ri_tmpa rfl) (by first | exact ri_tmp rfl | exact ri_tmpa rfl))

set_option maxRecDepth 100000 in
set_option maxHeartbeats 4000000 in
theorem adds_c  : Con Tryz.prog 122 [] [] (.agg [.ints .u32 64 KS]) [] := by
 refine con_in 2 Tryz.func122 rfl rfl (m := 0) rfl ?_
 intro E hP hn hE
 refine w_seq ?_
 refine g_reg hP hn ?_
 refine s_op k_al ?_
 refine s_nil trivial ?_
 refine n_wp ?_
 refine w_seq ?_
 refine g_reg hP hn ?_
 refine s_op (k_bd (by exact a_buildK KS (by kernel_rfl) (by kernel_rfl) rfl)) ?_
 refine s_st k_st ?_
 refine s_nil trivial ?_
 refine n_wp ?_
 refine w_ret ?_
 exact d_ret hP hn hE [] (r_cell Tryz.results122)

end Go.Proofs.X
end

section
open Go Go.Bx Go.Proofs
namespace Go.Proofs.X
attribute [local irreducible] dnI gI
set_option maxRecDepth 100000 in
set_option maxHeartbeats 4000000 in
theorem numA_c (w : List Int) (t : Nat) (s b : List Int) (n l : Int) (hw : w.length = 16) (hb : b.length = 64) (ht : t < 16) : Con Tryz.prog 140 [.s (.ptr 0 0 0), .s (.ptr 1 0 0), .s (.ptr 2 0 0)] [some ⟨true, [.ints .u32 16 w]⟩, some ⟨true, [.one (.int .i64 ((t : Nat) : Int))]⟩, some ⟨true, [.one (.ptr 3 1 0)]⟩, some ⟨true, RUN s b n l⟩] (.s (.int .u32 ((w.set (t % 16) (IntKind.u32.wrap (getI ((b.drop (4 * t)).take (64 - 4 * t)) 4))).getD (t % 16) 0))) [some ⟨true, [.ints .u32 16 (w.set (t % 16) (IntKind.u32.wrap (getI ((b.drop (4 * t)).take (64 - 4 * t)) 4)))]⟩, some ⟨true, [.one (.int .i64 ((t + 1 : Nat) : Int))]⟩, some ⟨true, [.one (.ptr 3 1 0)]⟩, some ⟨true, RUN s b n l⟩] := by
 refine con_in 75 Tryz.func140 rfl rfl (m := 4) rfl ?_
 intro E hP hn hE
 refine w_seq ?_
 refine g_reg hP hn ?_
 refine s_op k_as ?_
 refine s_nil trivial ?_
 refine n_wp ?_
 refine w_seq ?_
 refine g_reg hP hn ?_
 refine s_op k_ld ?_
 refine s_op k_rem ?_
 refine s_op k_ix ?_
 refine s_op k_as ?_
 refine s_nil trivial ?_
 refine n_wp ?_
 refine w_seq ?_
 refine w_seq ?_
 refine g_reg hP hn ?_
 refine s_op k_ld ?_
 refine s_op k_lss ?_
 refine s_nil trivial ?_
 refine n_wp ?_
 refine w_T rfl ?_ 
 refine w_seq ?_
 refine g_any hP hn ?_
 refine s_op k_ld ?_
 refine s_op k_nc ?_
 refine s_op k_fa ?_
 refine s_op k_ld ?_
 refine s_op k_mul ?_
 refine s_op k_sl ?_
 refine s_op (k_tmp 3 (h := k_call [] (con := get_c ((b.drop (4 * t)).take (64 - 4 * t)) 4 (by decide) (by decide) (by simp [hb]; omega)))) ?_
 refine s_op k_mv ?_
 refine s_op k_ex ?_
 refine s_op k_ex ?_
 refine s_op k_as ?_
 refine s_op k_as ?_
 refine s_nil (by kernel_rfl) ?_
 refine n_wp ?_
 refine g_reg hP hn ?_
 refine s_op k_mv ?_
 refine s_op k_mv ?_
 refine s_op k_cv ?_
 refine s_op k_nc ?_
 refine s_st k_st ?_
 refine s_nil trivial ?_
 refine n_wp ?_
 refine w_seq ?_
 refine g_reg hP hn ?_
 refine s_op k_ld ?_
 refine s_op k_add ?_
 refine s_st k_st ?_
 refine s_nil trivial ?_
 refine n_wp ?_
 refine w_seq ?_
 refine g_reg hP hn ?_
 refine s_op k_mv ?_
 refine s_op k_nc ?_
 refine s_op k_ld ?_
 refine s_op k_as ?_
 refine s_nil trivial ?_
 refine n_wp ?_
 refine w_ret ?_
 exact d_ret hP hn hE [] (by first | exact r_tmp Tryz.results140 | exact r_tmpa Tryz.results140)

set_option maxRecDepth 100000 in
set_option maxHeartbeats 4000000 in
theorem numB_c (w : List Int) (t : Nat) (s b : List Int) (n l : Int) (hw : w.length = 16) (hb : b.length = 64) (ht : ¬ t < 16) (ht2 : t < 64) : Con Tryz.prog 140 [.s (.ptr 0 0 0), .s (.ptr 1 0 0), .s (.ptr 2 0 0)] [some ⟨true, [.ints .u32 16 w]⟩, some ⟨true, [.one (.int .i64 ((t : Nat) : Int))]⟩, some ⟨true, [.one (.ptr 3 1 0)]⟩, some ⟨true, RUN s b n l⟩] (.s (.int .u32 ((wn3 (wn2 (wn1 w t) (w.getD ((t + 14) % 16) 0) t) t).getD (t % 16) 0))) [some ⟨true, [.ints .u32 16 (wn3 (wn2 (wn1 w t) (w.getD ((t + 14) % 16) 0) t) t)]⟩, some ⟨true, [.one (.int .i64 ((t + 1 : Nat) : Int))]⟩, some ⟨true, [.one (.ptr 3 1 0)]⟩, some ⟨true, RUN s b n l⟩] := by
 refine con_in 75 Tryz.func140 rfl rfl (m := 4) rfl ?_
 intro E hP hn hE
 refine w_seq ?_
 refine g_reg hP hn ?_
 refine s_op k_as ?_
 refine s_nil trivial ?_
 refine n_wp ?_
 refine w_seq ?_
 refine g_reg hP hn ?_
 refine s_op k_ld ?_
 refine s_op k_rem ?_
 refine s_op k_ix ?_
 refine s_op k_as ?_
 refine s_nil trivial ?_
 refine n_wp ?_
 refine w_seq ?_
 refine w_seq ?_
 refine g_reg hP hn ?_
 refine s_op k_ld ?_
 refine s_op k_lss ?_
 refine s_nil trivial ?_
 refine n_wp ?_
 refine w_F rfl ?_ 
 refine w_seq ?_
 refine g_any hP hn ?_
 refine s_op k_ld ?_
 refine s_op k_add ?_
 refine s_op k_rem ?_
 refine s_op k_ix ?_
 refine s_op k_ld ?_
 refine s_op k_ld ?_
 refine s_op k_add ?_
 refine s_op k_rem ?_
 refine s_op k_ix ?_
 refine s_op k_ld ?_
 refine s_op k_as ?_
 refine s_op k_as ?_
 refine s_nil (by kernel_rfl) ?_
 refine n_wp ?_
 refine w_seq ?_
 refine g_any hP hn ?_
 refine s_op k_mv ?_
 refine s_op k_nc ?_
 refine s_op k_ld ?_
 refine s_op k_mv ?_
 refine s_op k_bsf ?_
 refine s_op (k_call [] (con := down_c _ _ (by decide))) ?_
 refine s_op k_mv ?_
 refine s_op k_shr ?_
 refine s_op k_xor ?_
 refine s_op k_add ?_
 refine s_op k_nc ?_
 refine s_st k_st ?_
 refine s_nil (by kernel_rfl) ?_
 refine n_wp ?_
 refine w_seq ?_
 refine g_any hP hn ?_
 refine s_op k_mv ?_
 refine s_op k_nc ?_
 refine s_op k_ld ?_
 refine s_op k_mv ?_
 refine s_op k_bsf ?_
 refine s_op (k_call [] (con := down_c _ _ (by decide))) ?_
 refine s_op k_mv ?_
 refine s_op k_shr ?_
 refine s_op k_xor ?_
 refine s_op k_add ?_
 refine s_op k_nc ?_
 refine s_st k_st ?_
 refine s_nil (by kernel_rfl) ?_
 refine n_wp ?_
 refine g_any hP hn ?_
 refine s_op k_mv ?_
 refine s_op k_nc ?_
 refine s_op k_ld ?_
 refine s_op k_ld ?_
 refine s_op k_add ?_
 refine s_op k_rem ?_
 refine s_op k_ix ?_
 refine s_op k_ld ?_
 refine s_op k_add ?_
 refine s_op k_nc ?_
 refine s_st k_st ?_
 refine s_nil (by kernel_rfl) ?_
 refine n_wp ?_
 refine w_seq ?_
 refine g_reg hP hn ?_
 refine s_op k_ld ?_
 refine s_op k_add ?_
 refine s_st k_st ?_
 refine s_nil trivial ?_
 refine n_wp ?_
 refine w_seq ?_
 refine g_reg hP hn ?_
 refine s_op k_mv ?_
 refine s_op k_nc ?_
 refine s_op k_ld ?_
 refine s_op k_as ?_
 refine s_nil trivial ?_
 refine n_wp ?_
 refine w_ret ?_
 exact d_ret hP hn hE [] (by first | exact r_tmp Tryz.results140 | exact r_tmpa Tryz.results140)

theorem num_c (w : List Int) (t : Nat) (s b : List Int) (n l : Int) (hw : w.length = 16) (hb : b.length = 64) (ht : t < 64) : Con Tryz.prog 140 [.s (.ptr 0 0 0), .s (.ptr 1 0 0), .s (.ptr 2 0 0)] [some ⟨true, [.ints .u32 16 w]⟩, some ⟨true, [.one (.int .i64 ((t : Nat) : Int))]⟩, some ⟨true, [.one (.ptr 3 1 0)]⟩, some ⟨true, RUN s b n l⟩] (.s (.int .u32 ((wn b w t).getD (t % 16) 0))) [some ⟨true, [.ints .u32 16 (wn b w t)]⟩, some ⟨true, [.one (.int .i64 ((t + 1 : Nat) : Int))]⟩, some ⟨true, [.one (.ptr 3 1 0)]⟩, some ⟨true, RUN s b n l⟩] := by
 by_cases h : t < 16
 · rw [wn_lt b w h]; exact numA_c w t s b n l hw hb h
 · rw [wn_ge b w h]; exact numB_c w t s b n l hw hb h ht

set_option maxRecDepth 100000 in
set_option maxHeartbeats 4000000 in
theorem numbers_c (s b : List Int) (n l : Int) : Con Tryz.prog 121 [.s (.ptr 0 1 0)] [some ⟨true, RUN s b n l⟩] (.s (.clo 140 3 (capF [.ptr 2 0 0, .ptr 3 0 0, .ptr 1 0 0]))) [some ⟨true, RUN s b n l⟩, some ⟨true, [.one (.ptr 0 1 0)]⟩, some ⟨true, [.ints .u32 16 (z 16)]⟩, some ⟨true, [.one (.int .i64 ((0 : Nat) : Int))]⟩] := by
 refine con_in 6 Tryz.func121 rfl rfl (m := 1) rfl ?_
 intro E hP hn hE
 refine w_seq ?_
 refine g_reg hP hn ?_
 refine s_op k_bx ?_
 refine s_op k_as ?_
 refine s_nil trivial ?_
 refine n_wp ?_
 refine w_seq ?_
 refine g_reg hP hn ?_
 refine s_op k_al ?_
 refine s_nil trivial ?_
 refine n_wp ?_
 refine w_seq ?_
 refine g_reg hP hn ?_
 refine s_op k_al ?_
 refine s_st k_st ?_
 refine s_nil trivial ?_
 refine n_wp ?_
 refine w_seq ?_
 refine g_reg hP hn ?_
 refine s_op (k_fn [.ptr 2 0 0, .ptr 3 0 0, .ptr 1 0 0]) ?_
 refine s_op k_as ?_
 refine s_nil trivial ?_
 refine n_wp ?_
 refine w_ret ?_
 exact d_ret hP hn hE [] (by first | exact r_tmp Tryz.results121 | exact r_tmpa Tryz.results121)

set_option maxRecDepth 100000 in
set_option maxHeartbeats 4000000 in
theorem after_c (s0 s b : List Int) (n l : Int) (hs : s0.length = 8) (hb : b.length = 64) : Con Tryz.prog 104 [.agg [.ints .u32 8 s0], .s (.ptr 0 1 0)] [some ⟨true, RUN s b n l⟩] (.agg [.ints .u32 8 (aft s0 b)]) [some ⟨true, RUN s b n l⟩] := by
 refine con_in 90 Tryz.func104 rfl rfl (m := 1) rfl ?_
 intro E hP hn hE
 refine w_seq ?_
 refine g_reg hP hn ?_
 refine s_op k_bx ?_
 refine s_op k_al ?_
 refine s_nil trivial ?_
 refine n_wp ?_
 refine w_seq ?_
 refine g_any hP hn ?_
 refine s_op k_ld ?_
 refine s_op k_mv ?_
 refine s_op (k_call [0] (con := numbers_c _ _ _ _)) ?_
 refine s_heap (H' := [some ⟨true, RUN s b n l⟩, some ⟨true, [.ints .u32 8 s0]⟩, some ⟨true, [.ints .u32 8 (z 8)]⟩, some ⟨true, [.one (.ptr 0 1 0)]⟩, some ⟨true, [.ints .u32 16 (z 16)]⟩, some ⟨true, [.one (.int .i64 ((0 : Nat) : Int))]⟩]) rfl ?_
 refine s_op k_al ?_
 refine s_st k_st ?_
 refine s_op k_as ?_
 refine s_nil (by kernel_rfl) ?_
 refine n_wp ?_
 refine w_seq ?_
 refine w_seq ?_
 refine g_reg hP hn ?_
 refine s_op (k_call [] (con := adds_c)) ?_
 refine s_op k_mv ?_
 refine s_nil trivial ?_
 refine n_wp ?_
 refine w_block ?_
 refine c_loop (fun q T H => ∃ i, i ≤ 64 ∧ q = 64 - i ∧ T = [(2, .s (.ptr 1 0 0)), (4, .s (.ptr 2 0 0)), (5, .s (.ptr 6 0 0)), (6, .s (.clo 140 3 (capF [.ptr 4 0 0, .ptr 5 0 0, .ptr 3 0 0]))), (16, .agg [.ints .u32 64 KS]), (17, .s (.int .i64 ((i : Nat) : Int)))] ∧ H = [some ⟨true, RUN s b n l⟩, some ⟨true, [.ints .u32 8 s0]⟩, some ⟨true, [.ints .u32 8 (z 8)]⟩, some ⟨true, [.one (.ptr 0 1 0)]⟩, some ⟨true, [.ints .u32 16 (ws b i)]⟩, some ⟨true, [.one (.int .i64 ((i : Nat) : Int))]⟩, some ⟨true, [.ints .u32 8 (ls s0 b i)]⟩]) (64) ⟨0, by omega, rfl, rfl, rfl⟩ (wk hE []) ?_
 rintro n_ T_ H_ ⟨i, hi, rfl, rfl, rfl⟩
 refine w_seq ?_
 refine g_reg hP hn ?_
 refine s_op k_lss ?_
 refine s_nil trivial ?_
 refine n_wp ?_
 refine w_seq ?_
 refine w_if rfl (fun h_t18 => ?_) (fun h_t18 => ?_)
 · skip
   have h8 := ls_len s0 b hs i
   have h16 := ws_len b i
   refine w_skip ?_
   refine n_wp ?_
   refine w_seq ?_
   refine w_block ?_
   refine w_seq ?_
   refine g_reg hP hn ?_
   refine s_op k_id ?_
   refine s_op k_as ?_
   refine s_nil trivial ?_
   refine n_wp ?_
   refine w_seq ?_
   refine g_any hP hn ?_
   refine s_op k_ix ?_
   refine s_op k_ld ?_
   refine s_op k_ix ?_
   refine s_op k_ld ?_
   refine s_op k_bsf ?_
   refine s_op (k_call [] (con := down_c _ _ (by decide))) ?_
   refine s_op k_add ?_
   refine s_op k_ix ?_
   refine s_op k_ld ?_
   refine s_op k_ix ?_
   refine s_op k_ld ?_
   refine s_op k_and ?_
   refine s_op k_ix ?_
   refine s_op k_ld ?_
   refine s_op k_com ?_
   refine s_op k_ix ?_
   refine s_op k_ld ?_
   refine s_op k_and ?_
   refine s_op k_or ?_
   refine s_op k_add ?_
   refine s_op k_mv ?_
   refine s_op k_add ?_
   refine s_op k_mv ?_
   refine s_op (k_callc [4, 5, 3, 0] rfl (con := num_c (ws b i) i s b n l h16 hb h_t18)) ?_
   refine s_heap (H' := [some ⟨true, RUN s b n l⟩, some ⟨true, [.ints .u32 8 s0]⟩, some ⟨true, [.ints .u32 8 (z 8)]⟩, some ⟨true, [.one (.ptr 0 1 0)]⟩, some ⟨true, [.ints .u32 16 (wn b (ws b i) i)]⟩, some ⟨true, [.one (.int .i64 ((i + 1 : Nat) : Int))]⟩, some ⟨true, [.ints .u32 8 (ls s0 b i)]⟩, none]) rfl ?_
   refine s_op k_add ?_
   refine s_op k_as ?_
   refine s_nil (by kernel_rfl) ?_
   refine n_wp ?_
   refine w_seq ?_
   refine g_any hP hn ?_
   refine s_op k_ix ?_
   refine s_op k_ld ?_
   refine s_op k_bsf ?_
   refine s_op (k_call [] (con := down_c _ _ (by decide))) ?_
   refine s_op k_ix ?_
   refine s_op k_ld ?_
   refine s_op k_ix ?_
   refine s_op k_ld ?_
   refine s_op k_ix ?_
   refine s_op k_ld ?_
   refine s_op k_xor ?_
   refine s_op k_and ?_
   refine s_op k_ix ?_
   refine s_op k_ld ?_
   refine s_op k_ix ?_
   refine s_op k_ld ?_
   refine s_op k_and ?_
   refine s_op k_xor ?_
   refine s_op k_add ?_
   refine s_op k_as ?_
   refine s_nil (by kernel_rfl) ?_
   refine n_wp ?_
   refine w_seq ?_
   refine g_any hP hn ?_
   refine s_op k_sl ?_
   refine s_op k_sl ?_
   refine s_op (k_cpn 7) ?_
   refine s_nil (by kernel_rfl) ?_
   refine n_wp ?_
   refine w_seq ?_
   refine g_reg hP hn ?_
   refine s_op k_ix ?_
   refine s_op k_ld ?_
   refine s_op k_mv ?_
   refine s_op k_add ?_
   refine s_op k_ix ?_
   refine s_st k_st ?_
   refine s_nil trivial ?_
   refine n_wp ?_
   refine g_reg hP hn ?_
   refine s_op k_mv ?_
   refine s_op k_mv ?_
   refine s_op k_add ?_
   refine s_op k_ix ?_
   refine s_st k_st ?_
   refine s_nil trivial ?_
   refine n_blo ?_
   refine n_wp ?_
   refine g_reg hP hn ?_
   refine s_op k_add ?_
   refine s_op k_mv ?_
   refine s_nil trivial ?_
   exact n_round (64 - (i + 1)) (by omega) ⟨i + 1, by omega, rfl, rfl, rfl⟩ (wk hE [])
 · skip
   have hi : i = 64 := by omega
   subst hi
   have h8 := ls_len s0 b hs 64
   refine w_exit ?_
   refine x_thn ?_
   refine x_thn ?_
   refine x_eq ?_
   refine n_wp ?_
   refine w_seq ?_
   refine w_seq ?_
   refine g_reg hP hn ?_
   refine s_op k_ld ?_
   refine s_op k_mv ?_
   refine s_nil trivial ?_
   refine n_wp ?_
   refine w_block ?_
   refine c_loop (fun q T H => ∃ i, i ≤ 8 ∧ q = 8 - i ∧ T = [(4, .s (.ptr 2 0 0)), (5, .s (.ptr 6 0 0)), (77, .agg [.ints .u32 8 s0]), (78, .s (.int .i64 ((i : Nat) : Int)))] ∧ H = [some ⟨true, RUN s b n l⟩, some ⟨true, [.ints .u32 8 s0]⟩, some ⟨true, [.ints .u32 8 (z 8)]⟩, some ⟨true, [.one (.ptr 0 1 0)]⟩, some ⟨true, [.ints .u32 16 (ws b 64)]⟩, some ⟨true, [.one (.int .i64 ((64 : Nat) : Int))]⟩, some ⟨true, [.ints .u32 8 (fin s0 (ls s0 b 64) i)]⟩]) (8) ⟨0, by omega, rfl, rfl, rfl⟩ (wk hE []) ?_
   rintro n_ T_ H_ ⟨i, hi, rfl, rfl, rfl⟩
   refine w_seq ?_
   refine g_reg hP hn ?_
   refine s_op k_lss ?_
   refine s_nil trivial ?_
   refine n_wp ?_
   refine w_seq ?_
   refine w_if rfl (fun h_t79 => ?_) (fun h_t79 => ?_)
   · skip
     have h8 := (fin_len s0 (ls s0 b 64) i).trans (ls_len s0 b hs 64)
     refine w_skip ?_
     refine n_wp ?_
     refine w_seq ?_
     refine w_block ?_
     refine w_seq ?_
     refine g_reg hP hn ?_
     refine s_op k_mv ?_
     refine s_op k_id ?_
     refine s_op k_as ?_
     refine s_op k_as ?_
     refine s_nil trivial ?_
     refine n_wp ?_
     refine g_reg hP hn ?_
     refine s_op k_mv ?_
     refine s_op k_ix ?_
     refine s_op k_ld ?_
     refine s_op k_mv ?_
     refine s_op k_add ?_
     refine s_op k_ix ?_
     refine s_st k_st ?_
     refine s_nil trivial ?_
     refine n_blo ?_
     refine n_wp ?_
     refine g_reg hP hn ?_
     refine s_op k_add ?_
     refine s_op k_mv ?_
     refine s_nil trivial ?_
     exact n_round (8 - (i + 1)) (by omega) ⟨i + 1, by omega, rfl, rfl, rfl⟩ (wk hE [])
   · skip
     have hi : i = 8 := by omega
     subst hi
     refine w_exit ?_
     refine x_thn ?_
     refine x_thn ?_
     refine x_eq ?_
     refine n_wp ?_
     refine w_seq ?_
     refine g_reg hP hn ?_
     refine s_op k_ld ?_
     refine s_st k_st ?_
     refine s_nil trivial ?_
     refine n_wp ?_
     refine w_ret ?_
     exact d_ret hP hn hE [] (r_cell Tryz.results104)

end Go.Proofs.X
end

section
open Go Go.Bx Go.Proofs
namespace Go.Proofs.X
attribute [local irreducible] ws ls dnI gI
set_option maxRecDepth 100000 in
set_option maxHeartbeats 4000000 in
theorem takes_c (L : List (List Int)) (q0 : Run) (tot : Nat) (hq0 : RunOk q0) (hL : L.length ≤ 1000000) (hl : tot + L.flatten.length < 18446744073709551616) (hB : ∀ i, (L.getD i []).length ≤ 4611686018427387904) : Con Tryz.prog 67 [.s (.ptr 0 0 0), .s (ROWS L)] [some (RQ q0 tot)] (.tup []) [some (RQ (tk q0 L.flatten) (tot + L.flatten.length))] := by
 refine con_in 76 Tryz.func67 rfl rfl (m := 1) rfl ?_
 intro E hP hn hE
 refine w_seq ?_
 refine g_reg hP hn ?_
 refine s_op k_mv ?_
 refine s_op k_len ?_
 refine s_op k_mv ?_
 refine s_nil trivial ?_
 refine n_wp ?_
 refine w_block ?_
 refine c_loop (fun m T H => ∃ i q, i ≤ L.length ∧ m = L.length - i ∧ q = tk q0 (L.take i).flatten ∧ T = [(0, .s (.ptr 0 0 0)), (8, .s (ROWS L)), (9, .s (.int .i64 ((L.length : Nat) : Int))), (10, .s (.int .i64 ((i : Nat) : Int)))] ∧ H = [some (RQ q (tot + ((L.take i).flatten).length))]) (L.length) ⟨0, q0, by omega, rfl, by simp [tk], rfl, rfl⟩ (wk hE []) ?_
 rintro n_ T_ H_ ⟨i, q, hi, rfl, hq, rfl, rfl⟩
 have hok : RunOk q := hq ▸ tk_ok hq0 _
 refine w_seq ?_
 refine g_reg hP hn ?_
 refine s_op k_lss ?_
 refine s_nil trivial ?_
 refine n_wp ?_
 refine w_seq ?_
 refine w_if rfl (fun h_t11 => ?_) (fun h_t11 => ?_)
 · skip
   have hfl := flat_s L h_t11
   have htot : (L.take (i + 1)).flatten.length = (L.take i).flatten.length + (L.getD i []).length := by rw [hfl, List.length_append]
   have hstart : tk q (L.getD i []) = tk q0 (L.take (i + 1)).flatten := by rw [hfl, tk_append, hq]
   have hle : (L.take (i + 1)).flatten.length ≤ L.flatten.length := by
     have := congrArg (fun x => (List.flatten x).length) (List.take_append_drop (i + 1) L)
     simp only [List.flatten_append, List.length_append] at this
     omega
   refine w_skip ?_
   refine n_wp ?_
   refine w_seq ?_
   refine w_block ?_
   refine w_seq ?_
   refine g_reg hP hn ?_
   refine s_op k_ix ?_
   refine s_op (k_ld (by exact a_loadf (v := .fzi .u8 (L.getD i [])) rfl (by omega) (rows_at L h_t11))) ?_
   refine s_op k_as ?_
   refine s_nil trivial ?_
   refine n_wp ?_
   refine w_seq ?_
   refine g_reg hP hn ?_
   refine s_op k_mv ?_
   refine s_op k_nc ?_
   refine s_op k_fa ?_
   refine s_op k_ld ?_
   refine s_op k_mv ?_
   refine s_op k_len ?_
   refine s_op k_cv ?_
   refine s_op k_add ?_
   refine s_op k_nc ?_
   refine s_op k_fa ?_
   refine s_st k_st ?_
   refine s_nil trivial ?_
   refine n_wp ?_
   refine w_block ?_
   refine c_loop (fun m T H => ∃ (q : Run) (W : List Int), RunOk q ∧ tk q W = tk q0 (L.take (i + 1)).flatten ∧ W.length ≤ 4611686018427387904 ∧ m = W.length ∧ T = [(0, .s (.ptr 0 0 0)), (8, .s (ROWS L)), (9, .s (.int .i64 ((L.length : Nat) : Int))), (10, .s (.int .i64 ((i : Nat) : Int))), (5, .s (.fzi .u8 W))] ∧ H = [some (RQ q (tot + (L.take i).flatten.length + (L.getD i []).length))]) ((L.getD i []).length) ⟨q, (L.getD i []), hok, hstart, hB i, rfl, rfl, rfl⟩ (wk hE []) ?_
   rintro n_ T_ H_ ⟨q, W, hok, hW, hWl, rfl, rfl, rfl⟩
   have hm := hok.m
   have hbl := hok.b
   have hsl := hok.s
   refine w_seq ?_
   refine w_seq ?_
   refine g_reg hP hn ?_
   refine s_op k_mv ?_
   refine s_op k_len ?_
   refine s_op k_gtr ?_
   refine s_nil trivial ?_
   refine n_wp ?_
   refine w_if rfl (fun h_t26 => ?_) (fun h_t26 => ?_)
   · skip
     obtain ⟨m, hmm⟩ : ∃ m, m = min W.length (64 - q.m) := ⟨_, rfl⟩
     have hok2 : RunOk (chunk q (W.take m) m) := chunk_ok hok _ _ (by omega)
     have hW2 : tk (chunk q (W.take m) m) ((W.drop m).take (W.length - m)) = tk q0 (L.take (i + 1)).flatten := by
       rw [← tk_chunk q hok _ m (by simp; omega) (by omega) (by omega), ← tk_append, show (W.drop m).take (W.length - m) = W.drop m from List.take_of_length_le (by simp), List.take_append_drop]; exact hW
     refine w_skip ?_
     refine n_wp ?_
     refine w_block ?_
     refine w_seq ?_
     refine g_any hP hn ?_
     refine s_op k_mv ?_
     refine s_op k_nc ?_
     refine s_op k_fa ?_
     refine s_op k_fa ?_
     refine s_op k_mv ?_
     refine s_op k_nc ?_
     refine s_op k_fa ?_
     refine s_op k_fa ?_
     refine s_op k_ld ?_
     refine s_op k_sl ?_
     refine s_op k_mv ?_
     refine s_op (k_cpn m) ?_
     refine s_op k_as ?_
     refine s_nil (by kernel_rfl) ?_
     refine n_wp ?_
     refine w_seq ?_
     refine g_reg hP hn ?_
     refine s_op k_mv ?_
     refine s_op k_mv ?_
     refine s_op k_sl ?_
     refine s_op k_as ?_
     refine s_nil trivial ?_
     refine n_wp ?_
     refine w_seq ?_
     refine g_reg hP hn ?_
     refine s_op k_mv ?_
     refine s_op k_nc ?_
     refine s_op k_fa ?_
     refine s_op k_fa ?_
     refine s_op k_ld ?_
     refine s_op k_mv ?_
     refine s_op k_add ?_
     refine s_op k_nc ?_
     refine s_op k_fa ?_
     refine s_op k_fa ?_
     refine s_st k_st ?_
     refine s_nil trivial ?_
     refine n_wp ?_
     refine w_seq ?_
     refine g_reg hP hn ?_
     refine s_op k_mv ?_
     refine s_op k_nc ?_
     refine s_op k_fa ?_
     refine s_op k_fa ?_
     refine s_op k_ld ?_
     refine s_op k_eql ?_
     refine s_nil trivial ?_
     refine n_wp ?_
     refine w_if rfl (fun h_t57 => ?_) (fun h_t57 => ?_)
     · skip
       have hc : chunk q (W.take m) m = ⟨aft q.s (spl q.b (W.take m) q.m m 64), (spl q.b (W.take m) q.m m 64), 0⟩ := if_pos h_t57
       rw [hc] at hok2 hW2
       refine w_seq ?_
       refine g_any hP hn ?_
       refine s_op k_mv ?_
       refine s_op k_nc ?_
       refine s_op k_fa ?_
       refine s_op k_ld ?_
       refine s_op k_nc ?_
       refine s_op k_ld ?_
       refine s_op k_mv ?_
       refine s_op k_nc ?_
       refine s_op k_fa ?_
       refine s_op (k_call [0] (con := after_c _ _ (spl q.b (W.take m) q.m m 64) _ _ hsl (spl_len _ _ _ _ _))) ?_
       refine s_heap (H' := [some ⟨true, RUN q.s (spl q.b (W.take m) q.m m 64) ((q.m + m : Nat) : Int) ((tot + (L.take i).flatten.length + (L.getD i []).length : Nat) : Int)⟩]) rfl ?_
       refine s_op k_al ?_
       refine s_st k_st ?_
       refine s_nil (by kernel_rfl) ?_
       refine n_wp ?_
       refine w_weak (frz_ptr 7 8) ?_
       refine g_reg hP hn ?_
       refine s_op k_mv ?_
       refine s_op k_mv ?_
       refine s_op k_nc ?_
       refine s_op k_fa ?_
       refine s_st k_st ?_
       refine s_op k_nc ?_
       refine s_op k_fa ?_
       refine s_op k_fa ?_
       refine s_st k_st ?_
       refine s_nil trivial ?_
       refine n_blo ?_
       exact n_round (W.length - m) (by omega) ⟨_, _, hok2, hW2, by simp; omega, by simp, rfl, rfl⟩ (wk hE [])
     · skip
       have hc : chunk q (W.take m) m = ⟨q.s, (spl q.b (W.take m) q.m m 64), q.m + m⟩ := if_neg h_t57
       rw [hc] at hok2 hW2
       refine w_skip ?_
       refine n_blo ?_
       exact n_round (W.length - m) (by omega) ⟨_, _, hok2, hW2, by simp; omega, by simp, rfl, rfl⟩ (wk hE [])
   · skip
     have h0 : W = [] := List.length_eq_zero_iff.1 (by omega)
     subst h0
     have hdone : q = tk q0 (L.take (i + 1)).flatten := hW
     rw [Nat.add_assoc, ← htot]
     refine w_exit ?_
     refine x_thn ?_
     refine x_thn ?_
     refine x_eq ?_
     refine n_blo ?_
     refine n_wp ?_
     refine g_reg hP hn ?_
     refine s_op k_add ?_
     refine s_op k_mv ?_
     refine s_nil trivial ?_
     exact n_round (L.length - (i + 1)) (by omega) ⟨i + 1, q, by omega, rfl, hdone, rfl, rfl⟩ (wk hE [])
 · skip
   have hi : i = L.length := by omega
   subst hi
   have hfull : L.take L.length = L := List.take_length
   rw [hfull] at hq ⊢
   subst hq
   refine w_exit ?_
   refine x_thn ?_
   refine x_thn ?_
   refine x_eq ?_
   exact d_ret hP hn hE [] (ret_none Tryz.results67)

end Go.Proofs.X
end

section
open Go Go.Bx Go.Proofs
namespace Go.Proofs.X
attribute [local irreducible] tk rr ws ls dnI gI
set_option maxRecDepth 100000 in
set_option maxHeartbeats 4000000 in
theorem new_c  : Con Tryz.prog 66 [] [] (.s (.ptr 0 0 0)) [some (RQ run0 0)] := by
 refine con_in 5 Tryz.func66 rfl rfl (m := 0) rfl ?_
 intro E hP hn hE
 refine w_seq ?_
 refine g_reg hP hn ?_
 refine s_op k_as ?_
 refine s_nil trivial ?_
 refine n_wp ?_
 refine w_seq ?_
 refine g_reg hP hn ?_
 refine s_op (k_bd (by exact a_buildK S0 (by kernel_rfl) (by kernel_rfl) rfl)) ?_
 refine s_op k_bxf ?_
 refine s_op k_bd ?_
 refine s_op k_bx ?_
 refine s_op k_as ?_
 refine s_nil trivial ?_
 refine n_wp ?_
 refine w_ret ?_
 exact d_ret hP hn hE [1] (by first | exact r_tmp Tryz.results66 | exact r_tmpa Tryz.results66)

theorem takes1_c (a : List Int) (q : Run) (tot : Nat) (hq : RunOk q) (hl : tot + a.length < 4611686018427387904) : Con Tryz.prog 67 [.s (.ptr 0 0 0), .s (ROWS [a])] [some (RQ q tot)] (.tup []) [some (RQ (tk q a) (tot + a.length))] := by
 have h := takes_c [a] q tot hq (Nat.le_of_ble_eq_true rfl) (by simp; omega) (fun i => by match i with | 0 => (show a.length ≤ _; omega) | _ + 1 => simp)
 rw [show [a].flatten = a by simp] at h
 exact h
theorem takes3_c (a b c : List Int) (q : Run) (tot : Nat) (hq : RunOk q) (hl : tot + (a.length + (b.length + c.length)) < 4611686018427387904) : Con Tryz.prog 67 [.s (.ptr 0 0 0), .s (ROWS [a, b, c])] [some (RQ q tot)] (.tup []) [some (RQ (tk (tk (tk q a) b) c) (tot + (a.length + (b.length + c.length))))] := by
 have h := takes_c [a, b, c] q tot hq (Nat.le_of_ble_eq_true rfl) (by simp; omega) (fun i => by match i with | 0 => (show a.length ≤ _; omega) | 1 => (show b.length ≤ _; omega) | 2 => (show c.length ≤ _; omega) | _ + 3 => simp)
 rw [show [a, b, c].flatten = a ++ (b ++ c) by simp, tk_append, tk_append, List.length_append, List.length_append] at h
 exact h

set_option maxRecDepth 100000 in
set_option maxHeartbeats 4000000 in
theorem write_c (B : List Int) (q : Run) (tot : Nat) (hq : RunOk q) (hl : tot + B.length < 4611686018427387904) : Con Tryz.prog 101 [.s (.ptr 0 0 0), .s (.fzi .u8 B)] [some (RQ q tot)] (.s (.int .i64 0)) [some (RQ (tk q B) (tot + B.length))] := by
 refine con_in 18 Tryz.func101 rfl rfl (m := 1) rfl ?_
 intro E hP hn hE
 refine w_seq ?_
 refine g_reg hP hn ?_
 refine s_op k_as ?_
 refine s_nil trivial ?_
 refine n_wp ?_
 refine w_seq ?_
 refine w_seq ?_
 refine g_reg hP hn ?_
 refine s_op k_mv ?_
 refine s_op k_eql ?_
 refine s_op k_mv ?_
 refine s_on rfl rfl rfl k_mv ?_
 refine s_on rfl rfl rfl k_nc ?_
 refine s_on rfl rfl rfl k_fa ?_
 refine s_on rfl rfl rfl k_ld ?_
 refine s_on rfl rfl rfl k_eql ?_
 refine s_op k_pk ?_
 refine s_nil trivial ?_
 refine n_wp ?_
 refine w_F rfl ?_ 
 refine w_skip ?_
 refine n_wp ?_
 refine w_seq ?_
 refine g_reg hP hn ?_
 refine s_op k_mv ?_
 refine s_op k_mv ?_
 refine s_op (k_bsz [.fzi .u8 B]) ?_
 refine s_op (k_call [0] (con := takes1_c B q tot hq hl)) ?_
 refine s_nil trivial ?_
 refine n_wp ?_
 refine w_seq ?_
 refine g_reg hP hn ?_
 refine s_op k_as ?_
 refine s_nil trivial ?_
 refine n_wp ?_
 refine w_ret ?_
 exact d_ret hP hn hE [] (by first | exact r_tmp Tryz.results101 | exact r_tmpa Tryz.results101)

theorem put8_c (v : Int) : Con Tryz.prog 69 [.s (.fzi .u8 []), .s (.int .u64 v), .s (.int .i64 ((8 : Nat) : Int))] [] (.s (.fzi .u8 (rr 8 8 1 [v] 1))) [] := put_c [] v 8 (Nat.le_refl _) (Nat.le_of_ble_eq_true rfl)
theorem putob_c (s : List Int) (i : Nat) (hi : i < 8) : Con Tryz.prog 69 [.s (.fzi .u8 (ob s i)), .s (.int .u64 (IntKind.u64.wrap (s.getD i 0))), .s (.int .i64 ((4 : Nat) : Int))] [] (.s (.fzi .u8 (ob s (i + 1)))) [] := by
 have h := put_c (ob s i) (IntKind.u64.wrap (s.getD i 0)) 4 (by omega) (by rw [ob_len]; omega)
 rw [ob_len] at h
 exact h

set_option maxRecDepth 100000 in
set_option maxHeartbeats 4000000 in
theorem sum_c (q : Run) (tot : Nat) (hq : RunOk q) (hl : tot < 4611686018427387000) : Con Tryz.prog 70 [.s (.ptr 0 0 0)] [some (RQ q tot)] (.agg [.ints .u8 32 (sumL q tot)]) [some (RQ q tot)] := by
 refine con_in 56 Tryz.func70 rfl rfl (m := 1) rfl ?_
 intro E hP hn hE
 refine w_seq ?_
 refine g_reg hP hn ?_
 refine s_op k_al ?_
 refine s_nil trivial ?_
 refine n_wp ?_
 refine w_seq ?_
 refine w_seq ?_
 refine g_reg hP hn ?_
 refine s_op k_mv ?_
 refine s_op k_eql ?_
 refine s_op k_mv ?_
 refine s_on rfl rfl rfl k_mv ?_
 refine s_on rfl rfl rfl k_nc ?_
 refine s_on rfl rfl rfl k_fa ?_
 refine s_on rfl rfl rfl k_ld ?_
 refine s_on rfl rfl rfl k_eql ?_
 refine s_op k_pk ?_
 refine s_nil trivial ?_
 refine n_wp ?_
 refine w_F rfl ?_ 
 refine w_skip ?_
 refine n_wp ?_
 refine w_seq ?_
 refine g_reg hP hn ?_
 refine s_op k_mv ?_
 refine s_op k_nc ?_
 refine s_op k_ld ?_
 refine s_op k_al ?_
 refine s_st k_st ?_
 refine s_nil trivial ?_
 refine n_wp ?_
 refine w_seq ?_
 refine g_reg hP hn ?_
 have hqm := hq.m
 refine s_op k_mv ?_
 refine s_op k_nc ?_
 refine s_op k_fa ?_
 refine s_op k_fa ?_
 refine s_op k_ld ?_
 refine s_op k_sub ?_
 refine s_op k_rem ?_
 refine s_op k_mk ?_
 refine s_op k_as ?_
 refine s_nil trivial ?_
 refine n_wp ?_
 refine w_seq ?_
 refine w_weak (frz_sl 4 (l' := (List.replicate ((119 - q.m) % 64) 0)) (hl := List.length_replicate) (hl' := by rw [List.drop_zero]; exact List.take_of_length_le (by simp))) ?_
 refine g_reg hP hn ?_
 refine s_op k_bsf ?_
 refine s_op k_mv ?_
 refine s_op k_mv ?_
 refine s_op k_nc ?_
 refine s_op k_fa ?_
 refine s_op k_ld ?_
 refine s_op (k_mul (by exact l_bin rfl rfl (b_mul rfl))) ?_
 refine s_op (k_call [] (con := put8_c _)) ?_
 refine s_op (k_bsz [.fzi .u8 [128], .fzi .u8 (List.replicate ((119 - q.m) % 64) 0), .fzi .u8 (rr 8 8 1 [IntKind.u64.wrap (8 * ((tot : Nat) : Int))] 1)]) ?_
 refine s_op (k_call [2] (con := takes3_c [128] (List.replicate ((119 - q.m) % 64) 0) (rr 8 8 1 [IntKind.u64.wrap (8 * ((tot : Nat) : Int))] 1) q tot hq (by simp [rr_len]; omega)) (H' := [some (RQ q tot), some ⟨true, [.ints .u8 32 (z 32)]⟩, some (RQ (sumQ q tot) (tot + ([128].length + ((List.replicate ((119 - q.m) % 64) 0).length + (rr 8 8 1 [IntKind.u64.wrap (8 * ((tot : Nat) : Int))] 1).length)))), none, none, none]) (hH := rfl)) ?_
 refine s_nil trivial ?_
 refine n_wp ?_
 refine w_seq ?_
 refine g_reg hP hn ?_
 refine s_op k_sl ?_
 refine s_op k_as ?_
 refine s_nil trivial ?_
 refine n_wp ?_
 refine w_seq ?_
 refine w_seq ?_
 refine g_reg hP hn ?_
 refine s_op k_fa ?_
 refine s_op k_ld ?_
 refine s_op k_mv ?_
 refine s_nil trivial ?_
 refine n_wp ?_
 refine w_block ?_
 refine c_loop (fun m T H => ∃ i, i ≤ 8 ∧ m = 8 - i ∧ T = [(2, .s (.ptr 1 0 0)), (5, .s (.fzi .u8 (ob (sumQ q tot).s i))), (41, .s (.fptr 8 (cellsF [.ints .u32 8 (sumQ q tot).s]) 0 0)), (42, .s (.int .i64 ((i : Nat) : Int)))] ∧ H = [some (RQ q tot), some ⟨true, [.ints .u8 32 (z 32)]⟩]) (8) ⟨0, by omega, rfl, rfl, rfl⟩ ((weak_conv 5 rfl conv_slz).trans (wk hE [])) ?_
 rintro n_ T_ H_ ⟨i, hi, rfl, rfl, rfl⟩
 refine w_seq ?_
 refine g_reg hP hn ?_
 refine s_op k_lss ?_
 refine s_nil trivial ?_
 refine n_wp ?_
 refine w_seq ?_
 refine w_if rfl (fun h_t43 => ?_) (fun h_t43 => ?_)
 · skip
   refine w_skip ?_
   refine n_wp ?_
   refine w_seq ?_
   refine w_block ?_
   refine w_seq ?_
   refine g_reg hP hn ?_
   refine s_op k_nc ?_
   refine s_op k_ix ?_
   refine s_op k_ld ?_
   refine s_op k_as ?_
   refine s_nil trivial ?_
   refine n_wp ?_
   refine g_reg hP hn ?_
   refine s_op k_mv ?_
   refine s_op k_mv ?_
   refine s_op k_cv ?_
   refine s_op (k_call [] (con := putob_c (sumQ q tot).s i h_t43)) ?_
   refine s_op k_as ?_
   refine s_nil trivial ?_
   refine n_blo ?_
   refine n_wp ?_
   refine g_reg hP hn ?_
   refine s_op k_add ?_
   refine s_op k_mv ?_
   refine s_nil trivial ?_
   exact n_round (8 - (i + 1)) (by omega) ⟨i + 1, by omega, rfl, rfl, rfl⟩ (wk hE [])
 · skip
   have hi : i = 8 := by omega
   subst hi
   refine w_exit ?_
   refine x_thn ?_
   refine x_thn ?_
   refine x_eq ?_
   refine n_wp ?_
   refine w_seq ?_
   refine g_reg hP hn ?_
   refine s_op k_sl ?_
   refine s_op k_mv ?_
   refine s_op (k_cpn 32 (hn := by rw [ob_len]; rfl) (hz := rfl)) ?_
   refine s_nil trivial ?_
   refine n_wp ?_
   refine w_seq ?_
   refine g_reg hP hn ?_
   refine s_op k_ld ?_
   refine s_st k_st ?_
   refine s_nil trivial ?_
   refine n_wp ?_
   refine w_ret ?_
   exact d_ret hP hn hE [] (r_cell Tryz.results70)

end Go.Proofs.X
end

section
open Go Go.Bx Go.Proofs
namespace Go.Proofs.X
attribute [local irreducible] tk rr sumL ws ls dnI gI
theorem write_n (B : List Int) (n : Nat) (hn : B.length = n) (q : Run) (tot : Nat) (hq : RunOk q) (hl : tot + n < 4611686018427387904) : Con Tryz.prog 101 [.s (.ptr 0 0 0), .s (.fzi .u8 B)] [some (RQ q tot)] (.s (.int .i64 0)) [some (RQ (tk q B) (tot + n))] := by
 subst hn; exact write_c B q tot hq hl

set_option maxRecDepth 100000 in
set_option maxHeartbeats 4000000 in
theorem pad_c (K : List Int) (v : Int) (hK : K.length = 64) : Con Tryz.prog 100 [.s (.int .u8 v), .s (.ptr 0 0 0)] [some ⟨true, [.ints .u8 64 K]⟩] (.s (.fzi .u8 (xk K v 64))) [some ⟨true, [.ints .u8 64 K]⟩] := by
 refine con_in 18 Tryz.func100 rfl rfl (m := 1) rfl ?_
 intro E hP hn hE
 refine w_seq ?_
 refine g_reg hP hn ?_
 refine s_op k_as ?_
 refine s_nil trivial ?_
 refine n_wp ?_
 refine w_seq ?_
 refine g_reg hP hn ?_
 refine s_op k_ld ?_
 refine s_op k_al ?_
 refine s_st k_st ?_
 refine s_nil trivial ?_
 refine n_wp ?_
 refine w_seq ?_
 refine w_seq ?_
 refine g_reg hP hn ?_
 refine s_op k_mv ?_
 refine s_nil trivial ?_
 refine n_wp ?_
 refine w_block ?_
 refine c_loop (fun m T H => ∃ i, i ≤ 64 ∧ m = 64 - i ∧ T = [(0, .s (.int .u8 v)), (4, .s (.ptr 1 0 0)), (7, .s (.int .i64 ((i : Nat) : Int)))] ∧ H = [some ⟨true, [.ints .u8 64 K]⟩, some ⟨true, [.ints .u8 64 (xk K v i)]⟩]) (64) ⟨0, by omega, rfl, rfl, rfl⟩ (wk hE []) ?_
 rintro n_ T_ H_ ⟨i, hi, rfl, rfl, rfl⟩
 have hx := (xk_len K v i).trans hK
 refine w_seq ?_
 refine g_reg hP hn ?_
 refine s_op k_lss ?_
 refine s_nil trivial ?_
 refine n_wp ?_
 refine w_seq ?_
 refine w_if rfl (fun h_t8 => ?_) (fun h_t8 => ?_)
 · skip
   refine w_skip ?_
   refine n_wp ?_
   refine w_seq ?_
   refine w_block ?_
   refine w_seq ?_
   refine g_reg hP hn ?_
   refine s_op k_mv ?_
   refine s_op k_as ?_
   refine s_nil trivial ?_
   refine n_wp ?_
   refine g_reg hP hn ?_
   refine s_op k_mv ?_
   refine s_op k_ix ?_
   refine s_op k_ld ?_
   refine s_op k_mv ?_
   refine s_op k_xor ?_
   refine s_op k_ix ?_
   refine s_st k_st ?_
   refine s_nil trivial ?_
   refine n_blo ?_
   refine n_wp ?_
   refine g_reg hP hn ?_
   refine s_op k_add ?_
   refine s_op k_mv ?_
   refine s_nil trivial ?_
   exact n_round (64 - (i + 1)) (by omega) ⟨i + 1, by omega, rfl, rfl, rfl⟩ (wk hE [])
 · skip
   have hi : i = 64 := by omega
   subst hi
   refine w_exit ?_
   refine x_thn ?_
   refine x_thn ?_
   refine x_eq ?_
   refine n_wp ?_
   refine w_seq ?_
   refine g_reg hP hn ?_
   refine s_op k_sl ?_
   refine s_op k_as ?_
   refine s_nil trivial ?_
   refine n_wp ?_
   refine w_ret ?_
   exact d_retw hP hn (r_tmp Tryz.results100) ((frz_sl 0 (l' := xk K v 64) (hl := hx) (hl' := by rw [List.drop_zero]; exact List.take_of_length_le (Nat.le_of_eq hx))).trans (wk hE []))

set_option maxRecDepth 100000 in
set_option maxHeartbeats 4000000 in
theorem mac_c (K : List Int) (L : List (List Int)) (hK0 : 0 < K.length) (hK : K.length ≤ 64) (hL : L.length ≤ 1000000) (hl : L.flatten.length < 4611686018427380000) : Con Tryz.prog 60 [.s (.fzi .u8 K), .s (ROWS L)] [] (.agg [.ints .u8 32 (hmO K (tk (hmI K) L.flatten) (64 + L.flatten.length))]) [] := by
 refine con_in 50 Tryz.func60 rfl rfl (m := 0) rfl ?_
 intro E hP hn hE
 refine w_seq ?_
 refine g_reg hP hn ?_
 refine s_op k_al ?_
 refine s_nil trivial ?_
 refine n_wp ?_
 refine w_seq ?_
 refine g_reg hP hn ?_
 refine s_op k_al ?_
 refine s_nil trivial ?_
 refine n_wp ?_
 refine w_seq ?_
 refine w_seq ?_
 refine g_reg hP hn ?_
 refine s_op k_mv ?_
 refine s_op k_len ?_
 refine s_op k_gtr ?_
 refine s_nil trivial ?_
 refine n_wp ?_
 refine w_F rfl ?_ 
 refine w_skip ?_
 refine n_wp ?_
 refine w_seq ?_
 refine g_reg hP hn ?_
 refine s_op k_sl ?_
 refine s_op k_mv ?_
 refine s_op (k_cpn K.length) ?_
 refine s_nil trivial ?_
 refine n_wp ?_
 refine w_seq ?_
 refine g_reg hP hn ?_
 refine s_op (k_fn [.ptr 1 0 0]) ?_
 refine s_op k_as ?_
 refine s_nil trivial ?_
 refine n_wp ?_
 refine w_seq ?_
 refine g_reg hP hn ?_
 refine s_op (k_call [] (con := new_c) (v := .s (.ptr 2 0 0)) (hv := rfl) (H' := [some ⟨true, [.ints .u8 32 (z 32)]⟩, some ⟨true, [.ints .u8 64 (k64 K)]⟩, some (RQ run0 0)]) (hH := rfl)) ?_
 refine s_op (k_call [] (con := new_c) (v := .s (.ptr 3 0 0)) (hv := rfl) (H' := [some ⟨true, [.ints .u8 32 (z 32)]⟩, some ⟨true, [.ints .u8 64 (k64 K)]⟩, some (RQ run0 0), some (RQ run0 0)]) (hH := rfl)) ?_
 refine s_op k_as ?_
 refine s_op k_as ?_
 refine s_nil trivial ?_
 refine n_wp ?_
 refine w_seq ?_
 refine g_reg hP hn ?_
 refine s_op k_mv ?_
 refine s_op k_mv ?_
 refine s_op (k_callc [1] rfl (con := pad_c (k64 K) 54 (k64_len K)) (H' := [some ⟨true, [.ints .u8 32 (z 32)]⟩, some ⟨true, [.ints .u8 64 (k64 K)]⟩, some (RQ run0 0), some (RQ run0 0)]) (hH := rfl)) ?_
 refine s_op (k_call [2] (con := write_n (xk (k64 K) 54 64) 64 ((xk_len _ _ _).trans (k64_len K)) run0 0 run0_ok (by omega)) (H' := [some ⟨true, [.ints .u8 32 (z 32)]⟩, some ⟨true, [.ints .u8 64 (k64 K)]⟩, some (RQ (hmI K) 64), some (RQ run0 0)]) (hH := rfl)) ?_
 refine s_nil trivial ?_
 refine n_wp ?_
 refine w_seq ?_
 refine w_seq ?_
 refine g_reg hP hn ?_
 refine s_op k_mv ?_
 refine s_op k_len ?_
 refine s_op k_mv ?_
 refine s_nil trivial ?_
 refine n_wp ?_
 refine w_block ?_
 refine c_loop (fun m T H => ∃ i q t, i ≤ L.length ∧ m = L.length - i ∧ q = tk (hmI K) (L.take i).flatten ∧ t = 64 + (L.take i).flatten.length ∧ T = [(4, .s (.ptr 0 0 0)), (7, .s (.clo 100 1 (capF [.ptr 1 0 0]))), (8, .s (.ptr 2 0 0)), (9, .s (.ptr 3 0 0)), (29, .s (ROWS L)), (30, .s (.int .i64 ((L.length : Nat) : Int))), (31, .s (.int .i64 ((i : Nat) : Int)))] ∧ H = [some ⟨true, [.ints .u8 32 (z 32)]⟩, some ⟨true, [.ints .u8 64 (k64 K)]⟩, some (RQ q t), some (RQ run0 0)]) (L.length) ⟨0, hmI K, 64, by omega, rfl, (tk_nil (hmI K)).symm, rfl, rfl, rfl⟩ (wk hE []) ?_
 rintro n_ T_ H_ ⟨i, q, t, hi, rfl, hq, ht, rfl, rfl⟩
 have hok : RunOk q := hq ▸ tk_ok (hmI_ok K) _
 refine w_seq ?_
 refine g_reg hP hn ?_
 refine s_op k_lss ?_
 refine s_nil trivial ?_
 refine n_wp ?_
 refine w_seq ?_
 refine w_if rfl (fun h_t32 => ?_) (fun h_t32 => ?_)
 · skip
   have hfl := flat_s L h_t32
   have htot : (L.take (i + 1)).flatten.length = (L.take i).flatten.length + (L.getD i []).length := by rw [hfl, List.length_append]
   have hle : (L.take (i + 1)).flatten.length ≤ L.flatten.length := by
     have := congrArg (fun x => (List.flatten x).length) (List.take_append_drop (i + 1) L)
     simp only [List.flatten_append, List.length_append] at this
     omega
   refine w_skip ?_
   refine n_wp ?_
   refine w_seq ?_
   refine w_block ?_
   refine w_seq ?_
   refine g_reg hP hn ?_
   refine s_op k_ix ?_
   refine s_op (k_ld (by exact a_loadf (v := .fzi .u8 (L.getD i [])) rfl (by omega) (rows_at L h_t32))) ?_
   refine s_op k_as ?_
   refine s_nil trivial ?_
   refine n_wp ?_
   refine g_reg hP hn ?_
   refine s_op k_mv ?_
   refine s_op k_mv ?_
   refine s_op (k_call [2] (con := write_c (L.getD i []) q t hok (by omega)) (H' := [some ⟨true, [.ints .u8 32 (z 32)]⟩, some ⟨true, [.ints .u8 64 (k64 K)]⟩, some (RQ (tk q (L.getD i [])) (t + (L.getD i []).length)), some (RQ run0 0)]) (hH := rfl)) ?_
   refine s_nil trivial ?_
   refine n_blo ?_
   refine n_wp ?_
   refine g_reg hP hn ?_
   refine s_op k_add ?_
   refine s_op k_mv ?_
   refine s_nil trivial ?_
   exact n_round (L.length - (i + 1)) (by omega) ⟨i + 1, tk q (L.getD i []), t + (L.getD i []).length, by omega, rfl, by rw [hfl, tk_append, hq], by omega, rfl, rfl⟩ (wk hE [])
 · skip
   have hi : i = L.length := by omega
   subst hi
   rw [List.take_length] at hq ht
   subst hq; subst ht
   have hok := tk_ok (hmI_ok K) L.flatten
   refine w_exit ?_
   refine x_thn ?_
   refine x_thn ?_
   refine x_eq ?_
   refine n_wp ?_
   refine w_seq ?_
   refine g_reg hP hn ?_
   refine s_op k_mv ?_
   refine s_op (k_call [2] (con := sum_c _ _ hok (by omega)) (H' := [some ⟨true, [.ints .u8 32 (z 32)]⟩, some ⟨true, [.ints .u8 64 (k64 K)]⟩, some (RQ (tk (hmI K) L.flatten) (64 + L.flatten.length)), some (RQ run0 0)]) (hH := rfl)) ?_
   refine s_op k_al ?_
   refine s_st k_st ?_
   refine s_nil trivial ?_
   refine n_wp ?_
   refine w_seq ?_
   refine g_reg hP hn ?_
   refine s_op k_mv ?_
   refine s_op k_mv ?_
   refine s_op (k_callc [1] rfl (con := pad_c (k64 K) 92 (k64_len K)) (H' := [some ⟨true, [.ints .u8 32 (z 32)]⟩, some ⟨true, [.ints .u8 64 (k64 K)]⟩, some (RQ (tk (hmI K) L.flatten) (64 + L.flatten.length)), some (RQ run0 0), some ⟨true, [.ints .u8 32 (sumL (tk (hmI K) L.flatten) (64 + L.flatten.length))]⟩]) (hH := rfl)) ?_
   refine s_op (k_call [3] (con := write_n (xk (k64 K) 92 64) 64 ((xk_len _ _ _).trans (k64_len K)) run0 0 run0_ok (by omega)) (H' := [some ⟨true, [.ints .u8 32 (z 32)]⟩, some ⟨true, [.ints .u8 64 (k64 K)]⟩, some (RQ (tk (hmI K) L.flatten) (64 + L.flatten.length)), some (RQ (tk run0 (xk (k64 K) 92 64)) 64), some ⟨true, [.ints .u8 32 (sumL (tk (hmI K) L.flatten) (64 + L.flatten.length))]⟩]) (hH := rfl)) ?_
   refine s_nil trivial ?_
   refine n_wp ?_
   refine w_seq ?_
   refine w_weak (frz_ptr 12 32) ?_
   refine g_reg hP hn ?_
   refine s_op k_mv ?_
   refine s_op (k_slf (hl := sumL_len _ _)) ?_
   refine s_op (k_call [3] (con := write_n (sumL (tk (hmI K) L.flatten) (64 + L.flatten.length)) 32 (sumL_len _ _) (tk run0 (xk (k64 K) 92 64)) 64 (tk_ok run0_ok _) (by omega)) (H' := [some ⟨true, [.ints .u8 32 (z 32)]⟩, some ⟨true, [.ints .u8 64 (k64 K)]⟩, some (RQ (tk (hmI K) L.flatten) (64 + L.flatten.length)), some (RQ (tk (tk run0 (xk (k64 K) 92 64)) (sumL (tk (hmI K) L.flatten) (64 + L.flatten.length))) 96), none]) (hH := rfl)) ?_
   refine s_nil trivial ?_
   refine n_wp ?_
   refine w_seq ?_
   refine g_reg hP hn ?_
   refine s_op k_mv ?_
   refine s_op (k_call [3] (con := sum_c _ 96 (tk_ok (tk_ok run0_ok _) _) (by omega)) (H' := [some ⟨true, [.ints .u8 32 (z 32)]⟩, some ⟨true, [.ints .u8 64 (k64 K)]⟩, some (RQ (tk (hmI K) L.flatten) (64 + L.flatten.length)), some (RQ (tk (tk run0 (xk (k64 K) 92 64)) (sumL (tk (hmI K) L.flatten) (64 + L.flatten.length))) 96), none]) (hH := rfl)) ?_
   refine s_st k_st ?_
   refine s_nil trivial ?_
   refine n_wp ?_
   refine w_ret ?_
   exact d_ret hP hn hE [] (r_cell Tryz.results60)

end Go.Proofs.X
end
