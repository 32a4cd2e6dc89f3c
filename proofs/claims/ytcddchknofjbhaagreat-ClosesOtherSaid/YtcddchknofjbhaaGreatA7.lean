/- A part of the proofs of this claim: BMod2, BMod3, BRow1, BSha1, BSha2, BSha3, BMac1, BMac2, Bx31, Bx32, BByteS, BWrdS, BWrdT. No conditions. -/
import Derived.Test.YtcddchknofjbhaaGreatA6
import Derived.Test.YtcddchknofjbhaaGreatA4
import Derived.Lib.AppendZerosOnto
set_option linter.unusedVariables false
set_option linter.unusedSimpArgs false
section
set_option maxRecDepth 100000
set_option maxHeartbeats 4000000
open Go Go.Bx Go.Proofs
namespace Go.Proofs.X
attribute [local irreducible] bitsN wd dg cmpI subN undN shN pO pB TM mayP Go.Bx.valOf
theorem mexp_n (a n m : Nat) (ha : a < m) (hnn : n < 2 ^ 256) (hm : m < 2 ^ 256) (h1 : 1 < m) : Con Tryz.prog 103 [.agg [.ints .u64 4 (zs (wd a))], .agg [.ints .u64 4 (zs (wd n))], .agg [.ints .u64 4 (zs (wd m))]] [] (.tup [.agg [.ints .u64 4 (zs (wd (a ^ n % m)))], .s (.int .i64 0)]) [] := by
 refine con_in 45 Tryz.func103 rfl rfl (m := 0) rfl ?_
 intro E hP hn hE
 have hn256 : n < 2 ^ 256 := hnn
 have hbn := bitsN_256 hn256
 refine qz hP hn ?_
 refine s_op k_bx ?_
 refine s_op k_bx ?_
 refine s_op k_bx ?_
 refine o2 ?_
 refine qx hP hn ?_
 refine o2 ?_
 refine s_op (k_bsR [NR a]) ?_
 refine s_op (k_call [] (con := goes_n m [a] hm h1 (fun i hi => by match i, hi with | 0, _ => exact ha) (Nat.le_of_ble_eq_true rfl))) ?_
 refine o4 ?_
 refine s_st k_st ?_
 refine s_op k_as ?_
 refine s_nil trivial (n_wp (w_seq (qz hP hn ?_)))
 refine o2 ?_
 refine s_nil trivial (n_wp ?_)
 refine w_F rfl ?_ 
 refine w_skip (n_wp (qz hP hn ?_))
 refine s_op (k_call [] (con := one_n)) ?_
 refine s_op k_al ?_
 refine s_st k_st ?_
 refine s_nil trivial (n_wp (w_seq (qz hP hn ?_)))
 refine s_op k_ld ?_
 refine s_op (k_call [] (con := bits_n n hn256)) ?_
 refine s_op k_mv ?_
 refine s_nil trivial (n_wp (w_block ?_))
 refine c_loop (fun m_ T H => ∃ i, i ≤ bitsN n ∧ m_ = bitsN n - i ∧ T = [(3, .s (.ptr 0 0 0)), (4, .s (.ptr 1 0 0)), (6, .s (.ptr 3 0 0)), (8, .s (.ptr 4 0 0)), (10, .s (.ptr 5 0 0)), (25, .s (.int .i64 ((bitsN n : Nat) : Int))), (26, .s (.int .i64 ((i : Nat) : Int)))] ∧ H = [some ⟨true, [.ints .u64 4 (zs (wd (pB a m i)))]⟩, some ⟨true, [.ints .u64 4 (zs (wd n))]⟩, some ⟨true, [.ints .u64 4 (zs (wd m))]⟩, some ⟨true, [.ints .u64 4 (zs (List.replicate 4 0))]⟩, some ⟨true, RG m⟩, some ⟨true, [.ints .u64 4 (zs (wd (pO a n m i)))]⟩]) ((bitsN n)) ⟨0, by omega, rfl, rfl, rfl⟩ (by rw [pB_0 ha, pO_0 h1]; exact wk hE [0, 1, 2, 3, 5, 6]) ?_
 rintro n_ T_ H_ ⟨i, hi, rfl, rfl, rfl⟩
 refine qz hP hn ?_
 refine s_op k_lss ?_
 refine s_nil trivial (n_wp (w_seq ?_))
 refine w_if rfl (fun h_t27 => ?_) (fun h_t27 => ?_)
 · refine w_skip (n_wp (w_seq (w_block (qz hP hn ?_))))
   refine o2 ?_
   refine s_nil trivial (n_wp (w_seq (qz hP hn ?_)))
   refine o2 ?_
   refine s_op (k_call [] (con := bit_n n i (by omega))) ?_
   refine s_op k_eql ?_
   refine s_nil trivial (n_wp ?_)
   refine w_if rfl (fun h_t32 => ?_) (fun h_t32 => ?_)
   · refine g_reg hP hn ?_
     refine o4 ?_
     refine s_op (k_callN [MP m] (con := times_n (pO a n m i) (pB a m i) m (pO_lt (by omega)) (pB_lt (by omega)) hm)) ?_
     refine s_st k_st ?_
     refine s_nil trivial (n_wp ?_)
     try rw [pO_1 h_t32]
     refine g_reg hP hn ?_
     refine o4 ?_
     refine s_op (k_callN [MP m] (con := times_n (pB a m i) (pB a m i) m (pB_lt (by omega)) (pB_lt (by omega)) hm)) ?_
     refine s_st k_st ?_
     refine s_nil trivial (n_blo (n_wp ?_))
     rw [pB_s]
     refine g_reg hP hn ?_
     refine o2 ?_
     refine s_nil trivial ?_
     exact n_round (bitsN n - (i + 1)) (by omega) ⟨i + 1, by omega, rfl, rfl, rfl⟩ (wk hE [])
   · rw [pO_n h_t32]
     refine w_skip (n_wp ?_)
     try rw [pO_1 h_t32]
     refine g_reg hP hn ?_
     refine o4 ?_
     refine s_op (k_callN [MP m] (con := times_n (pB a m i) (pB a m i) m (pB_lt (by omega)) (pB_lt (by omega)) hm)) ?_
     refine s_st k_st ?_
     refine s_nil trivial (n_blo (n_wp ?_))
     rw [pB_s]
     refine g_reg hP hn ?_
     refine o2 ?_
     refine s_nil trivial ?_
     exact n_round (bitsN n - (i + 1)) (by omega) ⟨i + 1, by omega, rfl, rfl, rfl⟩ (wk hE [])
 · have hi2 : i = bitsN n := by omega
   subst hi2
   rw [pO_e]
   refine w_exit (x_thn (x_thn (x_eq (n_wp (qz hP hn ?_)))))
   refine s_op k_ld ?_
   refine s_st k_st ?_
   refine s_op k_as ?_
   refine s_nil trivial (n_wp (w_ret ?_))
   exact d_ret hP hn hE [] (ret2 Tryz.results103 r_cella (by first | exact ri_tmp rfl | exact ri_tmpa rfl))

theorem pow_n (p q g : Nat) (hp : p < 2 ^ 256) (hq : q < 2 ^ 256) (hg : g < 2 ^ 256) (a n : Nat) (ha : a < p) (hnn : n < 2 ^ 256) (h1 : 1 < p) : Con Tryz.prog 77 [.agg (PAIR p q g a n)] [] (.tup [.agg [.ints .u64 4 (zs (wd (a ^ n % p)))], .s (.int .i64 0)]) [] := by
 refine con_in 15 Tryz.func77 rfl rfl (m := 0) rfl ?_
 intro E hP hn hE
 refine qz hP hn ?_
 refine s_op k_bx ?_
 refine o2 ?_
 refine qx hP hn ?_
 refine o4 ?_
 refine o4 ?_
 refine s_op (k_call [] (con := mexp_n a n p ha hnn hp h1)) ?_
 refine o2 ?_
 refine s_st k_st ?_
 refine s_op k_as ?_
 refine s_nil trivial (n_wp (w_ret ?_))
 exact d_ret hP hn hE [] (ret2 Tryz.results77 r_cella (by first | exact ri_tmp rfl | exact ri_tmpa rfl))

theorem prod_n (p q g : Nat) (hp : p < 2 ^ 256) (hq : q < 2 ^ 256) (hg : g < 2 ^ 256) (a b : Nat) (ha : a < p) (hb : b < p) (h1 : 1 < p) : Con Tryz.prog 140 [.agg (PAIR p q g a b)] [] (.tup [.agg [.ints .u64 4 (zs (wd (a * b % p)))], .s (.int .i64 0)]) [] := by
 refine con_in 15 Tryz.func140 rfl rfl (m := 0) rfl ?_
 intro E hP hn hE
 refine qz hP hn ?_
 refine s_op k_bx ?_
 refine o2 ?_
 refine qx hP hn ?_
 refine o4 ?_
 refine o4 ?_
 refine s_op (k_call [] (con := mmul_n a b p ha hb hp h1)) ?_
 refine o2 ?_
 refine s_st k_st ?_
 refine s_op k_as ?_
 refine s_nil trivial (n_wp (w_ret ?_))
 exact d_ret hP hn hE [] (ret2 Tryz.results140 r_cella (by first | exact ri_tmp rfl | exact ri_tmpa rfl))

theorem all_pow (p q g : Nat) (hp : p < 2 ^ 256) (hq : q < 2 ^ 256) (hg : g < 2 ^ 256) (L : List Nat) (hL : ∀ i, i < L.length → L.getD i 0 < 2 ^ 256) (hLb : L.length ≤ 1000000) (a b r : Nat) (hok : ∀ i, i < L.length → mayP p (L.getD i 0) = true) (con : Con Tryz.prog 77 [.agg (PAIR p q g a b)] [] (.tup [.agg [.ints .u64 4 (zs (wd r))], .s (.int .i64 0)]) []) : Con Tryz.prog 76 [.agg (GRP p q g), .s (.val (.func (.func 77) #[Go.Bx.valOf (PAIR p q g a b)] #[])), .s (NUMS L)] [] (.tup [.agg [.ints .u64 4 (zs (wd r))], .s (.int .i64 0)]) [] := by
 refine con_in 26 Tryz.func76 rfl rfl (m := 0) rfl ?_
 intro E hP hn hE
 refine qz hP hn ?_
 refine s_op k_bx ?_
 refine o2 ?_
 refine s_nil trivial (n_wp (w_seq (qz hP hn ?_)))
 refine o3 ?_
 refine s_nil trivial (n_wp (w_block ?_))
 refine c_loop (fun m_ T H => ∃ i, i ≤ L.length ∧ m_ = L.length - i ∧ (∀ k, k < i → mayP p (L.getD k 0) = true) ∧ T = [(1, .s (.val (.func (.func 77) #[Go.Bx.valOf (PAIR p q g a b)] #[]))), (3, .s (.ptr 0 0 0)), (6, .s (.ptr 1 0 0)), (10, .s (NUMS L)), (11, .s (.int .i64 ((L.length : Nat) : Int))), (12, .s (.int .i64 ((i : Nat) : Int)))] ∧ H = [some ⟨true, GRP p q g⟩, some ⟨true, [.ints .u64 4 (zs (List.replicate 4 0))]⟩]) (L.length) ⟨0, by omega, rfl, fun k hk => absurd hk (Nat.not_lt_zero k), rfl, rfl⟩ (wk hE []) ?_
 rintro n_ T_ H_ ⟨i, hi, rfl, hup, rfl, rfl⟩
 refine qz hP hn ?_
 refine s_op k_lss ?_
 refine s_nil trivial (n_wp (w_seq ?_))
 refine w_if rfl (fun h_t13 => ?_) (fun h_t13 => ?_)
 · have hmay := hok i h_t13
   refine w_skip (n_wp (w_seq (w_block (qz hP hn ?_))))
   refine s_op k_ix ?_
   refine s_op (k_ld (by exact l_loadf_agg (segs := (L.map NR).getD i []) (sub := [.ints .u64 4 (zs (wd (L.getD i 0)))]) rfl (Nat.le_refl _) (nums_at L i h_t13) Ag.h Sz.h)) ?_
   refine s_op k_al ?_
   refine s_st k_st ?_
   refine qx hP hn ?_
   refine o2 ?_
   refine s_op (k_call [] (con := may_n p q g hp hq hg (L.getD i 0) (hL i h_t13))) ?_
   refine s_op k_not ?_
   refine s_nil trivial (n_wp ?_)
   refine w_F rfl ?_ (by rw [hmay]; rfl)
   refine w_skip (n_blo (n_wp (g_reg hP hn ?_)))
   refine o2 ?_
   refine s_nil trivial ?_
   exact n_round (L.length - (i + 1)) (by omega) ⟨i + 1, by omega, rfl, fun k hk => (Nat.lt_succ_iff_lt_or_eq.1 hk).elim (hup k) (fun e => e ▸ hmay), rfl, rfl⟩ (wk hE [])
 · refine w_exit (x_thn (x_thn (x_eq (n_wp (qz hP hn ?_)))))
   refine s_op k_mv ?_
   refine s_op (k_callb (A := PAIR p q g a b) (con := con)) ?_
   refine o2 ?_
   refine s_st k_st ?_
   refine s_op k_as ?_
   refine s_nil trivial (n_wp (w_ret ?_))
   exact d_ret hP hn hE [] (ret2 Tryz.results76 r_cella (by first | exact ri_tmp rfl | exact ri_tmpa rfl))

theorem allno_pow (p q g : Nat) (hp : p < 2 ^ 256) (hq : q < 2 ^ 256) (hg : g < 2 ^ 256) (L : List Nat) (hL : ∀ i, i < L.length → L.getD i 0 < 2 ^ 256) (hLb : L.length ≤ 1000000) (a b j : Nat) (hj : j < L.length) (hno : mayP p (L.getD j 0) = false)  : Con Tryz.prog 76 [.agg (GRP p q g), .s (.val (.func (.func 77) #[Go.Bx.valOf (PAIR p q g a b)] #[])), .s (NUMS L)] [] (.tup [.agg [.ints .u64 4 (zs (wd 0))], .s (.int .i64 1)]) [] := by
 refine con_in 26 Tryz.func76 rfl rfl (m := 0) rfl ?_
 intro E hP hn hE
 refine qz hP hn ?_
 refine s_op k_bx ?_
 refine o2 ?_
 refine s_nil trivial (n_wp (w_seq (qz hP hn ?_)))
 refine o3 ?_
 refine s_nil trivial (n_wp (w_block ?_))
 refine c_loop (fun m_ T H => ∃ i, i ≤ L.length ∧ m_ = L.length - i ∧ (∀ k, k < i → mayP p (L.getD k 0) = true) ∧ T = [(1, .s (.val (.func (.func 77) #[Go.Bx.valOf (PAIR p q g a b)] #[]))), (3, .s (.ptr 0 0 0)), (6, .s (.ptr 1 0 0)), (10, .s (NUMS L)), (11, .s (.int .i64 ((L.length : Nat) : Int))), (12, .s (.int .i64 ((i : Nat) : Int)))] ∧ H = [some ⟨true, GRP p q g⟩, some ⟨true, [.ints .u64 4 (zs (List.replicate 4 0))]⟩]) (L.length) ⟨0, by omega, rfl, fun k hk => absurd hk (Nat.not_lt_zero k), rfl, rfl⟩ (wk hE []) ?_
 rintro n_ T_ H_ ⟨i, hi, rfl, hup, rfl, rfl⟩
 refine qz hP hn ?_
 refine s_op k_lss ?_
 refine s_nil trivial (n_wp (w_seq ?_))
 have h_t13 : i < L.length := by
  rcases Nat.lt_or_ge i L.length with h | h
  · exact h
  · exact absurd (hup j (by omega)) (by rw [hno]; decide)
 refine w_T rfl ?_ (decide_eq_true h_t13)
 refine w_skip (n_wp (w_seq (w_block (qz hP hn ?_))))
 refine s_op k_ix ?_
 refine s_op (k_ld (by exact l_loadf_agg (segs := (L.map NR).getD i []) (sub := [.ints .u64 4 (zs (wd (L.getD i 0)))]) rfl (Nat.le_refl _) (nums_at L i h_t13) Ag.h Sz.h)) ?_
 refine s_op k_al ?_
 refine s_st k_st ?_
 refine qx hP hn ?_
 refine o2 ?_
 refine s_op (k_call [] (con := may_n p q g hp hq hg (L.getD i 0) (hL i h_t13))) ?_
 refine s_op k_not ?_
 refine s_nil trivial (n_wp ?_)
 refine w_cond rfl (fun h_t19 => ?_) (fun h_t19 => ?_)
 · refine qz hP hn ?_
   refine s_op (k_bd (by exact a_buildK (n := 4) (zs (wd 0)) (by kernel_rfl) (by kernel_rfl) (by rw [zs_len, wd_len]))) ?_
   refine s_st k_st ?_
   refine s_op k_as ?_
   refine s_nil trivial (n_wp (w_ret (r_blo (r_thn (r_thn (r_blo (r_thn ?_)))))))
   exact d_ret hP hn hE [] (ret2 Tryz.results76 r_cella (by first | exact ri_tmp rfl | exact ri_tmpa rfl))
 · have hmay : mayP p (L.getD i 0) = true := by simpa using h_t19
   refine w_skip (n_blo (n_wp (g_reg hP hn ?_)))
   refine o2 ?_
   refine s_nil trivial ?_
   exact n_round (L.length - (i + 1)) (by omega) ⟨i + 1, by omega, rfl, fun k hk => (Nat.lt_succ_iff_lt_or_eq.1 hk).elim (hup k) (fun e => e ▸ hmay), rfl, rfl⟩ (wk hE [])

theorem all_prod (p q g : Nat) (hp : p < 2 ^ 256) (hq : q < 2 ^ 256) (hg : g < 2 ^ 256) (L : List Nat) (hL : ∀ i, i < L.length → L.getD i 0 < 2 ^ 256) (hLb : L.length ≤ 1000000) (a b r : Nat) (hok : ∀ i, i < L.length → mayP p (L.getD i 0) = true) (con : Con Tryz.prog 140 [.agg (PAIR p q g a b)] [] (.tup [.agg [.ints .u64 4 (zs (wd r))], .s (.int .i64 0)]) []) : Con Tryz.prog 76 [.agg (GRP p q g), .s (.val (.func (.func 140) #[Go.Bx.valOf (PAIR p q g a b)] #[])), .s (NUMS L)] [] (.tup [.agg [.ints .u64 4 (zs (wd r))], .s (.int .i64 0)]) [] := by
 refine con_in 26 Tryz.func76 rfl rfl (m := 0) rfl ?_
 intro E hP hn hE
 refine qz hP hn ?_
 refine s_op k_bx ?_
 refine o2 ?_
 refine s_nil trivial (n_wp (w_seq (qz hP hn ?_)))
 refine o3 ?_
 refine s_nil trivial (n_wp (w_block ?_))
 refine c_loop (fun m_ T H => ∃ i, i ≤ L.length ∧ m_ = L.length - i ∧ (∀ k, k < i → mayP p (L.getD k 0) = true) ∧ T = [(1, .s (.val (.func (.func 140) #[Go.Bx.valOf (PAIR p q g a b)] #[]))), (3, .s (.ptr 0 0 0)), (6, .s (.ptr 1 0 0)), (10, .s (NUMS L)), (11, .s (.int .i64 ((L.length : Nat) : Int))), (12, .s (.int .i64 ((i : Nat) : Int)))] ∧ H = [some ⟨true, GRP p q g⟩, some ⟨true, [.ints .u64 4 (zs (List.replicate 4 0))]⟩]) (L.length) ⟨0, by omega, rfl, fun k hk => absurd hk (Nat.not_lt_zero k), rfl, rfl⟩ (wk hE []) ?_
 rintro n_ T_ H_ ⟨i, hi, rfl, hup, rfl, rfl⟩
 refine qz hP hn ?_
 refine s_op k_lss ?_
 refine s_nil trivial (n_wp (w_seq ?_))
 refine w_if rfl (fun h_t13 => ?_) (fun h_t13 => ?_)
 · have hmay := hok i h_t13
   refine w_skip (n_wp (w_seq (w_block (qz hP hn ?_))))
   refine s_op k_ix ?_
   refine s_op (k_ld (by exact l_loadf_agg (segs := (L.map NR).getD i []) (sub := [.ints .u64 4 (zs (wd (L.getD i 0)))]) rfl (Nat.le_refl _) (nums_at L i h_t13) Ag.h Sz.h)) ?_
   refine s_op k_al ?_
   refine s_st k_st ?_
   refine qx hP hn ?_
   refine o2 ?_
   refine s_op (k_call [] (con := may_n p q g hp hq hg (L.getD i 0) (hL i h_t13))) ?_
   refine s_op k_not ?_
   refine s_nil trivial (n_wp ?_)
   refine w_F rfl ?_ (by rw [hmay]; rfl)
   refine w_skip (n_blo (n_wp (g_reg hP hn ?_)))
   refine o2 ?_
   refine s_nil trivial ?_
   exact n_round (L.length - (i + 1)) (by omega) ⟨i + 1, by omega, rfl, fun k hk => (Nat.lt_succ_iff_lt_or_eq.1 hk).elim (hup k) (fun e => e ▸ hmay), rfl, rfl⟩ (wk hE [])
 · refine w_exit (x_thn (x_thn (x_eq (n_wp (qz hP hn ?_)))))
   refine s_op k_mv ?_
   refine s_op (k_callb (A := PAIR p q g a b) (con := con)) ?_
   refine o2 ?_
   refine s_st k_st ?_
   refine s_op k_as ?_
   refine s_nil trivial (n_wp (w_ret ?_))
   exact d_ret hP hn hE [] (ret2 Tryz.results76 r_cella (by first | exact ri_tmp rfl | exact ri_tmpa rfl))

theorem gexp_y (p q g : Nat) (hp : p < 2 ^ 256) (hq : q < 2 ^ 256) (hg : g < 2 ^ 256) (a n : Nat) (ha : a < 2 ^ 256) (hnn : n < 2 ^ 256) (hmay : mayP p a = true) : Con Tryz.prog 43 [.agg (GRP p q g), .agg [.ints .u64 4 (zs (wd a))], .agg [.ints .u64 4 (zs (wd n))]] [] (.tup [.agg [.ints .u64 4 (zs (wd (a ^ n % p)))], .s (.int .i64 0)]) [] := by
 refine con_in 23 Tryz.func43 rfl rfl (m := 0) rfl ?_
 intro E hP hn hE
 refine qz hP hn ?_
 refine s_op k_bx ?_
 refine s_op k_bx ?_
 refine s_op k_bx ?_
 refine o2 ?_
 refine qx hP hn ?_
 refine s_op k_ld ?_
 refine s_op k_bd ?_
 refine o2 ?_
 refine s_op k_bd ?_
 refine s_op k_al ?_
 refine s_st k_st ?_
 refine qx hP hn ?_
 refine o3 ?_
 refine s_op k_fnb ?_
 refine s_op k_ld ?_
 refine s_op (k_bsR [NR a]) ?_
 refine s_op (k_call [] (con := all_pow p q g hp hq hg [a] (fun i hi => by match i, hi with | 0, _ => exact ha) (Nat.le_of_ble_eq_true rfl) a n (a ^ n % p) (fun i hi => by match i, hi with | 0, _ => exact hmay) (pow_n p q g hp hq hg a n ((mayP_iff p a).1 hmay).2.2 hnn ((mayP_iff p a).1 hmay).1))) ?_
 refine o2 ?_
 refine s_st k_st ?_
 refine s_op k_as ?_
 refine s_nil trivial (n_wp (w_ret ?_))
 exact d_ret hP hn hE [] (ret2 Tryz.results43 r_cella (by first | exact ri_tmp rfl | exact ri_tmpa rfl))

theorem gexp_no (p q g : Nat) (hp : p < 2 ^ 256) (hq : q < 2 ^ 256) (hg : g < 2 ^ 256) (a n : Nat) (ha : a < 2 ^ 256) (hnn : n < 2 ^ 256) (hmay : mayP p a = false) : Con Tryz.prog 43 [.agg (GRP p q g), .agg [.ints .u64 4 (zs (wd a))], .agg [.ints .u64 4 (zs (wd n))]] [] (.tup [.agg [.ints .u64 4 (zs (wd 0))], .s (.int .i64 1)]) [] := by
 refine con_in 23 Tryz.func43 rfl rfl (m := 0) rfl ?_
 intro E hP hn hE
 refine qz hP hn ?_
 refine s_op k_bx ?_
 refine s_op k_bx ?_
 refine s_op k_bx ?_
 refine o2 ?_
 refine qx hP hn ?_
 refine s_op k_ld ?_
 refine s_op k_bd ?_
 refine o2 ?_
 refine s_op k_bd ?_
 refine s_op k_al ?_
 refine s_st k_st ?_
 refine qx hP hn ?_
 refine o3 ?_
 refine s_op k_fnb ?_
 refine s_op k_ld ?_
 refine s_op (k_bsR [NR a]) ?_
 refine s_op (k_call [] (con := allno_pow p q g hp hq hg [a] (fun i hi => by match i, hi with | 0, _ => exact ha) (Nat.le_of_ble_eq_true rfl) a n 0 (Nat.le_of_ble_eq_true rfl) hmay)) ?_
 refine o2 ?_
 refine s_st k_st ?_
 refine s_op k_as ?_
 refine s_nil trivial (n_wp (w_ret ?_))
 exact d_ret hP hn hE [] (ret2 Tryz.results43 r_cella (by first | exact ri_tmp rfl | exact ri_tmpa rfl))

theorem gexp_n (p q g : Nat) (hp : p < 2 ^ 256) (hq : q < 2 ^ 256) (hg : g < 2 ^ 256) (a n : Nat) (ha : a < 2 ^ 256) (hnn : n < 2 ^ 256)  : Con Tryz.prog 43 [.agg (GRP p q g), .agg [.ints .u64 4 (zs (wd a))], .agg [.ints .u64 4 (zs (wd n))]] [] (.tup [.agg [.ints .u64 4 (zs (wd (expP p a n)))], .s (.int .i64 (expE p a))]) [] := by
 unfold expP expE
 by_cases h : mayP p a = true
 · rw [if_pos h, if_pos h]; exact gexp_y p q g hp hq hg a n ha hnn h
 · rw [if_neg h, if_neg h]; exact gexp_no p q g hp hq hg a n ha hnn (by simpa using h)

theorem in_y (p q g : Nat) (hp : p < 2 ^ 256) (hq : q < 2 ^ 256) (hg : g < 2 ^ 256) (a : Nat) (ha : a < 2 ^ 256) (hmay : mayP p a = true) : Con Tryz.prog 74 [.agg (GRP p q g), .agg [.ints .u64 4 (zs (wd a))]] [] (.s (.bool (decide (a ^ q % p = 1)))) [] := by
 refine con_in 22 Tryz.func74 rfl rfl (m := 0) rfl ?_
 intro E hP hn hE
 refine qz hP hn ?_
 refine s_op k_bx ?_
 refine s_op k_bx ?_
 refine s_op k_as ?_
 refine qx hP hn ?_
 refine o4 ?_
 refine s_op (k_call [] (con := gexp_y p q g hp hq hg a q ha hq hmay)) ?_
 refine o4 ?_
 refine s_st k_st ?_
 refine s_op k_as ?_
 refine s_nil trivial (n_wp (w_seq ?_))
 refine g_any hP hn ?_
 refine o3 ?_
 refine s_on rfl rfl rfl k_ld ?_
 refine s_on rfl rfl rfl (k_call [] (con := gone_n)) ?_
 refine s_on rfl rfl rfl (k_eqN (a ^ q % p) 1 (by have := Nat.mod_lt (a ^ q) (show 0 < p by have := (mayP_iff p a).1 hmay; omega); omega) (by omega)) ?_
 refine o2 ?_
 refine s_nil (by kernel_rfl) ?_
 refine n_wp (w_ret ?_)
 exact d_ret hP hn hE [] (by first | exact r_tmp Tryz.results74 | exact r_tmpa Tryz.results74)

theorem in_no (p q g : Nat) (hp : p < 2 ^ 256) (hq : q < 2 ^ 256) (hg : g < 2 ^ 256) (a : Nat) (ha : a < 2 ^ 256) (hmay : mayP p a = false) : Con Tryz.prog 74 [.agg (GRP p q g), .agg [.ints .u64 4 (zs (wd a))]] [] (.s (.bool false)) [] := by
 refine con_in 22 Tryz.func74 rfl rfl (m := 0) rfl ?_
 intro E hP hn hE
 refine qz hP hn ?_
 refine s_op k_bx ?_
 refine s_op k_bx ?_
 refine s_op k_as ?_
 refine qx hP hn ?_
 refine o4 ?_
 refine s_op (k_call [] (con := gexp_no p q g hp hq hg a q ha hq hmay)) ?_
 refine o4 ?_
 refine s_st k_st ?_
 refine s_op k_as ?_
 refine s_nil trivial (n_wp (w_seq ?_))
 refine g_any hP hn ?_
 refine o3 ?_
 refine s_off rfl rfl rfl ?_
 refine s_off rfl rfl rfl ?_
 refine s_off rfl rfl rfl ?_
 refine o2 ?_
 refine s_nil (by kernel_rfl) ?_
 refine n_wp (w_ret ?_)
 exact d_ret hP hn hE [] (by first | exact r_tmp Tryz.results74 | exact r_tmpa Tryz.results74)

theorem in_n (p q g : Nat) (hp : p < 2 ^ 256) (hq : q < 2 ^ 256) (hg : g < 2 ^ 256) (a : Nat) (ha : a < 2 ^ 256)  : Con Tryz.prog 74 [.agg (GRP p q g), .agg [.ints .u64 4 (zs (wd a))]] [] (.s (.bool (inP p q a))) [] := by
 unfold inP
 cases h : mayP p a with
 | true => rw [Bool.true_and]; exact in_y p q g hp hq hg a ha h
 | false => rw [Bool.false_and]; exact in_no p q g hp hq hg a ha h

end Go.Proofs.X
end

section
set_option maxRecDepth 100000
set_option maxHeartbeats 4000000
open Go Go.Bx Go.Proofs
namespace Go.Proofs.X
attribute [local irreducible] bitsN wd dg cmpI subN undN shN pO pB TM mayP Go.Bx.valOf inP
theorem fine_n (p q g : Nat) (hp : p < 2 ^ 256) (hq : q < 2 ^ 256) (hg : g < 2 ^ 256) : Con Tryz.prog 40 [.agg (GRP p q g)] [] (.s (.bool (fineP p q g))) [] := by
 refine con_in 20 Tryz.func40 rfl rfl (m := 0) rfl ?_
 intro E hP hn hE
 refine qz hP hn ?_
 refine s_op k_bx ?_
 refine s_op k_as ?_
 refine s_nil trivial (n_wp (w_seq ?_))
 refine g_any hP hn ?_
 refine o2 ?_
 refine s_op (k_call [] (con := gone_n)) ?_
 refine s_op (k_call [] (con := cmp_n q 1 hq (by omega))) ?_
 refine s_op (k_gt0 q 1) ?_
 refine s_op k_mv ?_
 refine s_opt rfl rfl (fun hB => by rw [hB]; (try simp only [Bool.or_eq_true, Bool.or_eq_false_iff, Bool.and_eq_true, Bool.not_eq_true', Bool.not_eq_false', decide_eq_true_eq, decide_eq_false_iff_not] at hB); exact k_fa) ?_
 refine s_opt rfl rfl (fun hB => by rw [hB]; (try simp only [Bool.or_eq_true, Bool.or_eq_false_iff, Bool.and_eq_true, Bool.not_eq_true', Bool.not_eq_false', decide_eq_true_eq, decide_eq_false_iff_not] at hB); exact k_ld) ?_
 refine s_opt rfl rfl (fun hB => by rw [hB]; (try simp only [Bool.or_eq_true, Bool.or_eq_false_iff, Bool.and_eq_true, Bool.not_eq_true', Bool.not_eq_false', decide_eq_true_eq, decide_eq_false_iff_not] at hB); exact k_call [] (con := gone_n)) ?_
 refine s_opt rfl rfl (fun hB => by rw [hB]; (try simp only [Bool.or_eq_true, Bool.or_eq_false_iff, Bool.and_eq_true, Bool.not_eq_true', Bool.not_eq_false', decide_eq_true_eq, decide_eq_false_iff_not] at hB); exact k_neN g 1 hg (by omega)) ?_
 refine o2 ?_
 refine s_opt rfl rfl (fun hB => by rw [hB]; (try simp only [Bool.or_eq_true, Bool.or_eq_false_iff, Bool.and_eq_true, Bool.not_eq_true', Bool.not_eq_false', decide_eq_true_eq, decide_eq_false_iff_not] at hB); exact k_ld) ?_
 refine s_opt rfl rfl (fun hB => by rw [hB]; (try simp only [Bool.or_eq_true, Bool.or_eq_false_iff, Bool.and_eq_true, Bool.not_eq_true', Bool.not_eq_false', decide_eq_true_eq, decide_eq_false_iff_not] at hB); exact k_fa) ?_
 refine s_opt rfl rfl (fun hB => by rw [hB]; (try simp only [Bool.or_eq_true, Bool.or_eq_false_iff, Bool.and_eq_true, Bool.not_eq_true', Bool.not_eq_false', decide_eq_true_eq, decide_eq_false_iff_not] at hB); exact k_ld) ?_
 refine s_opt rfl rfl (fun hB => by rw [hB]; (try simp only [Bool.or_eq_true, Bool.or_eq_false_iff, Bool.and_eq_true, Bool.not_eq_true', Bool.not_eq_false', decide_eq_true_eq, decide_eq_false_iff_not] at hB); exact k_call [] (con := in_n p q g hp hq hg g hg)) ?_
 refine o2 ?_
 refine s_nil (by kernel_rfl) ?_
 refine n_wp (w_ret ?_)
 exact d_ret hP hn hE [] (by first | exact r_tmp Tryz.results40 | exact r_tmpa Tryz.results40)

theorem gmul_y (p q g : Nat) (hp : p < 2 ^ 256) (hq : q < 2 ^ 256) (hg : g < 2 ^ 256) (a b : Nat) (ha : a < 2 ^ 256) (hb : b < 2 ^ 256) (hma : mayP p a = true) (hmb : mayP p b = true) : Con Tryz.prog 124 [.agg (GRP p q g), .agg [.ints .u64 4 (zs (wd a))], .agg [.ints .u64 4 (zs (wd b))]] [] (.tup [.agg [.ints .u64 4 (zs (wd (a * b % p)))], .s (.int .i64 0)]) [] := by
 refine con_in 24 Tryz.func124 rfl rfl (m := 0) rfl ?_
 intro E hP hn hE
 refine qz hP hn ?_
 refine s_op k_bx ?_
 refine s_op k_bx ?_
 refine s_op k_bx ?_
 refine o2 ?_
 refine qx hP hn ?_
 refine s_op k_ld ?_
 refine s_op k_bd ?_
 refine o2 ?_
 refine s_op k_bd ?_
 refine s_op k_al ?_
 refine s_st k_st ?_
 refine qx hP hn ?_
 refine o3 ?_
 refine s_op k_fnb ?_
 refine o2 ?_
 refine s_op (k_bsR [NR a, NR b]) ?_
 refine s_op (k_call [] (con := all_prod p q g hp hq hg [a, b] (fun i hi => by match i, hi with | 0, _ => exact ha | 1, _ => exact hb) (Nat.le_of_ble_eq_true rfl) a b (a * b % p) (fun i hi => by match i, hi with | 0, _ => exact hma | 1, _ => exact hmb) (prod_n p q g hp hq hg a b ((mayP_iff p a).1 hma).2.2 ((mayP_iff p b).1 hmb).2.2 ((mayP_iff p a).1 hma).1))) ?_
 refine o2 ?_
 refine s_st k_st ?_
 refine s_op k_as ?_
 refine s_nil trivial (n_wp (w_ret ?_))
 exact d_ret hP hn hE [] (ret2 Tryz.results124 r_cella (by first | exact ri_tmp rfl | exact ri_tmpa rfl))

end Go.Proofs.X
end

section
set_option maxRecDepth 100000
set_option maxHeartbeats 4000000
open Go Go.Bx Go.Proofs
namespace Go.Proofs.X
theorem backward_c (ws : List Int) : Con Tryz.prog 107 [.s (.fzi .u64 ws)] [] (.s (.clo 129 1 (capF [.ptr 0 0 0]))) [some ⟨true, [.one (.fzi .u64 ws)]⟩] := by
 refine con_in 4 Tryz.func107 rfl rfl (m := 0) rfl ?_
 intro E hP hn hE
 refine qz hP hn ?_
 refine s_op k_bx ?_
 refine s_op k_as ?_
 refine qx hP hn ?_
 refine s_op (k_fn [.ptr 0 0 0]) ?_
 refine s_op k_as ?_
 refine s_nil trivial (n_wp (w_ret ?_))
 exact d_ret hP hn hE [] (by first | exact r_tmp Tryz.results107 | exact r_tmpa Tryz.results107)

theorem back_iter {E : Env} (hPE : E.P = Tryz.prog) {n : Nat} (hnE : E.n = n) (bx : Nat) (ws : List Int) (a b : Nat) (ha : a < n) (hb : b < n) (assign body : Code) (T : Tm) (Hs : Nat → Heap) (hws : ws.length ≤ 1000000) (hbx : ∀ k, k ≤ ws.length → hget (Hs k) bx = some ⟨true, [.one (.fzi .u64 ws)]⟩)
    (hY : ∀ k, k < ws.length → YRound Tryz.prog n assign body (roundT [a, b] [.s (.int .i64 ((ws.length : Int) - 1 - k)), .s (.int .u64 (ws.getD (ws.length - 1 - k) 0))] T) (Hs k) (Hs (k + 1))) : Iter E 129 1 (capF [.ptr bx 0 0]) #[a, b] assign body T (Hs 0) (Hs ws.length) := by
 intro l D ρ W tm w1 fn vs hH hd hT htm hW hl hvs
 rw [hPE]
 have hps : ∀ p ∈ (#[a, b] : Array Tmp).toList, p < n := by
  intro p hp
  simp at hp
  rcases hp with rfl | rfl <;> assumption
 refine calls_none (args := [.s (.val (.func (.yield l) #[] #[])), .s (.ptr bx 0 0)]) 19 Tryz.func129 rfl rfl Tryz.results129 (Nat.le_of_ble_eq_true rfl) hH hd hW ⟨by simp [hvs.1], fun i x hx => ?_⟩ (fun E2 hP hn hE hw0 hρ0 => ?_)
 · match i, hx with
   | 0, hx =>
    simp at hx; subst hx
    refine ⟨?_, rfl⟩
    rw [Array.getD_eq_getD_getElem?, Array.getElem?_append_left (by simp)]; rfl
   | 1, hx =>
    simp at hx; subst hx
    obtain ⟨u, e1, e2⟩ := hvs.2 0 (by omega)
    have : (#[Value.func (.yield l) #[] #[]] ++ vs).getD 1 undef = u := by
     rw [Array.getD_eq_getD_getElem?, Array.getElem?_append_right (by simp)]
     simp [e1]
    rw [this]; exact e2
   | i + 2, hx => simp at hx
 refine i_seq ?_
 refine ig_reg hP hn ?_
 refine s_op (k_ld (by exact a_load_one rfl (hbx 0 (Nat.zero_le _)) rfl)) ?_
 refine s_op k_len ?_
 refine s_op (k_sub (by exact l_bin rfl rfl (b_sub (wrap_i64 (by omega))))) ?_
 refine s_op k_as ?_
 refine s_nil trivial ?_
 refine ni_wp ?_
 refine i_block ?_
 refine i_loop (fun m T H => ∃ (k : Nat) (z : Int), k ≤ ws.length ∧ m = ws.length - k ∧ z = (ws.length : Int) - 1 - k ∧ T = [(0, .s (.val (.func (.yield l) #[] #[]))), (1, .s (.ptr bx 0 0)), (3, .s (.int .i64 z))] ∧ H = Hs k) ws.length ⟨0, (ws.length : Int) - 1, by omega, rfl, by omega, rfl, rfl⟩ weak_tm ?_
 rintro n_ T_ H_ ⟨k, z, hk, rfl, hz, rfl, rfl⟩
 refine i_seq ?_
 refine i_seq ?_
 refine ig_reg hP hn ?_
 refine s_op k_mv ?_
 refine s_op (k_geq (by exact l_bin rfl rfl (b_geq rfl))) ?_
 refine s_nil trivial ?_
 refine ni_wp ?_
 refine iw_if rfl (fun h8 => ?_) (fun h8 => ?_)
 · have hlt : k < ws.length := by omega
   have hzn : z = ((ws.length - 1 - k : Nat) : Int) := by omega
   refine i_skip ?_
   refine ni_wp ?_
   refine i_seq ?_
   refine i_block ?_
   refine i_seq ?_
   refine i_regY 6 (by rw [hn]; kernel_rfl) (by kernel_rfl) rfl rfl rfl rfl ?_
   rw [hP]
   refine o2 ?_
   refine s_op (k_ld (by exact a_load_one rfl (hbx k hk) rfl)) ?_
   refine s_op k_mv ?_
   refine s_op (k_ix (by exact a_ixi (hj := ⟨hzn⟩) rfl rfl (by omega))) ?_
   refine s_op (k_ld (by exact a_loadf rfl (by omega) rfl)) ?_
   refine s_nil trivial ?_
   refine ⟨[(17, .s (.bool true)), (0, .s (.val (.func (.yield l) #[] #[]))), (1, .s (.ptr bx 0 0)), (3, .s (.int .i64 z))], Hs (k + 1), fun aa ww hr K Q' hK => ?_, ?_⟩
   · rw [← hP]
     exact yield_op (E := E2) (n := n) (D := D) (tm := tm) (fn := fn) (avs := [.s (.int .i64 z), .s (.int .u64 (ws.getD (ws.length - 1 - k) 0))]) (ps := #[a, b]) (Trow := T) (l := l) (H' := Hs (k + 1)) (assign := assign) (body := body) (by exact rfl) (by exact rfl) (by rw [hn]; kernel_rfl) (by rw [hw0]; exact hl) (by rw [hρ0]; exact hT) (htm.trans hnE) hps rfl (by rw [hP, hz]; exact hY k hlt) aa ww hr K Q' (fun a' w' hr' => hK a' w' ((weak_tm : Weak E2 _ _ _ _) a' w' hr'))
   refine s_op k_not ?_
   refine s_nil trivial ?_
   refine ni_wp ?_
   refine iw_F rfl ?_
   refine i_skip ?_
   refine n_blo ?_
   refine ni_wp ?_
   refine ig_reg hP hn ?_
   refine s_op k_mv ?_
   refine s_op (k_sub (by exact l_bin rfl rfl (b_sub (wrap_i64 (by omega))))) ?_
   refine s_op k_as ?_
   refine s_nil trivial ?_
   exact ⟨ws.length - (k + 1), by omega, _, _, weak_tm, k + 1, z - 1, by omega, rfl, by omega, rfl, rfl⟩
 · have hk2 : k = ws.length := by omega
   subst hk2
   refine i_exit ?_
   refine x_thn (x_thn (x_eq ?_))
   exact ⟨.inr rfl, weak_tm⟩

abbrev RH (each tot at_ : Nat) (out ws : List Int) : Heap := [some ⟨true, [.one (.int .i64 ((each : Nat) : Int))]⟩, some ⟨true, [.ints .u8 tot out]⟩, some ⟨true, [.one (.slice 1 0 0 tot tot)]⟩, some ⟨true, [.one (.int .i64 ((at_ : Nat) : Int))]⟩, some ⟨true, [.one (.fzi .u64 ws)]⟩]
theorem row1_c (B ws : List Int) (each tot : Nat) (ht : tot = B.length + each * ws.length) (htb : tot ≤ 140737488355328) (hws : ws.length ≤ 1000000) (h0 : 0 < B.length) : Con Tryz.prog 81 [.s (.fzi .u8 B), .s (.int .i64 ((each : Nat) : Int)), .s (.fzi .u64 ws)] [] (.s (.fzi .u8 (spl (rr tot each ws.length ws ws.length) (B.take B.length) 0 B.length tot))) [] := by
 refine con_inF 44 Tryz.func81 rfl rfl (m := 0) rfl ?_
 intro E hP hn hE hF
 refine qz hP hn ?_
 refine s_op k_bx ?_
 refine s_op k_as ?_
 refine qx hP hn ?_
 refine o4 ?_
 refine o2 ?_
 refine s_op (k_add (by exact l_bin rfl rfl (b_add (r := ((tot : Nat) : Int)) (by rw [ht]; exact m_add (by omega))))) ?_
 refine s_op k_mk ?_
 refine s_op k_al ?_
 refine s_st k_st ?_
 refine qx hP hn ?_
 refine o3 ?_
 refine s_st k_st ?_
 refine s_nil trivial (n_wp (w_seq (qz hP hn ?_)))
 refine s_op k_mv ?_
 refine s_op (k_call [] (con := backward_c _)) ?_
 refine s_nil trivial (n_wp (w_block ?_))
 have hmul : each * ws.length ≤ tot := by omega
 refine w_weak (weak_tm (T' := [(0, .s (.fzi .u8 B)), (4, .s (.ptr 0 0 0)), (7, .s (.ptr 2 0 0)), (8, .s (.ptr 3 0 0)), (22, .s (.clo 129 1 (capF [.ptr 4 0 0])))])) ?_
 refine w_rangeFunc (gf := 129) (n := 1) (q := capF [.ptr 4 0 0]) (Hend := RH each tot (tot - each * ws.length) (rr tot each ws.length ws ws.length) ws) hF rfl (by rw [hP]; exact Clb.h) (Nat.le_refl _) (back_iter hP hn 4 ws 23 24 (by decide) (by decide) _ _ _ (fun k => RH each tot (tot - each * k) (rr tot each ws.length ws k) ws) hws (fun _ _ => rfl) (fun k hk => ?_)) ?_
 · have hk1 : each * (k + 1) ≤ each * ws.length := Nat.mul_le_mul_left each hk
   have hnx : tot - each * (k + 1) = tot - each * k - each := by rw [Nat.mul_succ]; omega
   have hA1 : each ≤ tot - each * k := by rw [Nat.mul_succ] at hk1; omega
   have hA2 : tot - each * k ≤ tot := Nat.sub_le _ _
   show YRound _ _ _ _ _ (RH each tot (tot - each * k) (rr tot each ws.length ws k) ws) (RH each tot (tot - each * (k + 1)) (rb (rr tot each ws.length ws k) (tot - each * k) (ws.getD (ws.length - 1 - k) 0) each).1 ws)
   rw [hnx]
   have hout := rr_len tot each ws.length ws k
   generalize tot - each * k = A at *
   generalize rr tot each ws.length ws k = out at *
   generalize ws.getD (ws.length - 1 - k) 0 = v at *
   refine ⟨Nat.le_refl _, [(4, .s (.ptr 0 0 0)), (7, .s (.ptr 2 0 0)), (8, .s (.ptr 3 0 0)), (10, .s (.int .u64 v))], fun l E hP hn hE => ⟨?_, ?_⟩⟩
   · refine ig_reg hP hn ?_
     refine s_op k_as ?_
     refine s_nil trivial ?_
     exact ⟨rfl, weak_tm⟩
   · refine i_block ?_
     refine i_seq ?_
     refine ig_reg hP hn ?_
     refine o2 ?_
     refine s_nil trivial ?_
     refine ni_wp ?_
     refine i_block ?_
     refine i_loop (fun m T H => ∃ j, j ≤ each ∧ m = each - j ∧ T = [(4, .s (.ptr 0 0 0)), (7, .s (.ptr 2 0 0)), (8, .s (.ptr 3 0 0)), (10, .s (.int .u64 (rb out A v j).2)), (25, .s (.int .i64 ((each : Nat) : Int))), (26, .s (.int .i64 ((j : Nat) : Int)))] ∧ H = RH each tot (A - j) (rb out A v j).1 ws) (each) ⟨0, by omega, rfl, rfl, rfl⟩ weak_tm ?_
     rintro n_ T_ H_ ⟨j, hj, rfl, rfl, rfl⟩
     have hlj : (rb out A v j).1.length = tot := (rb_len out A v j).trans hout
     refine i_seq ?_
     refine ig_reg hP hn ?_
     refine s_op k_lss ?_
     refine s_nil trivial ?_
     refine ni_wp ?_
     refine i_seq ?_
     refine iw_if rfl (fun h_t27 => ?_) (fun h_t27 => ?_)
     · refine i_skip ?_
       refine ni_wp ?_
       refine i_seq ?_
       refine i_block ?_
       refine i_seq ?_
       refine ig_reg hP hn ?_
       refine o2 ?_
       refine s_st k_st ?_
       refine s_nil trivial ?_
       refine ni_wp ?_
       refine ig_reg hP hn ?_
       refine o3 ?_
       refine o2 ?_
       refine s_op (k_quo (by exact l_bin rfl rfl (b_quo (by decide) rfl))) ?_
       refine s_op k_ix ?_
       refine s_st k_st ?_
       refine s_op k_as ?_
       refine s_nil trivial (n_blo ?_)
       refine ni_wp ?_
       refine ig_reg hP hn ?_
       refine o2 ?_
       refine s_nil trivial ?_
       exact n_round (each - (j + 1)) (by omega) ⟨j + 1, by omega, rfl, rfl, rfl⟩ weak_tm
     · have hje : j = each := by omega
       subst hje
       refine i_exit ?_
       refine x_thn (x_thn (x_eq (n_blo ?_)))
       exact ⟨rfl, weak_tm⟩
 have hat : tot - each * ws.length = B.length := by omega
 rw [hat]
 refine n_blo (n_wp (qz hP hn ?_))
 refine o2 ?_
 refine s_op k_sl ?_
 refine s_op k_mv ?_
 refine s_op (k_cpn B.length) ?_
 refine qx hP hn ?_
 refine o2 ?_
 refine s_nil trivial (n_wp (w_ret ?_))
 have HL : (spl (rr tot each ws.length ws ws.length) (B.take B.length) 0 B.length tot).length = tot := spl_len _ _ _ _ _
 exact d_retw hP hn (r_tmp Tryz.results81) ((frz_sl 0 (l' := spl (rr tot each ws.length ws ws.length) (B.take B.length) 0 B.length tot) (hl := HL) (hl' := by rw [List.drop_zero]; exact List.take_of_length_le (Nat.le_of_eq HL))).trans (wk hE []))

theorem row0_c (B ws : List Int) (each tot : Nat) (ht : tot = B.length + each * ws.length) (htb : tot ≤ 140737488355328) (hws : ws.length ≤ 1000000) (h0 : B.length = 0) : Con Tryz.prog 81 [.s (.fzi .u8 B), .s (.int .i64 ((each : Nat) : Int)), .s (.fzi .u64 ws)] [] (.s (.fzi .u8 (rr tot each ws.length ws ws.length))) [] := by
 refine con_inF 44 Tryz.func81 rfl rfl (m := 0) rfl ?_
 intro E hP hn hE hF
 refine qz hP hn ?_
 refine s_op k_bx ?_
 refine s_op k_as ?_
 refine qx hP hn ?_
 refine o4 ?_
 refine o2 ?_
 refine s_op (k_add (by exact l_bin rfl rfl (b_add (r := ((tot : Nat) : Int)) (by rw [ht]; exact m_add (by omega))))) ?_
 refine s_op k_mk ?_
 refine s_op k_al ?_
 refine s_st k_st ?_
 refine qx hP hn ?_
 refine o3 ?_
 refine s_st k_st ?_
 refine s_nil trivial (n_wp (w_seq (qz hP hn ?_)))
 refine s_op k_mv ?_
 refine s_op (k_call [] (con := backward_c _)) ?_
 refine s_nil trivial (n_wp (w_block ?_))
 have hmul : each * ws.length ≤ tot := by omega
 refine w_weak (weak_tm (T' := [(0, .s (.fzi .u8 B)), (4, .s (.ptr 0 0 0)), (7, .s (.ptr 2 0 0)), (8, .s (.ptr 3 0 0)), (22, .s (.clo 129 1 (capF [.ptr 4 0 0])))])) ?_
 refine w_rangeFunc (gf := 129) (n := 1) (q := capF [.ptr 4 0 0]) (Hend := RH each tot (tot - each * ws.length) (rr tot each ws.length ws ws.length) ws) hF rfl (by rw [hP]; exact Clb.h) (Nat.le_refl _) (back_iter hP hn 4 ws 23 24 (by decide) (by decide) _ _ _ (fun k => RH each tot (tot - each * k) (rr tot each ws.length ws k) ws) hws (fun _ _ => rfl) (fun k hk => ?_)) ?_
 · have hk1 : each * (k + 1) ≤ each * ws.length := Nat.mul_le_mul_left each hk
   have hnx : tot - each * (k + 1) = tot - each * k - each := by rw [Nat.mul_succ]; omega
   have hA1 : each ≤ tot - each * k := by rw [Nat.mul_succ] at hk1; omega
   have hA2 : tot - each * k ≤ tot := Nat.sub_le _ _
   show YRound _ _ _ _ _ (RH each tot (tot - each * k) (rr tot each ws.length ws k) ws) (RH each tot (tot - each * (k + 1)) (rb (rr tot each ws.length ws k) (tot - each * k) (ws.getD (ws.length - 1 - k) 0) each).1 ws)
   rw [hnx]
   have hout := rr_len tot each ws.length ws k
   generalize tot - each * k = A at *
   generalize rr tot each ws.length ws k = out at *
   generalize ws.getD (ws.length - 1 - k) 0 = v at *
   refine ⟨Nat.le_refl _, [(4, .s (.ptr 0 0 0)), (7, .s (.ptr 2 0 0)), (8, .s (.ptr 3 0 0)), (10, .s (.int .u64 v))], fun l E hP hn hE => ⟨?_, ?_⟩⟩
   · refine ig_reg hP hn ?_
     refine s_op k_as ?_
     refine s_nil trivial ?_
     exact ⟨rfl, weak_tm⟩
   · refine i_block ?_
     refine i_seq ?_
     refine ig_reg hP hn ?_
     refine o2 ?_
     refine s_nil trivial ?_
     refine ni_wp ?_
     refine i_block ?_
     refine i_loop (fun m T H => ∃ j, j ≤ each ∧ m = each - j ∧ T = [(4, .s (.ptr 0 0 0)), (7, .s (.ptr 2 0 0)), (8, .s (.ptr 3 0 0)), (10, .s (.int .u64 (rb out A v j).2)), (25, .s (.int .i64 ((each : Nat) : Int))), (26, .s (.int .i64 ((j : Nat) : Int)))] ∧ H = RH each tot (A - j) (rb out A v j).1 ws) (each) ⟨0, by omega, rfl, rfl, rfl⟩ weak_tm ?_
     rintro n_ T_ H_ ⟨j, hj, rfl, rfl, rfl⟩
     have hlj : (rb out A v j).1.length = tot := (rb_len out A v j).trans hout
     refine i_seq ?_
     refine ig_reg hP hn ?_
     refine s_op k_lss ?_
     refine s_nil trivial ?_
     refine ni_wp ?_
     refine i_seq ?_
     refine iw_if rfl (fun h_t27 => ?_) (fun h_t27 => ?_)
     · refine i_skip ?_
       refine ni_wp ?_
       refine i_seq ?_
       refine i_block ?_
       refine i_seq ?_
       refine ig_reg hP hn ?_
       refine o2 ?_
       refine s_st k_st ?_
       refine s_nil trivial ?_
       refine ni_wp ?_
       refine ig_reg hP hn ?_
       refine o3 ?_
       refine o2 ?_
       refine s_op (k_quo (by exact l_bin rfl rfl (b_quo (by decide) rfl))) ?_
       refine s_op k_ix ?_
       refine s_st k_st ?_
       refine s_op k_as ?_
       refine s_nil trivial (n_blo ?_)
       refine ni_wp ?_
       refine ig_reg hP hn ?_
       refine o2 ?_
       refine s_nil trivial ?_
       exact n_round (each - (j + 1)) (by omega) ⟨j + 1, by omega, rfl, rfl, rfl⟩ weak_tm
     · have hje : j = each := by omega
       subst hje
       refine i_exit ?_
       refine x_thn (x_thn (x_eq (n_blo ?_)))
       exact ⟨rfl, weak_tm⟩
 have hat : tot - each * ws.length = B.length := by omega
 rw [hat]
 refine n_blo (n_wp (qz hP hn ?_))
 refine o2 ?_
 refine s_op k_sl ?_
 refine s_op k_mv ?_
 refine s_op a_copy0 ?_
 refine qx hP hn ?_
 refine o2 ?_
 refine s_nil trivial (n_wp (w_ret ?_))
 have HL : (rr tot each ws.length ws ws.length).length = tot := rr_len _ _ _ _ _
 exact d_retw hP hn (r_tmp Tryz.results81) ((frz_sl 0 (l' := rr tot each ws.length ws ws.length) (hl := HL) (hl' := by rw [List.drop_zero]; exact List.take_of_length_le (Nat.le_of_eq HL))).trans (wk hE []))

theorem row_c (B ws : List Int) (each tot : Nat) (ht : tot = B.length + each * ws.length) (htb : tot ≤ 140737488355328) (hws : ws.length ≤ 1000000) : Con Tryz.prog 81 [.s (.fzi .u8 B), .s (.int .i64 ((each : Nat) : Int)), .s (.fzi .u64 ws)] [] (.s (.fzi .u8 (rowL tot B B.length each ws.length ws))) [] := by
 unfold rowL
 by_cases h : B.length = 0
 · rw [if_pos h]; exact row0_c B ws each tot ht htb hws h
 · rw [if_neg h]; exact row1_c B ws each tot ht htb hws (by omega)

theorem put_c (B : List Int) (v : Int) (n : Nat) (hn8 : n ≤ 8) (hB : B.length ≤ 140737488355000) : Con Tryz.prog 52 [.s (.fzi .u8 B), .s (.int .u64 v), .s (.int .i64 ((n : Nat) : Int))] [] (.s (.fzi .u8 (rowL (B.length + n * 1) B B.length n 1 [v]))) [] := by
 refine con_in 14 Tryz.func52 rfl rfl (m := 0) rfl ?_
 intro E hP hn hE
 refine qz hP hn ?_
 refine s_op k_as ?_
 refine qx hP hn ?_
 refine o2 ?_
 refine s_op (k_min (by exact l_min (r := ((n : Nat) : Int)) rfl rfl (by have := hn8; split <;> omega))) ?_
 refine s_op (k_max (by exact l_max (r := ((n : Nat) : Int)) rfl rfl (by split <;> omega))) ?_
 refine s_op k_mv ?_
 refine s_op k_bsf ?_
 refine s_op (k_call [] (con := row_c B [v] n (B.length + n * 1) rfl (by omega) (Nat.le_of_ble_eq_true rfl))) ?_
 refine s_op k_as ?_
 refine s_nil trivial (n_wp (w_ret ?_))
 exact d_ret hP hn hE [] (by first | exact r_tmp Tryz.results52 | exact r_tmpa Tryz.results52)

end Go.Proofs.X
end

section
set_option maxRecDepth 100000
set_option maxHeartbeats 4000000
open Go Go.Bx Go.Proofs
namespace Go.Proofs.X
theorem rot_c (x k : Int) : Con Tryz.prog 152 [.s (.int .u32 x), .s (.int .i64 k)] [] (.s (.int .u32 (rotI x k))) [] := by
 refine con_in 17 Tryz.func152 rfl rfl (m := 0) rfl ?_
 intro E hP hn hE
 refine qz hP hn ?_
 refine s_op k_as ?_
 refine qx hP hn ?_
 refine s_op k_mv ?_
 refine s_op (k_cv (by exact a_conv rfl rfl)) ?_
 refine s_op (k_and (by exact l_bin rfl rfl (b_and rfl))) ?_
 refine s_op k_as ?_
 refine qx hP hn ?_
 refine o2 ?_
 refine s_op (k_shl (by exact l_bin rfl rfl (b_shl (rs_nonneg _) rfl))) ?_
 refine o2 ?_
 refine s_op (k_sub (by exact l_bin rfl rfl (b_sub rfl))) ?_
 refine s_op (k_shr (by exact l_bin rfl rfl (b_shr (wrap_u64_nonneg _) rfl))) ?_
 refine o2 ?_
 refine s_nil trivial (n_wp (w_ret ?_))
 exact d_ret hP hn hE [] (by first | exact r_tmp Tryz.results152 | exact r_tmpa Tryz.results152)

theorem down_c (x : Int) (ps : List Int) (hl : ps.length ≤ 64) : Con Tryz.prog 143 [.s (.int .u32 x), .s (.fzi .i64 ps)] [] (.s (.int .u32 (dnI x ps ps.length))) [] := by
 refine con_in 22 Tryz.func143 rfl rfl (m := 0) rfl ?_
 intro E hP hn hE
 refine qz hP hn ?_
 refine s_op k_as ?_
 refine qx hP hn ?_
 refine s_op k_as ?_
 refine s_nil trivial (n_wp (w_seq (qz hP hn ?_)))
 refine o3 ?_
 refine s_nil trivial (n_wp (w_block ?_))
 refine c_loop (fun m T H => ∃ i, i ≤ ps.length ∧ m = ps.length - i ∧ T = [(0, .s (.int .u32 x)), (5, .s (.int .u32 (dnI x ps i))), (8, .s (.fzi .i64 ps)), (9, .s (.int .i64 ((ps.length : Nat) : Int))), (10, .s (.int .i64 ((i : Nat) : Int)))] ∧ H = []) (ps.length) ⟨0, by omega, rfl, rfl, rfl⟩ (wk hE []) ?_
 rintro n_ T_ H_ ⟨i, hi, rfl, rfl, rfl⟩
 refine qz hP hn ?_
 refine s_op k_lss ?_
 refine s_nil trivial (n_wp (w_seq ?_))
 refine w_if rfl (fun h_t11 => ?_) (fun h_t11 => ?_)
 · refine w_skip (n_wp (w_seq (w_block (qz hP hn ?_))))
   refine o3 ?_
   refine qy hP hn ?_
   refine o3 ?_
   refine s_op k_neg ?_
   refine s_op (k_call [] (con := rot_c _ _)) ?_
   refine o2 ?_
   refine s_nil trivial (n_blo (n_wp (g_reg hP hn ?_)))
   refine o2 ?_
   refine s_nil trivial ?_
   exact n_round (ps.length - (i + 1)) (by omega) ⟨i + 1, by omega, rfl, rfl, rfl⟩ (wk hE [])
 · have hi : i = ps.length := by omega
   subst hi
   refine w_exit (x_thn (x_thn (x_eq (n_wp (qz hP hn ?_)))))
   refine o2 ?_
   refine s_nil trivial (n_wp (w_ret ?_))
   exact d_ret hP hn hE [] (by first | exact r_tmp Tryz.results143 | exact r_tmpa Tryz.results143)

theorem get_c (B : List Int) (m : Nat) (h0 : 0 < m) (h8 : m ≤ 8) (hm : m ≤ B.length) : Con Tryz.prog 31 [.s (.fzi .u8 B), .s (.int .i64 ((m : Nat) : Int))] [] (.tup [.s (.int .u64 (getI B m)), .s (.int .i64 0)]) [] := by
 refine con_in 35 Tryz.func31 rfl rfl (m := 0) rfl ?_
 intro E hP hn hE
 refine qz hP hn ?_
 refine o2 ?_
 refine s_nil trivial (n_wp (w_seq (qz hP hn ?_)))
 refine o3 ?_
 refine s_on rfl rfl rfl k_mv ?_
 refine s_on rfl rfl rfl k_gtr ?_
 refine s_op k_pk ?_
 refine s_nil trivial (n_wp ?_)
 refine w_F rfl ?_ 
 refine w_skip (n_wp (w_seq (qz hP hn ?_)))
 refine o4 ?_
 refine s_nil trivial (n_wp ?_)
 refine w_F rfl ?_ 
 refine w_skip (n_wp (qz hP hn ?_))
 refine s_op k_al ?_
 refine qx hP hn ?_
 refine o2 ?_
 refine s_op k_sl ?_
 refine s_op k_mv ?_
 refine s_op (k_cpn m) ?_
 refine s_nil trivial (n_wp (w_seq (qz hP hn ?_)))
 refine s_op k_mv ?_
 refine s_nil trivial (n_wp (w_block ?_))
 refine c_loop (fun q T H => ∃ i, i ≤ 8 ∧ q = 8 - i ∧ T = [(4, .s (.int .u64 (gI (spl (z 8) (B.take m) (8 - m) m 8) i))), (6, .s (.ptr 0 0 0)), (23, .s (.int .i64 ((i : Nat) : Int)))] ∧ H = [some ⟨true, [.ints .u8 8 (spl (z 8) (B.take m) (8 - m) m 8)]⟩]) (8) ⟨0, by omega, rfl, rfl, rfl⟩ (wk hE []) ?_
 rintro n_ T_ H_ ⟨i, hi, rfl, rfl, rfl⟩
 refine qz hP hn ?_
 refine s_op k_lss ?_
 refine s_nil trivial (n_wp (w_seq ?_))
 refine w_if rfl (fun h_t24 => ?_) (fun h_t24 => ?_)
 · refine w_skip (n_wp (w_seq (w_block (qz hP hn ?_))))
   refine o2 ?_
   refine qy hP hn ?_
   refine o4 ?_
   refine o4 ?_
   refine s_nil trivial (n_blo (n_wp (g_reg hP hn ?_)))
   refine o2 ?_
   refine s_nil trivial ?_
   exact n_round (8 - (i + 1)) (by omega) ⟨i + 1, by omega, rfl, rfl, rfl⟩ (wk hE [])
 · have hi : i = 8 := by omega
   subst hi
   refine w_exit (x_thn (x_thn (x_eq (n_wp (qz hP hn ?_)))))
   refine o3 ?_
   refine s_nil trivial (n_wp (w_ret ?_))
   exact d_ret hP hn hE [] (ret2 Tryz.results31 (by first | exact ri_tmp rfl | exact ri_tmpa rfl) (by first | exact ri_tmp rfl | exact ri_tmpa rfl))

theorem adds_c  : Con Tryz.prog 142 [] [] (.agg [.ints .u32 64 KS]) [] := by
 refine con_in 2 Tryz.func142 rfl rfl (m := 0) rfl ?_
 intro E hP hn hE
 refine qz hP hn ?_
 refine s_op k_al ?_
 refine qx hP hn ?_
 refine s_op (k_bd (by exact a_buildK KS (by kernel_rfl) (by kernel_rfl) rfl)) ?_
 refine s_st k_st ?_
 refine s_nil trivial (n_wp (w_ret ?_))
 exact d_ret hP hn hE [] (r_cell Tryz.results142)

end Go.Proofs.X
end

section
set_option maxRecDepth 100000
set_option maxHeartbeats 4000000
open Go Go.Bx Go.Proofs
namespace Go.Proofs.X
attribute [local irreducible] dnI gI
theorem numA_c (w : List Int) (t : Nat) (s b : List Int) (n l : Int) (hw : w.length = 16) (hb : b.length = 64) (ht : t < 16) : Con Tryz.prog 151 [.s (.ptr 0 0 0), .s (.ptr 1 0 0), .s (.ptr 2 0 0)] [some ⟨true, [.ints .u32 16 w]⟩, some ⟨true, [.one (.int .i64 ((t : Nat) : Int))]⟩, some ⟨true, [.one (.ptr 3 1 0)]⟩, some ⟨true, RUN s b n l⟩] (.s (.int .u32 ((w.set (t % 16) (IntKind.u32.wrap (getI ((b.drop (4 * t)).take (64 - 4 * t)) 4))).getD (t % 16) 0))) [some ⟨true, [.ints .u32 16 (w.set (t % 16) (IntKind.u32.wrap (getI ((b.drop (4 * t)).take (64 - 4 * t)) 4)))]⟩, some ⟨true, [.one (.int .i64 ((t + 1 : Nat) : Int))]⟩, some ⟨true, [.one (.ptr 3 1 0)]⟩, some ⟨true, RUN s b n l⟩] := by
 refine con_in 75 Tryz.func151 rfl rfl (m := 4) rfl ?_
 intro E hP hn hE
 refine qz hP hn ?_
 refine s_op k_as ?_
 refine qx hP hn ?_
 refine o4 ?_
 refine s_nil trivial (n_wp (w_seq (qz hP hn ?_)))
 refine o2 ?_
 refine s_nil trivial (n_wp ?_)
 refine w_T rfl ?_ 
 refine w_seq ?_
 refine g_any hP hn ?_
 refine o3 ?_
 refine o2 ?_
 refine s_op k_sl ?_
 refine s_op (k_tmp 3 (h := k_call [] (con := get_c ((b.drop (4 * t)).take (64 - 4 * t)) 4 (by decide) (by decide) (by simp [hb]; omega)))) ?_
 refine o3 ?_
 refine o2 ?_
 refine s_nil (by kernel_rfl) ?_
 refine n_wp (g_reg hP hn ?_)
 refine o4 ?_
 refine s_st k_st ?_
 refine qx hP hn ?_
 refine o2 ?_
 refine s_st k_st ?_
 refine qx hP hn ?_
 refine o4 ?_
 refine s_nil trivial (n_wp (w_ret ?_))
 exact d_ret hP hn hE [] (by first | exact r_tmp Tryz.results151 | exact r_tmpa Tryz.results151)

theorem numB_c (w : List Int) (t : Nat) (s b : List Int) (n l : Int) (hw : w.length = 16) (hb : b.length = 64) (ht : ¬ t < 16) (ht2 : t < 64) : Con Tryz.prog 151 [.s (.ptr 0 0 0), .s (.ptr 1 0 0), .s (.ptr 2 0 0)] [some ⟨true, [.ints .u32 16 w]⟩, some ⟨true, [.one (.int .i64 ((t : Nat) : Int))]⟩, some ⟨true, [.one (.ptr 3 1 0)]⟩, some ⟨true, RUN s b n l⟩] (.s (.int .u32 ((wn3 (wn2 (wn1 w t) (w.getD ((t + 14) % 16) 0) t) t).getD (t % 16) 0))) [some ⟨true, [.ints .u32 16 (wn3 (wn2 (wn1 w t) (w.getD ((t + 14) % 16) 0) t) t)]⟩, some ⟨true, [.one (.int .i64 ((t + 1 : Nat) : Int))]⟩, some ⟨true, [.one (.ptr 3 1 0)]⟩, some ⟨true, RUN s b n l⟩] := by
 refine con_in 75 Tryz.func151 rfl rfl (m := 4) rfl ?_
 intro E hP hn hE
 refine qz hP hn ?_
 refine s_op k_as ?_
 refine qx hP hn ?_
 refine o4 ?_
 refine s_nil trivial (n_wp (w_seq (qz hP hn ?_)))
 refine o2 ?_
 refine s_nil trivial (n_wp ?_)
 refine w_F rfl ?_ 
 refine w_seq ?_
 refine g_any hP hn ?_
 refine o4 ?_
 refine o4 ?_
 refine o4 ?_
 refine s_nil (by kernel_rfl) ?_
 refine n_wp (w_seq ?_)
 refine g_any hP hn ?_
 refine o4 ?_
 refine s_op k_bsf ?_
 refine s_op (k_call [] (con := down_c _ _ (by decide))) ?_
 refine o3 ?_
 refine o2 ?_
 refine s_st k_st ?_
 refine s_nil (by kernel_rfl) ?_
 refine n_wp (w_seq ?_)
 refine g_any hP hn ?_
 refine o4 ?_
 refine s_op k_bsf ?_
 refine s_op (k_call [] (con := down_c _ _ (by decide))) ?_
 refine o3 ?_
 refine o2 ?_
 refine s_st k_st ?_
 refine s_nil (by kernel_rfl) ?_
 refine n_wp ?_
 refine g_any hP hn ?_
 refine o4 ?_
 refine o4 ?_
 refine o2 ?_
 refine s_st k_st ?_
 refine s_nil (by kernel_rfl) ?_
 refine n_wp (qz hP hn ?_)
 refine o2 ?_
 refine s_st k_st ?_
 refine qx hP hn ?_
 refine o4 ?_
 refine s_nil trivial (n_wp (w_ret ?_))
 exact d_ret hP hn hE [] (by first | exact r_tmp Tryz.results151 | exact r_tmpa Tryz.results151)

theorem num_c (w : List Int) (t : Nat) (s b : List Int) (n l : Int) (hw : w.length = 16) (hb : b.length = 64) (ht : t < 64) : Con Tryz.prog 151 [.s (.ptr 0 0 0), .s (.ptr 1 0 0), .s (.ptr 2 0 0)] [some ⟨true, [.ints .u32 16 w]⟩, some ⟨true, [.one (.int .i64 ((t : Nat) : Int))]⟩, some ⟨true, [.one (.ptr 3 1 0)]⟩, some ⟨true, RUN s b n l⟩] (.s (.int .u32 ((wn b w t).getD (t % 16) 0))) [some ⟨true, [.ints .u32 16 (wn b w t)]⟩, some ⟨true, [.one (.int .i64 ((t + 1 : Nat) : Int))]⟩, some ⟨true, [.one (.ptr 3 1 0)]⟩, some ⟨true, RUN s b n l⟩] := by
 by_cases h : t < 16
 · rw [wn_lt b w h]; exact numA_c w t s b n l hw hb h
 · rw [wn_ge b w h]; exact numB_c w t s b n l hw hb h ht

theorem numbers_c (s b : List Int) (n l : Int) : Con Tryz.prog 141 [.s (.ptr 0 1 0)] [some ⟨true, RUN s b n l⟩] (.s (.clo 151 3 (capF [.ptr 2 0 0, .ptr 3 0 0, .ptr 1 0 0]))) [some ⟨true, RUN s b n l⟩, some ⟨true, [.one (.ptr 0 1 0)]⟩, some ⟨true, [.ints .u32 16 (z 16)]⟩, some ⟨true, [.one (.int .i64 ((0 : Nat) : Int))]⟩] := by
 refine con_in 6 Tryz.func141 rfl rfl (m := 1) rfl ?_
 intro E hP hn hE
 refine qz hP hn ?_
 refine s_op k_bx ?_
 refine s_op k_as ?_
 refine qx hP hn ?_
 refine s_op k_al ?_
 refine qx hP hn ?_
 refine s_op k_al ?_
 refine s_st k_st ?_
 refine qx hP hn ?_
 refine s_op (k_fn [.ptr 2 0 0, .ptr 3 0 0, .ptr 1 0 0]) ?_
 refine s_op k_as ?_
 refine s_nil trivial (n_wp (w_ret ?_))
 exact d_ret hP hn hE [] (by first | exact r_tmp Tryz.results141 | exact r_tmpa Tryz.results141)

theorem after_c (s0 s b : List Int) (n l : Int) (hs : s0.length = 8) (hb : b.length = 64) : Con Tryz.prog 125 [.agg [.ints .u32 8 s0], .s (.ptr 0 1 0)] [some ⟨true, RUN s b n l⟩] (.agg [.ints .u32 8 (aft s0 b)]) [some ⟨true, RUN s b n l⟩] := by
 refine con_in 90 Tryz.func125 rfl rfl (m := 1) rfl ?_
 intro E hP hn hE
 refine qz hP hn ?_
 refine s_op k_bx ?_
 refine s_op k_al ?_
 refine s_nil trivial (n_wp (w_seq ?_))
 refine g_any hP hn ?_
 refine o2 ?_
 refine s_op (k_call [0] (con := numbers_c _ _ _ _)) ?_
 refine s_heap (H' := [some ⟨true, RUN s b n l⟩, some ⟨true, [.ints .u32 8 s0]⟩, some ⟨true, [.ints .u32 8 (z 8)]⟩, some ⟨true, [.one (.ptr 0 1 0)]⟩, some ⟨true, [.ints .u32 16 (z 16)]⟩, some ⟨true, [.one (.int .i64 ((0 : Nat) : Int))]⟩]) rfl ?_
 refine s_op k_al ?_
 refine s_st k_st ?_
 refine s_op k_as ?_
 refine s_nil (by kernel_rfl) ?_
 refine n_wp (w_seq (qz hP hn ?_))
 refine s_op (k_call [] (con := adds_c)) ?_
 refine s_op k_mv ?_
 refine s_nil trivial (n_wp (w_block ?_))
 refine c_loop (fun q T H => ∃ i, i ≤ 64 ∧ q = 64 - i ∧ T = [(2, .s (.ptr 1 0 0)), (4, .s (.ptr 2 0 0)), (5, .s (.ptr 6 0 0)), (6, .s (.clo 151 3 (capF [.ptr 4 0 0, .ptr 5 0 0, .ptr 3 0 0]))), (16, .agg [.ints .u32 64 KS]), (17, .s (.int .i64 ((i : Nat) : Int)))] ∧ H = [some ⟨true, RUN s b n l⟩, some ⟨true, [.ints .u32 8 s0]⟩, some ⟨true, [.ints .u32 8 (z 8)]⟩, some ⟨true, [.one (.ptr 0 1 0)]⟩, some ⟨true, [.ints .u32 16 (ws b i)]⟩, some ⟨true, [.one (.int .i64 ((i : Nat) : Int))]⟩, some ⟨true, [.ints .u32 8 (ls s0 b i)]⟩]) (64) ⟨0, by omega, rfl, rfl, rfl⟩ (wk hE []) ?_
 rintro n_ T_ H_ ⟨i, hi, rfl, rfl, rfl⟩
 refine qz hP hn ?_
 refine s_op k_lss ?_
 refine s_nil trivial (n_wp (w_seq ?_))
 refine w_if rfl (fun h_t18 => ?_) (fun h_t18 => ?_)
 · have h8 := ls_len s0 b hs i
   have h16 := ws_len b i
   refine w_skip (n_wp (w_seq (w_block (qz hP hn ?_))))
   refine s_op k_id ?_
   refine s_op k_as ?_
   refine s_nil trivial (n_wp (w_seq ?_))
   refine g_any hP hn ?_
   refine o4 ?_
   refine s_op k_bsf ?_
   refine s_op (k_call [] (con := down_c _ _ (by decide))) ?_
   refine o4 ?_
   refine o4 ?_
   refine s_op k_com ?_
   refine o4 ?_
   refine o4 ?_
   refine s_op (k_callc [4, 5, 3, 0] rfl (con := num_c (ws b i) i s b n l h16 hb h_t18)) ?_
   refine s_heap (H' := [some ⟨true, RUN s b n l⟩, some ⟨true, [.ints .u32 8 s0]⟩, some ⟨true, [.ints .u32 8 (z 8)]⟩, some ⟨true, [.one (.ptr 0 1 0)]⟩, some ⟨true, [.ints .u32 16 (wn b (ws b i) i)]⟩, some ⟨true, [.one (.int .i64 ((i + 1 : Nat) : Int))]⟩, some ⟨true, [.ints .u32 8 (ls s0 b i)]⟩, none]) rfl ?_
   refine o2 ?_
   refine s_nil (by kernel_rfl) ?_
   refine n_wp (w_seq ?_)
   refine g_any hP hn ?_
   refine o2 ?_
   refine s_op k_bsf ?_
   refine s_op (k_call [] (con := down_c _ _ (by decide))) ?_
   refine o4 ?_
   refine o4 ?_
   refine o4 ?_
   refine o4 ?_
   refine s_nil (by kernel_rfl) ?_
   refine n_wp (w_seq ?_)
   refine g_any hP hn ?_
   refine s_op k_sl ?_
   refine s_op k_sl ?_
   refine s_op (k_cpn 7) ?_
   refine s_nil (by kernel_rfl) ?_
   refine n_wp (qz hP hn ?_)
   refine o3 ?_
   refine o2 ?_
   refine s_st k_st ?_
   refine qy hP hn ?_
   refine o4 ?_
   refine s_st k_st ?_
   refine s_nil trivial (n_blo (n_wp (g_reg hP hn ?_)))
   refine o2 ?_
   refine s_nil trivial ?_
   exact n_round (64 - (i + 1)) (by omega) ⟨i + 1, by omega, rfl, rfl, rfl⟩ (wk hE [])
 · have hi : i = 64 := by omega
   subst hi
   have h8 := ls_len s0 b hs 64
   refine w_exit (x_thn (x_thn (x_eq (n_wp (w_seq (qz hP hn ?_))))))
   refine o2 ?_
   refine s_nil trivial (n_wp (w_block ?_))
   refine c_loop (fun q T H => ∃ i, i ≤ 8 ∧ q = 8 - i ∧ T = [(4, .s (.ptr 2 0 0)), (5, .s (.ptr 6 0 0)), (77, .agg [.ints .u32 8 s0]), (78, .s (.int .i64 ((i : Nat) : Int)))] ∧ H = [some ⟨true, RUN s b n l⟩, some ⟨true, [.ints .u32 8 s0]⟩, some ⟨true, [.ints .u32 8 (z 8)]⟩, some ⟨true, [.one (.ptr 0 1 0)]⟩, some ⟨true, [.ints .u32 16 (ws b 64)]⟩, some ⟨true, [.one (.int .i64 ((64 : Nat) : Int))]⟩, some ⟨true, [.ints .u32 8 (fin s0 (ls s0 b 64) i)]⟩]) (8) ⟨0, by omega, rfl, rfl, rfl⟩ (wk hE []) ?_
   rintro n_ T_ H_ ⟨i, hi, rfl, rfl, rfl⟩
   refine qz hP hn ?_
   refine s_op k_lss ?_
   refine s_nil trivial (n_wp (w_seq ?_))
   refine w_if rfl (fun h_t79 => ?_) (fun h_t79 => ?_)
   · have h8 := (fin_len s0 (ls s0 b 64) i).trans (ls_len s0 b hs 64)
     refine w_skip (n_wp (w_seq (w_block (qz hP hn ?_))))
     refine s_op k_mv ?_
     refine s_op k_id ?_
     refine o2 ?_
     refine qy hP hn ?_
     refine o4 ?_
     refine o2 ?_
     refine s_st k_st ?_
     refine s_nil trivial (n_blo (n_wp (g_reg hP hn ?_)))
     refine o2 ?_
     refine s_nil trivial ?_
     exact n_round (8 - (i + 1)) (by omega) ⟨i + 1, by omega, rfl, rfl, rfl⟩ (wk hE [])
   · have hi : i = 8 := by omega
     subst hi
     refine w_exit (x_thn (x_thn (x_eq (n_wp (qz hP hn ?_)))))
     refine s_op k_ld ?_
     refine s_st k_st ?_
     refine s_nil trivial (n_wp (w_ret ?_))
     exact d_ret hP hn hE [] (r_cell Tryz.results125)

end Go.Proofs.X
end

section
set_option maxRecDepth 100000
set_option maxHeartbeats 4000000
open Go Go.Bx Go.Proofs
namespace Go.Proofs.X
attribute [local irreducible] ws ls dnI gI
theorem takes_c (L : List (List Int)) (q0 : Run) (tot : Nat) (hq0 : RunOk q0) (hL : L.length ≤ 1000000) (hl : tot + L.flatten.length < 18446744073709551616) (hB : ∀ i, (L.getD i []).length ≤ 4611686018427387904) : Con Tryz.prog 99 [.s (.ptr 0 0 0), .s (ROWS L)] [some (RQ q0 tot)] (.tup []) [some (RQ (tk q0 L.flatten) (tot + L.flatten.length))] := by
 refine con_in 76 Tryz.func99 rfl rfl (m := 1) rfl ?_
 intro E hP hn hE
 refine qz hP hn ?_
 refine o3 ?_
 refine s_nil trivial (n_wp (w_block ?_))
 refine c_loop (fun m T H => ∃ i q, i ≤ L.length ∧ m = L.length - i ∧ q = tk q0 (L.take i).flatten ∧ T = [(0, .s (.ptr 0 0 0)), (8, .s (ROWS L)), (9, .s (.int .i64 ((L.length : Nat) : Int))), (10, .s (.int .i64 ((i : Nat) : Int)))] ∧ H = [some (RQ q (tot + ((L.take i).flatten).length))]) (L.length) ⟨0, q0, by omega, rfl, by simp [tk], rfl, rfl⟩ (wk hE []) ?_
 rintro n_ T_ H_ ⟨i, q, hi, rfl, hq, rfl, rfl⟩
 have hok : RunOk q := hq ▸ tk_ok hq0 _
 refine qz hP hn ?_
 refine s_op k_lss ?_
 refine s_nil trivial (n_wp (w_seq ?_))
 refine w_if rfl (fun h_t11 => ?_) (fun h_t11 => ?_)
 · have hfl := flat_s L h_t11
   have htot : (L.take (i + 1)).flatten.length = (L.take i).flatten.length + (L.getD i []).length := by rw [hfl, List.length_append]
   have hstart : tk q (L.getD i []) = tk q0 (L.take (i + 1)).flatten := by rw [hfl, tk_append, hq]
   have hle : (L.take (i + 1)).flatten.length ≤ L.flatten.length := by
     have := congrArg (fun x => (List.flatten x).length) (List.take_append_drop (i + 1) L)
     simp only [List.flatten_append, List.length_append] at this
     omega
   refine w_skip (n_wp (w_seq (w_block (qz hP hn ?_))))
   refine s_op k_ix ?_
   refine s_op (k_ld (by exact a_loadf (v := .fzi .u8 (L.getD i [])) rfl (by omega) (rows_at L h_t11))) ?_
   refine s_op k_as ?_
   refine qx hP hn ?_
   refine o4 ?_
   refine o4 ?_
   refine o2 ?_
   refine s_st k_st ?_
   refine s_nil trivial (n_wp (w_block ?_))
   refine c_loop (fun m T H => ∃ (q : Run) (W : List Int), RunOk q ∧ tk q W = tk q0 (L.take (i + 1)).flatten ∧ W.length ≤ 4611686018427387904 ∧ m = W.length ∧ T = [(0, .s (.ptr 0 0 0)), (8, .s (ROWS L)), (9, .s (.int .i64 ((L.length : Nat) : Int))), (10, .s (.int .i64 ((i : Nat) : Int))), (5, .s (.fzi .u8 W))] ∧ H = [some (RQ q (tot + (L.take i).flatten.length + (L.getD i []).length))]) ((L.getD i []).length) ⟨q, (L.getD i []), hok, hstart, hB i, rfl, rfl, rfl⟩ (wk hE []) ?_
   rintro n_ T_ H_ ⟨q, W, hok, hW, hWl, rfl, rfl, rfl⟩
   have hm := hok.m
   have hbl := hok.b
   have hsl := hok.s
   refine w_seq (qz hP hn ?_)
   refine o3 ?_
   refine s_nil trivial (n_wp ?_)
   refine w_if rfl (fun h_t26 => ?_) (fun h_t26 => ?_)
   · obtain ⟨m, hmm⟩ : ∃ m, m = min W.length (64 - q.m) := ⟨_, rfl⟩
     have hok2 : RunOk (chunk q (W.take m) m) := chunk_ok hok _ _ (by omega)
     have hW2 : tk (chunk q (W.take m) m) ((W.drop m).take (W.length - m)) = tk q0 (L.take (i + 1)).flatten := by
       rw [← tk_chunk q hok _ m (by simp; omega) (by omega) (by omega), ← tk_append, show (W.drop m).take (W.length - m) = W.drop m from List.take_of_length_le (by simp), List.take_append_drop]; exact hW
     refine w_skip (n_wp (w_block (w_seq ?_)))
     refine g_any hP hn ?_
     refine o4 ?_
     refine o3 ?_
     refine o2 ?_
     refine s_op k_sl ?_
     refine s_op k_mv ?_
     refine s_op (k_cpn m) ?_
     refine s_op k_as ?_
     refine s_nil (by kernel_rfl) ?_
     refine n_wp (qz hP hn ?_)
     refine o2 ?_
     refine s_op k_sl ?_
     refine s_op k_as ?_
     refine qx hP hn ?_
     refine o4 ?_
     refine o4 ?_
     refine o2 ?_
     refine s_st k_st ?_
     refine qx hP hn ?_
     refine o4 ?_
     refine o2 ?_
     refine s_nil trivial (n_wp ?_)
     refine w_if rfl (fun h_t57 => ?_) (fun h_t57 => ?_)
     · have hc : chunk q (W.take m) m = ⟨aft q.s (spl q.b (W.take m) q.m m 64), (spl q.b (W.take m) q.m m 64), 0⟩ := if_pos h_t57
       rw [hc] at hok2 hW2
       refine w_seq ?_
       refine g_any hP hn ?_
       refine o4 ?_
       refine o3 ?_
       refine o2 ?_
       refine s_op (k_call [0] (con := after_c _ _ (spl q.b (W.take m) q.m m 64) _ _ hsl (spl_len _ _ _ _ _))) ?_
       refine s_heap (H' := [some ⟨true, RUN q.s (spl q.b (W.take m) q.m m 64) ((q.m + m : Nat) : Int) ((tot + (L.take i).flatten.length + (L.getD i []).length : Nat) : Int)⟩]) rfl ?_
       refine s_op k_al ?_
       refine s_st k_st ?_
       refine s_nil (by kernel_rfl) ?_
       refine n_wp ?_
       refine w_weak (frz_ptr 7 8) ?_
       refine g_reg hP hn ?_
       refine o4 ?_
       refine s_st k_st ?_
       refine o3 ?_
       refine s_st k_st ?_
       refine s_nil trivial (n_blo ?_)
       exact n_round (W.length - m) (by omega) ⟨_, _, hok2, hW2, by simp; omega, by simp, rfl, rfl⟩ (wk hE [])
     · have hc : chunk q (W.take m) m = ⟨q.s, (spl q.b (W.take m) q.m m 64), q.m + m⟩ := if_neg h_t57
       rw [hc] at hok2 hW2
       refine w_skip (n_blo ?_)
       exact n_round (W.length - m) (by omega) ⟨_, _, hok2, hW2, by simp; omega, by simp, rfl, rfl⟩ (wk hE [])
   · have h0 : W = [] := List.length_eq_zero_iff.1 (by omega)
     subst h0
     have hdone : q = tk q0 (L.take (i + 1)).flatten := hW
     rw [Nat.add_assoc, ← htot]
     refine w_exit (x_thn (x_thn (x_eq (n_blo (n_wp (g_reg hP hn ?_))))))
     refine o2 ?_
     refine s_nil trivial ?_
     exact n_round (L.length - (i + 1)) (by omega) ⟨i + 1, q, by omega, rfl, hdone, rfl, rfl⟩ (wk hE [])
 · have hi : i = L.length := by omega
   subst hi
   have hfull : L.take L.length = L := List.take_length
   rw [hfull] at hq ⊢
   subst hq
   refine w_exit (x_thn (x_thn (x_eq ?_)))
   exact d_ret hP hn hE [] (ret_none Tryz.results99)

end Go.Proofs.X
end

section
set_option maxRecDepth 100000
set_option maxHeartbeats 4000000
open Go Go.Bx Go.Proofs
namespace Go.Proofs.X
attribute [local irreducible] tk rr ws ls dnI gI
theorem new_c  : Con Tryz.prog 98 [] [] (.s (.ptr 0 0 0)) [some (RQ run0 0)] := by
 refine con_in 5 Tryz.func98 rfl rfl (m := 0) rfl ?_
 intro E hP hn hE
 refine qz hP hn ?_
 refine s_op k_as ?_
 refine qx hP hn ?_
 refine s_op (k_bd (by exact a_buildK S0 (by kernel_rfl) (by kernel_rfl) rfl)) ?_
 refine s_op k_bxf ?_
 refine s_op k_bd ?_
 refine s_op k_bx ?_
 refine s_op k_as ?_
 refine s_nil trivial (n_wp (w_ret ?_))
 exact d_ret hP hn hE [1] (by first | exact r_tmp Tryz.results98 | exact r_tmpa Tryz.results98)

theorem takes1_c (a : List Int) (q : Run) (tot : Nat) (hq : RunOk q) (hl : tot + a.length < 4611686018427387904) : Con Tryz.prog 99 [.s (.ptr 0 0 0), .s (ROWS [a])] [some (RQ q tot)] (.tup []) [some (RQ (tk q a) (tot + a.length))] := by
 have h := takes_c [a] q tot hq (Nat.le_of_ble_eq_true rfl) (by simp; omega) (fun i => by match i with | 0 => (show a.length ≤ _; omega) | _ + 1 => simp)
 rw [show [a].flatten = a by simp] at h
 exact h
theorem takes3_c (a b c : List Int) (q : Run) (tot : Nat) (hq : RunOk q) (hl : tot + (a.length + (b.length + c.length)) < 4611686018427387904) : Con Tryz.prog 99 [.s (.ptr 0 0 0), .s (ROWS [a, b, c])] [some (RQ q tot)] (.tup []) [some (RQ (tk (tk (tk q a) b) c) (tot + (a.length + (b.length + c.length))))] := by
 have h := takes_c [a, b, c] q tot hq (Nat.le_of_ble_eq_true rfl) (by simp; omega) (fun i => by match i with | 0 => (show a.length ≤ _; omega) | 1 => (show b.length ≤ _; omega) | 2 => (show c.length ≤ _; omega) | _ + 3 => simp)
 rw [show [a, b, c].flatten = a ++ (b ++ c) by simp, tk_append, tk_append, List.length_append, List.length_append] at h
 exact h

theorem write_c (B : List Int) (q : Run) (tot : Nat) (hq : RunOk q) (hl : tot + B.length < 4611686018427387904) : Con Tryz.prog 106 [.s (.ptr 0 0 0), .s (.fzi .u8 B)] [some (RQ q tot)] (.s (.int .i64 0)) [some (RQ (tk q B) (tot + B.length))] := by
 refine con_in 18 Tryz.func106 rfl rfl (m := 1) rfl ?_
 intro E hP hn hE
 refine qz hP hn ?_
 refine s_op k_as ?_
 refine s_nil trivial (n_wp (w_seq (qz hP hn ?_)))
 refine o3 ?_
 refine s_on rfl rfl rfl k_mv ?_
 refine s_on rfl rfl rfl k_nc ?_
 refine s_on rfl rfl rfl k_fa ?_
 refine s_on rfl rfl rfl k_ld ?_
 refine s_on rfl rfl rfl k_eql ?_
 refine s_op k_pk ?_
 refine s_nil trivial (n_wp ?_)
 refine w_F rfl ?_ 
 refine w_skip (n_wp (qz hP hn ?_))
 refine o2 ?_
 refine s_op (k_bsz [.fzi .u8 B]) ?_
 refine s_op (k_call [0] (con := takes1_c B q tot hq hl)) ?_
 refine qx hP hn ?_
 refine s_op k_as ?_
 refine s_nil trivial (n_wp (w_ret ?_))
 exact d_ret hP hn hE [] (by first | exact r_tmp Tryz.results106 | exact r_tmpa Tryz.results106)

theorem put8_c (v : Int) : Con Tryz.prog 52 [.s (.fzi .u8 []), .s (.int .u64 v), .s (.int .i64 ((8 : Nat) : Int))] [] (.s (.fzi .u8 (rr 8 8 1 [v] 1))) [] := put_c [] v 8 (Nat.le_refl _) (Nat.le_of_ble_eq_true rfl)
theorem putob_c (s : List Int) (i : Nat) (hi : i < 8) : Con Tryz.prog 52 [.s (.fzi .u8 (ob s i)), .s (.int .u64 (IntKind.u64.wrap (s.getD i 0))), .s (.int .i64 ((4 : Nat) : Int))] [] (.s (.fzi .u8 (ob s (i + 1)))) [] := by
 have h := put_c (ob s i) (IntKind.u64.wrap (s.getD i 0)) 4 (by omega) (by rw [ob_len]; omega)
 rw [ob_len] at h
 exact h

theorem sum_c (q : Run) (tot : Nat) (hq : RunOk q) (hl : tot < 4611686018427387000) : Con Tryz.prog 101 [.s (.ptr 0 0 0)] [some (RQ q tot)] (.agg [.ints .u8 32 (sumL q tot)]) [some (RQ q tot)] := by
 refine con_in 56 Tryz.func101 rfl rfl (m := 1) rfl ?_
 intro E hP hn hE
 refine qz hP hn ?_
 refine s_op k_al ?_
 refine s_nil trivial (n_wp (w_seq (qz hP hn ?_)))
 refine o3 ?_
 refine s_on rfl rfl rfl k_mv ?_
 refine s_on rfl rfl rfl k_nc ?_
 refine s_on rfl rfl rfl k_fa ?_
 refine s_on rfl rfl rfl k_ld ?_
 refine s_on rfl rfl rfl k_eql ?_
 refine s_op k_pk ?_
 refine s_nil trivial (n_wp ?_)
 refine w_F rfl ?_ 
 refine w_skip (n_wp (qz hP hn ?_))
 refine o4 ?_
 refine s_st k_st ?_
 refine qx hP hn ?_
 have hqm := hq.m
 refine o4 ?_
 refine o3 ?_
 refine s_op k_mk ?_
 refine s_op k_as ?_
 refine s_nil trivial (n_wp (w_seq ?_))
 refine w_weak (frz_sl 4 (l' := (List.replicate ((119 - q.m) % 64) 0)) (hl := List.length_replicate) (hl' := by rw [List.drop_zero]; exact List.take_of_length_le (by simp))) ?_
 refine g_reg hP hn ?_
 refine s_op k_bsf ?_
 refine o3 ?_
 refine o2 ?_
 refine s_op (k_mul (by exact l_bin rfl rfl (b_mul rfl))) ?_
 refine s_op (k_call [] (con := put8_c _)) ?_
 refine s_op (k_bsz [.fzi .u8 [128], .fzi .u8 (List.replicate ((119 - q.m) % 64) 0), .fzi .u8 (rr 8 8 1 [IntKind.u64.wrap (8 * ((tot : Nat) : Int))] 1)]) ?_
 refine s_op (k_call [2] (con := takes3_c [128] (List.replicate ((119 - q.m) % 64) 0) (rr 8 8 1 [IntKind.u64.wrap (8 * ((tot : Nat) : Int))] 1) q tot hq (by simp [rr_len]; omega)) (H' := [some (RQ q tot), some ⟨true, [.ints .u8 32 (z 32)]⟩, some (RQ (sumQ q tot) (tot + ([128].length + ((List.replicate ((119 - q.m) % 64) 0).length + (rr 8 8 1 [IntKind.u64.wrap (8 * ((tot : Nat) : Int))] 1).length)))), none, none, none]) (hH := rfl)) ?_
 refine qx hP hn ?_
 refine s_op k_sl ?_
 refine s_op k_as ?_
 refine s_nil trivial (n_wp (w_seq (qz hP hn ?_)))
 refine o3 ?_
 refine s_nil trivial (n_wp (w_block ?_))
 refine c_loop (fun m T H => ∃ i, i ≤ 8 ∧ m = 8 - i ∧ T = [(2, .s (.ptr 1 0 0)), (5, .s (.fzi .u8 (ob (sumQ q tot).s i))), (41, .s (.fptr 8 (cellsF [.ints .u32 8 (sumQ q tot).s]) 0 0)), (42, .s (.int .i64 ((i : Nat) : Int)))] ∧ H = [some (RQ q tot), some ⟨true, [.ints .u8 32 (z 32)]⟩]) (8) ⟨0, by omega, rfl, rfl, rfl⟩ ((weak_conv 5 rfl conv_slz).trans (wk hE [])) ?_
 rintro n_ T_ H_ ⟨i, hi, rfl, rfl, rfl⟩
 refine qz hP hn ?_
 refine s_op k_lss ?_
 refine s_nil trivial (n_wp (w_seq ?_))
 refine w_if rfl (fun h_t43 => ?_) (fun h_t43 => ?_)
 · refine w_skip (n_wp (w_seq (w_block (qz hP hn ?_))))
   refine o4 ?_
   refine qy hP hn ?_
   refine o3 ?_
   refine s_op (k_call [] (con := putob_c (sumQ q tot).s i h_t43)) ?_
   refine s_op k_as ?_
   refine s_nil trivial (n_blo (n_wp (g_reg hP hn ?_)))
   refine o2 ?_
   refine s_nil trivial ?_
   exact n_round (8 - (i + 1)) (by omega) ⟨i + 1, by omega, rfl, rfl, rfl⟩ (wk hE [])
 · have hi : i = 8 := by omega
   subst hi
   refine w_exit (x_thn (x_thn (x_eq (n_wp (qz hP hn ?_)))))
   refine s_op k_sl ?_
   refine s_op k_mv ?_
   refine s_op (k_cpn 32 (hn := by rw [ob_len]; rfl) (hz := rfl)) ?_
   refine qx hP hn ?_
   refine s_op k_ld ?_
   refine s_st k_st ?_
   refine s_nil trivial (n_wp (w_ret ?_))
   exact d_ret hP hn hE [] (r_cell Tryz.results101)

end Go.Proofs.X
end

section
set_option maxRecDepth 100000
set_option maxHeartbeats 4000000
open Go Go.Bx Go.Proofs
namespace Go.Proofs.X
attribute [local irreducible] tk rr sumL ws ls dnI gI
theorem write_n (B : List Int) (n : Nat) (hn : B.length = n) (q : Run) (tot : Nat) (hq : RunOk q) (hl : tot + n < 4611686018427387904) : Con Tryz.prog 106 [.s (.ptr 0 0 0), .s (.fzi .u8 B)] [some (RQ q tot)] (.s (.int .i64 0)) [some (RQ (tk q B) (tot + n))] := by
 subst hn; exact write_c B q tot hq hl

theorem pad_c (K : List Int) (v : Int) (hK : K.length = 64) : Con Tryz.prog 105 [.s (.int .u8 v), .s (.ptr 0 0 0)] [some ⟨true, [.ints .u8 64 K]⟩] (.s (.fzi .u8 (xk K v 64))) [some ⟨true, [.ints .u8 64 K]⟩] := by
 refine con_in 18 Tryz.func105 rfl rfl (m := 1) rfl ?_
 intro E hP hn hE
 refine qz hP hn ?_
 refine s_op k_as ?_
 refine qx hP hn ?_
 refine o2 ?_
 refine s_st k_st ?_
 refine s_nil trivial (n_wp (w_seq (qz hP hn ?_)))
 refine s_op k_mv ?_
 refine s_nil trivial (n_wp (w_block ?_))
 refine c_loop (fun m T H => ∃ i, i ≤ 64 ∧ m = 64 - i ∧ T = [(0, .s (.int .u8 v)), (4, .s (.ptr 1 0 0)), (7, .s (.int .i64 ((i : Nat) : Int)))] ∧ H = [some ⟨true, [.ints .u8 64 K]⟩, some ⟨true, [.ints .u8 64 (xk K v i)]⟩]) (64) ⟨0, by omega, rfl, rfl, rfl⟩ (wk hE []) ?_
 rintro n_ T_ H_ ⟨i, hi, rfl, rfl, rfl⟩
 have hx := (xk_len K v i).trans hK
 refine qz hP hn ?_
 refine s_op k_lss ?_
 refine s_nil trivial (n_wp (w_seq ?_))
 refine w_if rfl (fun h_t8 => ?_) (fun h_t8 => ?_)
 · refine w_skip (n_wp (w_seq (w_block (qz hP hn ?_))))
   refine o2 ?_
   refine qy hP hn ?_
   refine o4 ?_
   refine o2 ?_
   refine s_st k_st ?_
   refine s_nil trivial (n_blo (n_wp (g_reg hP hn ?_)))
   refine o2 ?_
   refine s_nil trivial ?_
   exact n_round (64 - (i + 1)) (by omega) ⟨i + 1, by omega, rfl, rfl, rfl⟩ (wk hE [])
 · have hi : i = 64 := by omega
   subst hi
   refine w_exit (x_thn (x_thn (x_eq (n_wp (qz hP hn ?_)))))
   refine s_op k_sl ?_
   refine s_op k_as ?_
   refine s_nil trivial (n_wp (w_ret ?_))
   exact d_retw hP hn (r_tmp Tryz.results105) ((frz_sl 0 (l' := xk K v 64) (hl := hx) (hl' := by rw [List.drop_zero]; exact List.take_of_length_le (Nat.le_of_eq hx))).trans (wk hE []))

theorem mac_c (K : List Int) (L : List (List Int)) (hK0 : 0 < K.length) (hK : K.length ≤ 64) (hL : L.length ≤ 1000000) (hl : L.flatten.length < 4611686018427380000) : Con Tryz.prog 79 [.s (.fzi .u8 K), .s (ROWS L)] [] (.agg [.ints .u8 32 (hmO K (tk (hmI K) L.flatten) (64 + L.flatten.length))]) [] := by
 refine con_in 50 Tryz.func79 rfl rfl (m := 0) rfl ?_
 intro E hP hn hE
 refine qz hP hn ?_
 refine s_op k_al ?_
 refine qx hP hn ?_
 refine s_op k_al ?_
 refine s_nil trivial (n_wp (w_seq (qz hP hn ?_)))
 refine o3 ?_
 refine s_nil trivial (n_wp ?_)
 refine w_F rfl ?_ 
 refine w_skip (n_wp (qz hP hn ?_))
 refine s_op k_sl ?_
 refine s_op k_mv ?_
 refine s_op (k_cpn K.length) ?_
 refine qx hP hn ?_
 refine s_op (k_fn [.ptr 1 0 0]) ?_
 refine s_op k_as ?_
 refine qx hP hn ?_
 refine s_op (k_call [] (con := new_c) (v := .s (.ptr 2 0 0)) (hv := rfl) (H' := [some ⟨true, [.ints .u8 32 (z 32)]⟩, some ⟨true, [.ints .u8 64 (k64 K)]⟩, some (RQ run0 0)]) (hH := rfl)) ?_
 refine s_op (k_call [] (con := new_c) (v := .s (.ptr 3 0 0)) (hv := rfl) (H' := [some ⟨true, [.ints .u8 32 (z 32)]⟩, some ⟨true, [.ints .u8 64 (k64 K)]⟩, some (RQ run0 0), some (RQ run0 0)]) (hH := rfl)) ?_
 refine o2 ?_
 refine qx hP hn ?_
 refine o2 ?_
 refine s_op (k_callc [1] rfl (con := pad_c (k64 K) 54 (k64_len K)) (H' := [some ⟨true, [.ints .u8 32 (z 32)]⟩, some ⟨true, [.ints .u8 64 (k64 K)]⟩, some (RQ run0 0), some (RQ run0 0)]) (hH := rfl)) ?_
 refine s_op (k_call [2] (con := write_n (xk (k64 K) 54 64) 64 ((xk_len _ _ _).trans (k64_len K)) run0 0 run0_ok (by omega)) (H' := [some ⟨true, [.ints .u8 32 (z 32)]⟩, some ⟨true, [.ints .u8 64 (k64 K)]⟩, some (RQ (hmI K) 64), some (RQ run0 0)]) (hH := rfl)) ?_
 refine s_nil trivial (n_wp (w_seq (qz hP hn ?_)))
 refine o3 ?_
 refine s_nil trivial (n_wp (w_block ?_))
 refine c_loop (fun m T H => ∃ i q t, i ≤ L.length ∧ m = L.length - i ∧ q = tk (hmI K) (L.take i).flatten ∧ t = 64 + (L.take i).flatten.length ∧ T = [(4, .s (.ptr 0 0 0)), (7, .s (.clo 105 1 (capF [.ptr 1 0 0]))), (8, .s (.ptr 2 0 0)), (9, .s (.ptr 3 0 0)), (29, .s (ROWS L)), (30, .s (.int .i64 ((L.length : Nat) : Int))), (31, .s (.int .i64 ((i : Nat) : Int)))] ∧ H = [some ⟨true, [.ints .u8 32 (z 32)]⟩, some ⟨true, [.ints .u8 64 (k64 K)]⟩, some (RQ q t), some (RQ run0 0)]) (L.length) ⟨0, hmI K, 64, by omega, rfl, (tk_nil (hmI K)).symm, rfl, rfl, rfl⟩ (wk hE []) ?_
 rintro n_ T_ H_ ⟨i, q, t, hi, rfl, hq, ht, rfl, rfl⟩
 have hok : RunOk q := hq ▸ tk_ok (hmI_ok K) _
 refine qz hP hn ?_
 refine s_op k_lss ?_
 refine s_nil trivial (n_wp (w_seq ?_))
 refine w_if rfl (fun h_t32 => ?_) (fun h_t32 => ?_)
 · have hfl := flat_s L h_t32
   have htot : (L.take (i + 1)).flatten.length = (L.take i).flatten.length + (L.getD i []).length := by rw [hfl, List.length_append]
   have hle : (L.take (i + 1)).flatten.length ≤ L.flatten.length := by
     have := congrArg (fun x => (List.flatten x).length) (List.take_append_drop (i + 1) L)
     simp only [List.flatten_append, List.length_append] at this
     omega
   refine w_skip (n_wp (w_seq (w_block (qz hP hn ?_))))
   refine s_op k_ix ?_
   refine s_op (k_ld (by exact a_loadf (v := .fzi .u8 (L.getD i [])) rfl (by omega) (rows_at L h_t32))) ?_
   refine s_op k_as ?_
   refine qy hP hn ?_
   refine o2 ?_
   refine s_op (k_call [2] (con := write_c (L.getD i []) q t hok (by omega)) (H' := [some ⟨true, [.ints .u8 32 (z 32)]⟩, some ⟨true, [.ints .u8 64 (k64 K)]⟩, some (RQ (tk q (L.getD i [])) (t + (L.getD i []).length)), some (RQ run0 0)]) (hH := rfl)) ?_
   refine s_nil trivial (n_blo (n_wp (g_reg hP hn ?_)))
   refine o2 ?_
   refine s_nil trivial ?_
   exact n_round (L.length - (i + 1)) (by omega) ⟨i + 1, tk q (L.getD i []), t + (L.getD i []).length, by omega, rfl, by rw [hfl, tk_append, hq], by omega, rfl, rfl⟩ (wk hE [])
 · have hi : i = L.length := by omega
   subst hi
   rw [List.take_length] at hq ht
   subst hq; subst ht
   have hok := tk_ok (hmI_ok K) L.flatten
   refine w_exit (x_thn (x_thn (x_eq (n_wp (qz hP hn ?_)))))
   refine s_op k_mv ?_
   refine s_op (k_call [2] (con := sum_c _ _ hok (by omega)) (H' := [some ⟨true, [.ints .u8 32 (z 32)]⟩, some ⟨true, [.ints .u8 64 (k64 K)]⟩, some (RQ (tk (hmI K) L.flatten) (64 + L.flatten.length)), some (RQ run0 0)]) (hH := rfl)) ?_
   refine s_op k_al ?_
   refine s_st k_st ?_
   refine qx hP hn ?_
   refine o2 ?_
   refine s_op (k_callc [1] rfl (con := pad_c (k64 K) 92 (k64_len K)) (H' := [some ⟨true, [.ints .u8 32 (z 32)]⟩, some ⟨true, [.ints .u8 64 (k64 K)]⟩, some (RQ (tk (hmI K) L.flatten) (64 + L.flatten.length)), some (RQ run0 0), some ⟨true, [.ints .u8 32 (sumL (tk (hmI K) L.flatten) (64 + L.flatten.length))]⟩]) (hH := rfl)) ?_
   refine s_op (k_call [3] (con := write_n (xk (k64 K) 92 64) 64 ((xk_len _ _ _).trans (k64_len K)) run0 0 run0_ok (by omega)) (H' := [some ⟨true, [.ints .u8 32 (z 32)]⟩, some ⟨true, [.ints .u8 64 (k64 K)]⟩, some (RQ (tk (hmI K) L.flatten) (64 + L.flatten.length)), some (RQ (tk run0 (xk (k64 K) 92 64)) 64), some ⟨true, [.ints .u8 32 (sumL (tk (hmI K) L.flatten) (64 + L.flatten.length))]⟩]) (hH := rfl)) ?_
   refine s_nil trivial (n_wp (w_seq ?_))
   refine w_weak (frz_ptr 12 32) ?_
   refine g_reg hP hn ?_
   refine s_op k_mv ?_
   refine s_op (k_slf (hl := sumL_len _ _)) ?_
   refine s_op (k_call [3] (con := write_n (sumL (tk (hmI K) L.flatten) (64 + L.flatten.length)) 32 (sumL_len _ _) (tk run0 (xk (k64 K) 92 64)) 64 (tk_ok run0_ok _) (by omega)) (H' := [some ⟨true, [.ints .u8 32 (z 32)]⟩, some ⟨true, [.ints .u8 64 (k64 K)]⟩, some (RQ (tk (hmI K) L.flatten) (64 + L.flatten.length)), some (RQ (tk (tk run0 (xk (k64 K) 92 64)) (sumL (tk (hmI K) L.flatten) (64 + L.flatten.length))) 96), none]) (hH := rfl)) ?_
   refine qx hP hn ?_
   refine s_op k_mv ?_
   refine s_op (k_call [3] (con := sum_c _ 96 (tk_ok (tk_ok run0_ok _) _) (by omega)) (H' := [some ⟨true, [.ints .u8 32 (z 32)]⟩, some ⟨true, [.ints .u8 64 (k64 K)]⟩, some (RQ (tk (hmI K) L.flatten) (64 + L.flatten.length)), some (RQ (tk (tk run0 (xk (k64 K) 92 64)) (sumL (tk (hmI K) L.flatten) (64 + L.flatten.length))) 96), none]) (hH := rfl)) ?_
   refine s_st k_st ?_
   refine s_nil trivial (n_wp (w_ret ?_))
   exact d_ret hP hn hE [] (r_cell Tryz.results79)

end Go.Proofs.X
end

section
/- What grows by noughts; what has grown, cut. No program. -/
namespace Go.Bx
section
variable {P : Program} {T : Tm} {H : Heap} {d : Option Tmp} {ty : TypeId} {pos : String} {af : Array Edge} {g : Option (Nat × Bool)}
theorem l_apz {x y : Operand} {t tn e rt : TypeId} {id base idx len m n0 : Nat} {k kq kn : IntKind} {segs : List Seg} {l : List Int} {inf : TypeInfo} {H' : Heap} (hx : ev T x = .s (.slice id base idx len len)) (hy : ev T y = .s (.int kq (m : Int))) (hb : hget H id = some ⟨true, segs⟩) (hsub : SubS segs (base + idx) (len * 1) [.ints k len l]) (hl : l.length = len)
    (hu : P.underlying t = some (.slice e)) (htn : P.underlying tn = some (.int kn)) (hi : P.info? e = some inf) (hsz : inf.size = 1) (hz : inf.zero = some (.int k 0)) (h0 : 0 < m) (hbig : (len + m) * inf.bytes ≤ 140737488355328) (hb1 : 0 < inf.bytes) (hn : H.length = n0) (hH : H ++ [some (Blk.mk true [.ints k (len + m) (l ++ List.replicate m 0)])] = H') :
    LOk P ⟨d, .call ⟨.builtin .append, #[x, y], #[t, tn]⟩, rt, pos, af, g⟩ T H H' (.s (.gro n0 1 (len + m))) [id] [] := by
  subst hH
  have hlt := hget_lt hb
  refine lok_new [id] (fun j h => by simp at h; subst h; exact hlt) fun H0 hl0 hg0 => ?_
  subst hn
  intro W ρ a w hH hf hW ho next Q hq
  have k1 : (ev T x).rep ρ (a.eval x) := ho x (by simp [Op.operands, Call.operands])
  have k2 : (ev T y).rep ρ (a.eval y) := ho y (by simp [Op.operands, Call.operands])
  rw [hx] at k1
  rw [hy] at k2
  have hev2 : a.eval y = .int kq (m : Int) := k2
  have hsrc := asrc_sl (P := P) (cap := len) hu (id := id) (H := H) (base := base) (idx := idx) (n := len) (size := 1) hb hsub
  obtain ⟨_, hsrc⟩ := hsrc
  obtain ⟨news, hS, hnr, _⟩ := hsrc _ W ρ w _ (fun j hj => hg0 j hj) hH k1
  obtain ⟨b, o, hρ, hev⟩ := k1
  have hnl : news.length = len := by have := hS.newsLen; omega
  have hold := hS.cellsD
  rw [hev] at hold
  have h63 : ((len + m : Nat) : Int) ≤ 9223372036854775807 := by
    have : len + m ≤ (len + m) * inf.bytes := Nat.le_mul_of_pos_right _ hb1
    omega
  have h48 : m * inf.bytes ≤ 281474976710656 := by
    have : m * inf.bytes ≤ (len + m) * inf.bytes := Nat.mul_le_mul_right _ (by omega)
    omega
  have hr := Go.Lib.run_append_grow_zeros (P := P) w t tn rt e inf (.int k 0) kq kn hu htn hi hz (some ⟨b, o + base + idx, none⟩) len len news (by rw [hsz]; exact hold) m h0 (by omega) (by omega) h63 h48 (growslice_fits (by omega) hbig)
  generalize hcap : grownCap w (len + m) len e = cap at hr
  have hcap' : len + m ≤ cap := hcap ▸ grownCap_ge w _ _ _
  have hrun : (execOp a.eval ⟨d, .call ⟨.builtin .append, #[x, y], #[t, tn]⟩, rt, pos, af, g⟩).run P w = .ok (.value (.slice (some ⟨w.heap.size, 0, none⟩) (len + m) cap)) (w.drew.alloc (.cells (news.toArray ++ Builtin.zeroCells (Value.int k 0).cells m ++ Builtin.zeroCells (Value.int k 0).cells (cap - (len + m))) e)) := by
    simp only [execOp, resolve, invoke, builtin, List.map_toArray, List.map_cons, List.map_nil, hev, hev2]
    simp [Sem.run_bind, hr]
  rw [hrun]
  generalize hcells : news.toArray ++ Builtin.zeroCells (Value.int k 0).cells m ++ Builtin.zeroCells (Value.int k 0).cells (cap - (len + m)) = cells
  have hHd : HRep W ρ (hget H0) w.drew := hH.ext (.drew w)
  have hsize : cells.size = cap := by
    rw [← hcells]; simp [Builtin.zeroCells, hnl, Value.cells]; omega
  obtain ⟨ρ', k3, k4, k5⟩ := nx_alloc (t := e) (w := w.drew) (H0 := H0) (cells := cells) (segs := [.ints k (len + m) (l ++ List.replicate m 0)]) hHd (hf _ (Nat.le_refl _) (by simp)) (fun b hb => hW b hb) (fun ρ' hle i z hz => by
    obtain ⟨hi2, rfl⟩ := atS_ints1 hz
    rcases Nat.lt_or_ge i len with h | h
    · obtain ⟨v, hv, hc⟩ := hnr i (.int k (l.getD i 0)) (by simp [atS, Seg.size, Seg.at, h])
      have hv' : v = .int k (l.getD i 0) := hc.1
      subst hv'
      refine ⟨.int k (l.getD i 0), ?_, ?_, rfl⟩
      · show cells[i]? = some (Value.int k (l.getD i 0))
        rw [← hcells, Array.append_assoc, Array.getElem?_append_left (by simpa [hnl] using h)]
        simpa using hv
      · show _ = _
        rw [List.getD_eq_getElem?_getD, List.getD_eq_getElem?_getD, List.getElem?_append_left (by omega)]
    · refine ⟨.int k 0, ?_, ?_, rfl⟩
      · show cells[i]? = some (Value.int k 0)
        rw [← hcells, Array.getElem?_append_left (by simp [Builtin.zeroCells, hnl, Value.cells]; omega), Array.getElem?_append_right (by simpa [hnl] using h)]
        have hi3 : i - len < m := by omega
        simp [Builtin.zeroCells, hnl, Value.cells, hi3, Nat.mod_one]
      · show _ = _
        rw [List.getD_eq_getElem?_getD, List.getElem?_append_right (by omega), List.getElem?_replicate]
        split <;> rfl)
  refine hq _ _ ⟨ρ', W, ?_, .inr ⟨w.heap.size, 0, cap, cells.size, ?_, rfl, hcap', k5, by rw [hsize]; omega⟩⟩
  · exact ⟨k3.le, k3.old, k3.rep, ((Ext.drew w).fr W).trans k3.fr, k3.sub, k3.fresh, k3.fzn⟩
  · rw [← hl0]; exact k4
theorem l_slg {t e : TypeId} {x : Operand} {hi mx : Option Operand} {id wd len h sz : Nat} (hx : ev T x = .s (.gro id wd len)) (hhi : Bnd T hi len h) (hmx : mx = none ∨ ∃ m, (∃ y, mx = some y ∧ ∃ k q, ev T y = .s (.int k q) ∧ q = ((m : Nat) : Int)) ∧ h ≤ m ∧ m ≤ len) (hho : (mx.isSome && hi.isNone) = false)
    (hu : P.underlying t = some (.slice e)) (hs : ∀ w, (sizeOf e).run P w = .ok sz w) (h2 : h ≤ len) :
    LOk P ⟨d, .slice t x none hi mx, ty, pos, af, g⟩ T H H (.s (.gro id wd h)) [] [] :=
  lok_pure fun ρ a w ho => by
    obtain ⟨k1, k2⟩ := slice_ops ho
    rw [hx] at k1
    obtain ⟨ad, cap, hev, hcap, hz⟩ : ∃ ad cap, a.eval x = .slice ad len cap ∧ len ≤ cap ∧ ((len = 0 ∧ ad = none ∧ cap = 0) ∨ ∃ b o n, ρ.m id = some (b, o) ∧ ad = some ⟨b, o, none⟩ ∧ ρ.sz b = some n ∧ o + cap * wd ≤ n) := by
      rcases k1 with ⟨e1, e2⟩ | ⟨b, o, c, n, e1, e2, e3, e4, e5⟩
      · exact ⟨none, 0, by rw [e2, e1], by omega, .inl ⟨e1, rfl, rfl⟩⟩
      · exact ⟨_, c, e2, e3, .inr ⟨b, o, n, e1, rfl, e4, e5⟩⟩
    obtain ⟨m, hm1, hm2, hm3⟩ : ∃ m, Bnd T mx cap m ∧ h ≤ m ∧ m ≤ cap := by
      rcases hmx with rfl | ⟨m, ⟨y, rfl, k', q, e1, e2⟩, e3, e4⟩
      · exact ⟨cap, rfl, by omega, Nat.le_refl _⟩
      · exact ⟨m, ⟨k', q, e1, e2⟩, e3, by omega⟩
    have hb := run_bounds (P := P) (b := true) (w := w) (lo := none) (l := 0) rfl hhi hm1 (fun e => by cases hi <;> simp_all) k2 (Nat.zero_le _) hm2 hm3
    have hr2 := run_slice (ad := ad) hu hs hb
    refine ⟨_, by rw [exec_slice, hev, sliceAt_sl hu, hr2]; rfl, ?_⟩
    rcases hz with ⟨rfl, rfl, rfl⟩ | ⟨b, o, n, e1, rfl, e4, e5⟩
    · refine .inl ⟨by omega, ?_⟩
      have h3 : h = 0 := by omega
      have h4 : m = 0 := by omega
      subst h3; subst h4
      simp
    · refine .inr ⟨b, o, m, n, e1, ?_, hm2, e4, ?_⟩
      · split <;> simp [addr_add]
      · have := Nat.mul_le_mul_right wd hm3
        omega
theorem k_apz (m : Nat) {x y : Operand} {t tn e rt : TypeId} {id len c n0 : Nat} {k kq kn : IntKind} {l l' : List Int} {inf : TypeInfo} {H' : Heap} [hu : Und P t (.slice e)] [htn : Und P tn (.int kn)] [hi : Inf P e inf] [hN : LenN H n0] (hx : ev T x = .s (.slice id 0 0 len len) := by rfl) (hy : ev T y = .s (.int kq (m : Int)) := by rfl) (hb : hget H id = some ⟨true, [.ints k len l]⟩ := by rfl) (hl : l.length = len := by first | assumption | omega | simp [*]) (hsz : inf.size = 1 := by exact rfl) (hz : inf.zero = some (.int k 0) := by exact rfl) (h0 : 0 < m := by omega) (hc : len + m = c := by rfl) (hl' : l ++ List.replicate m 0 = l' := by rfl) (hbig : len + m ≤ 1000000 := by omega) (hbb : Nat.ble (1000000 * inf.bytes) 140737488355328 = true := by exact rfl) (hb1 : 0 < inf.bytes := by exact Nat.le_of_ble_eq_true rfl) (hH : H ++ [some (Blk.mk true [.ints k c l'])] = H' := by repeat (first | exact happ_0 | apply happ_s)) :
    LOk P ⟨d, .call ⟨.builtin .append, #[x, y], #[t, tn]⟩, rt, pos, af, g⟩ T H H' (.s (.gro n0 1 c)) [id] [] := by
  subst hc; subst hl'
  exact l_apz hx hy hb (by rw [Nat.mul_one]; exact .whole (by simp [sizeS, Seg.size])) hl hu.h htn.h hi.h hsz hz h0 (big_ok hbig hbb) hb1 hN.h hH
theorem k_slg (h : Nat) {t e : TypeId} {x y : Operand} {id wd len sz : Nat} {k : IntKind} {z : Int} [hu : Und P t (.slice e)] [hs : Sz P e sz] (hx : ev T x = .s (.gro id wd len) := by rfl) (hy : ev T y = .s (.int k z) := by rfl) (hz : z = (h : Int) := by rfl) (h2 : h ≤ len := by omega) :
    LOk P ⟨d, .slice t x none (some y) none, ty, pos, af, g⟩ T H H (.s (.gro id wd h)) [] [] := l_slg hx ⟨k, z, hy, hz⟩ (.inl rfl) rfl hu.h hs.h h2
theorem k_slc {t e : TypeId} {x y y2 : Operand} {id wd len sz : Nat} {k k2 : IntKind} {z z2 : Int} [hu : Und P t (.slice e)] [hs : Sz P e sz] (hx : ev T x = .s (.gro id wd len) := by rfl) (hy : ev T y = .s (.int k z) := by rfl) (hz : z = (len : Int) := by rfl) (hy2 : ev T y2 = .s (.int k2 z2) := by rfl) (hz2 : z2 = (len : Int) := by rfl) :
    LOk P ⟨d, .slice t x none (some y) (some y2), ty, pos, af, g⟩ T H H (.s (.gro id wd len)) [] [] := l_slg hx ⟨k, z, hy, hz⟩ (.inr ⟨len, ⟨y2, rfl, k2, z2, hy2, hz2⟩, Nat.le_refl _, Nat.le_refl _⟩) rfl hu.h hs.h (Nat.le_refl _)
theorem Joins.intsT {k : IntKind} {n m q : Nat} {l l2 : List Int} (h : l.length = q) (hn : n ≤ q) : Joins [.ints k q l] n [.ints k m l2] m [.ints k (n + m) (l.take n ++ l2)] := by
  obtain ⟨h1, h2⟩ := Joins.ints (k := k) (m := m) (q := n) (l2 := l2) (show (l.take n).length = n by rw [List.length_take]; omega) (Nat.le_refl n)
  refine ⟨h1, fun i y hy => ⟨fun hi => ?_, (h2 i y hy).2⟩⟩
  obtain ⟨z, hz, he⟩ := (h2 i y hy).1 hi
  obtain ⟨hi1, rfl⟩ := atS_ints1 hz
  refine ⟨_, ?_, he⟩
  have hs : (Seg.ints k q l).size = q := rfl
  simp only [atS]
  rw [if_pos (by rw [hs]; omega)]
  show some (SV.int k (l.getD i 0)) = some (SV.int k ((l.take n).getD i 0))
  rw [List.getD_eq_getElem?_getD, List.getD_eq_getElem?_getD, List.getElem?_take_of_lt hi]
theorem k_apg {x y : Operand} {t tx e rt : TypeId} {id n c n0 q : Nat} {k : IntKind} {l l2 l' : List Int} {inf : TypeInfo} {z : Value} {H' : Heap} [hu : Und P t (.slice e)] [hux : Und P tx (.slice e)] [hi : Inf P e inf] [hN : LenN H n0] (hx : ev T x = .s (.gro id 1 n) := by rfl) (hy : ev T y = .s (.fzi k l2) := by rfl) (hb : hget H id = some ⟨true, [.ints k q l]⟩ := by rfl) (hl : l.length = q := by first | assumption | omega | simp [*]) (hsz : inf.size = 1 := by exact rfl) (hz : inf.zero = some z := by exact rfl) (hzs : z.cells.size = 1 := by exact rfl) (hq : n ≤ q := by omega) (hc : n + l2.length = c := by rfl) (hl' : l.take n ++ l2 = l' := by rfl) (hbig : n + l2.length ≤ 1000000 := by omega) (hbb : Nat.ble (1000000 * inf.bytes) 140737488355328 = true := by exact rfl) (hb1 : 0 < inf.bytes := by exact Nat.le_of_ble_eq_true rfl) (hH : H.set id none ++ [some (Blk.mk true [.ints k c l'])] = H' := by exact rfl) :
    LOk P ⟨d, .call ⟨.builtin .append, #[x, y], #[t, tx]⟩, rt, pos, af, g⟩ T H H' (.s (.gro n0 1 c)) [id] [id] := by
  subst hc; subst hl'
  refine a_app (sub := [.ints k l2.length l2]) hx hy hb hsz hz hzs (asrc_fzi hux.h) (by simp [sizeS, Seg.size]; omega) ?_ (big_ok hbig hbb) hb1 (fun _ h => by cases h) hN.h hH
  rw [Nat.mul_one, Nat.mul_one]
  exact .intsT hl hq
end
end Go.Bx
end

section
/- Rows made, copied into rows, put behind rows where there is room. No program. -/
namespace Go.Bx
theorem atS_rows1 {c : Nat} {g : Nat → Nat → SV} {j : Nat} {y : SV} (h : atS [.rows c 1 g] j = some y) : j < c ∧ y = .noid (g j 0) := by
  have hs : (Seg.rows c 1 g).size = c * 1 := rfl
  simp only [atS] at h
  rw [hs, Nat.mul_one] at h
  by_cases hj : j < c
  · rw [if_pos hj] at h
    have h := Option.some.inj h
    simp only [Seg.at, Nat.div_one, Nat.mod_one] at h
    exact ⟨hj, h.symm⟩
  · rw [if_neg hj] at h; cases h
theorem rows1_at {c : Nat} (g : Nat → Nat → SV) {j : Nat} (h : j < c) : atS [.rows c 1 g] j = some (.noid (g j 0)) := by
  have hs : (Seg.rows c 1 g).size = c * 1 := rfl
  simp only [atS]
  rw [hs, Nat.mul_one, if_pos h]
  simp only [Seg.at, Nat.div_one, Nat.mod_one]
theorem PutS.rows {m p c : Nat} {g g2 g' : Nat → Nat → SV} (h0 : 0 < m) (hc : p + m ≤ c) (hg : ∀ i, i < m → g' (p + i) 0 = g2 i 0) (hg2 : ∀ i, ¬(p ≤ i ∧ i < p + m) → i < c → g' i 0 = g i 0) : PutS [.rows c 1 g] p m [.rows m 1 g2] [.rows c 1 g'] := by
  refine ⟨⟨h0, by simpa [sizeS, Seg.size] using hc⟩, fun j y hy => ?_⟩
  obtain ⟨hj, rfl⟩ := atS_rows1 hy
  split
  · rename_i h
    rw [rows1_at g2 (show j - p < m by omega), ← hg (j - p) (by omega), show p + (j - p) = j by omega]
  · rename_i h
    rw [rows1_at g hj, hg2 j h hj]
section
variable {P : Program} {T : Tm} {H : Heap} {d : Option Tmp} {ty : TypeId} {pos : String} {af : Array Edge} {g : Option (Nat × Bool)}
theorem l_make_rows {t e : TypeId} {x y : Operand} {l c n : Nat} {k1 k2 : IntKind} {m1 m2 : Int} {inf : TypeInfo} {q : Nat → Nat → SV} (hx : ev T x = .s (.int k1 m1)) (hy : ev T y = .s (.int k2 m2)) (hm1 : m1 = (l : Int)) (hm2 : m2 = (c : Int)) (hlc : l ≤ c) (hc : inf.bytes * c ≤ 281474976710656) (hc2 : c ≤ 281474976710656)
    (hu : P.underlying t = some (.slice e)) (hi : P.info? e = some inf) (hs : inf.size = 1) (hz : inf.zero = some (.slice none 0 0)) (hn : H.length = n) (hq : ∀ i, i < c → q i 0 = .nils) :
    LOk P ⟨d, .makeSlice t x y, ty, pos, af, g⟩ T H (H ++ [some (Blk.mk true [.rows c 1 q])]) (.s (.slice n 0 0 l c)) [] [] :=
  lok_new [] (fun _ h => by cases h) fun H0 hl0 _ => by
    subst hn; subst hm1; subst hm2
    intro W ρ a w hH hf hW ho next Q hQ
    obtain ⟨h1, h2⟩ := two (op := .makeSlice t x y) rfl ho hx hy
    simp only [AV.rep, AV.rep0, SV.rep] at h1 h2
    have hm := run_make (P := P) w t e inf (.slice none 0 0) hu hi hz k1 k2 (l : Int) (c : Int) (by omega) (by omega) (by
      have h : ((inf.bytes * c : Nat) : Int) ≤ 281474976710656 := by omega
      rwa [Int.natCast_mul] at h) (by omega)
    simp only [Int.toNat_natCast, hs, Nat.mul_one] at hm
    have hrun : (execOp a.eval ⟨d, .makeSlice t x y, ty, pos, af, g⟩).run P w = .ok (.value (.slice (some ⟨w.heap.size, 0, none⟩) l c)) (w.alloc (.cells (madeCells (Value.slice none 0 0).cells c) e)) := by
      simp [execOp, h1, h2, Sem.run_bind, hm]
    rw [hrun]
    obtain ⟨ρ', k3, k4, _⟩ := nx_alloc (t := e) hH (hf _ (Nat.le_refl _) (by simp)) hW (cells := madeCells (Value.slice none 0 0).cells c) (segs := [.rows c 1 q]) (fun ρ' _ i z hz => by
      obtain ⟨hi, rfl⟩ := atS_rows1 hz
      refine ⟨.slice none 0 0, by simp [madeCells, Value.cells, hi, Nat.mod_one], ?_, rfl⟩
      rw [hq i hi]
      exact ⟨rfl, rfl⟩)
    exact hQ _ _ ⟨ρ', W, k3, w.heap.size, 0, by rw [← hl0]; exact k4, rfl⟩
theorem k_mkr (q : Nat → Nat → SV) {t e : TypeId} {x y : Operand} {l c n : Nat} {k1 k2 : IntKind} {m1 m2 : Int} {inf : TypeInfo} {H' : Heap} [hu : Und P t (.slice e)] [hi : Inf P e inf] [hN : LenN H n] [hm1 : IsN m1 l] [hm2 : IsN m2 c] (hx : ev T x = .s (.int k1 m1) := by rfl) (hy : ev T y = .s (.int k2 m2) := by rfl) (hlc : l ≤ c := by omega) (hc2 : c ≤ 1000000 := by omega) (hbb : Nat.ble (inf.bytes * 1000000) 281474976710656 = true := by exact rfl)
    (hs : inf.size = 1 := by exact rfl) (hz : inf.zero = some (.slice none 0 0) := by exact rfl) (hq : ∀ i, i < c → q i 0 = .nils := by exact fun _ _ => rfl) (hH : H ++ [some (Blk.mk true [.rows c 1 q])] = H' := by repeat (first | exact happ_0 | apply happ_s)) :
    LOk P ⟨d, .makeSlice t x y, ty, pos, af, g⟩ T H H' (.s (.slice n 0 0 l c)) [] [] := by
  subst hH
  exact l_make_rows hx hy hm1.h hm2.h hlc (Nat.le_trans (Nat.mul_le_mul_left _ hc2) (Nat.le_of_ble_eq_true hbb)) (by omega) hu.h hi.h hs hz hN.h hq
theorem k_cpr (q' : Nat → Nat → SV) {x y : Operand} {t tx e rt : TypeId} {id dc n c : Nat} {q g2 : Nat → Nat → SV} {H' : Heap} [hu : Und P t (.slice e)] [hux : Und P tx (.slice e)] [hs : Sz P e 1] (hx : ev T x = .s (.slice id 0 0 n dc) := by rfl) (hy : ev T y = .s (.fz n 1 g2) := by rfl) (hb : hget H id = some ⟨true, [.rows c 1 q]⟩ := by rfl) (h0 : 0 < n) (hc : n ≤ c := by omega) (hg : ∀ i, i < n → q' i 0 = g2 i 0 := by exact fun _ _ => rfl) (hg2 : ∀ i, n ≤ i → i < c → q' i 0 = q i 0) (hH : H.set id (some ⟨true, [.rows c 1 q']⟩) = H' := by repeat (first | exact hset_0 | apply hset_s)) :
    LOk P ⟨d, .call ⟨.builtin .copy, #[x, y], #[t, tx]⟩, rt, pos, af, g⟩ T H H' (.s (.int .i64 (n : Int))) [id] [id] := by
  refine l_copy (sub' := [.rows n 1 g2]) hx hy hb (asrc_fz (Nat.zero_lt_one) hux.h) (Nat.min_self n) hu.h hs.h (.whole (by simp [sizeS, Seg.size])) ?_ (fun _ h => by cases h) hH
  rw [Nat.mul_one]
  exact .rows h0 (by omega) (fun i hi => by rw [Nat.zero_add]; exact hg i hi) (fun i h hi => hg2 i (by omega) hi)
theorem k_apin (q' : Nat → Nat → SV) {x y : Operand} {t tx e rt : TypeId} {id n m dc c r : Nat} {q g2 : Nat → Nat → SV} {inf : TypeInfo} {H' : Heap} [hu : Und P t (.slice e)] [hux : Und P tx (.slice e)] [hi : Inf P e inf] (hx : ev T x = .s (.slice id 0 0 n dc) := by rfl) (hy : ev T y = .s (.fz m 1 g2) := by rfl) (hb : hget H id = some ⟨true, [.rows c 1 q]⟩ := by rfl) (hsz : inf.size = 1 := by exact rfl) (h0 : 0 < m := by exact Nat.le_of_ble_eq_true rfl) (hdc : n + m ≤ dc := by omega) (hc : n + m ≤ c := by omega) (hr : n + m = r := by rfl) (hg : ∀ i, i < m → q' (n + i) 0 = g2 i 0) (hg2 : ∀ i, ¬(n ≤ i ∧ i < n + m) → i < c → q' i 0 = q i 0) (hH : H.set id (some ⟨true, [.rows c 1 q']⟩) = H' := by repeat (first | exact hset_0 | apply hset_s)) :
    LOk P ⟨d, .call ⟨.builtin .append, #[x, y], #[t, tx]⟩, rt, pos, af, g⟩ T H H' (.s (.slice id 0 0 r dc)) [id] [id] := by
  subst hH; subst hr
  have hlt := hget_lt hb
  refine lok_set [id] (fun j hj => by simp at hj; subst hj; exact hlt) (by simp) fun H0 hl hag => ?_
  intro W ρ a w hH hnn hW ho next Q hq
  have k1 : (ev T x).rep ρ (a.eval x) := ho x (by simp [Op.operands, Call.operands])
  have k2 : (ev T y).rep ρ (a.eval y) := ho y (by simp [Op.operands, Call.operands])
  rw [hx] at k1
  rw [hy] at k2
  obtain ⟨b, o, hρ, k1⟩ := k1
  obtain ⟨news, hS, hnr, _⟩ := (asrc_fz (P := P) (H := H) (n := m) (g := g2) Nat.zero_lt_one hux.h).2 _ W ρ w _ (fun _ h => by cases h) hH k2
  have hb0 : hget H0 id = some ⟨true, [.rows c 1 q]⟩ := (hag id (by simp)).trans hb
  obtain ⟨⟨cells, tt, fr, g1, g2', _, g4⟩, hWb⟩ := hH.rep id b o _ hρ hb0
  have hfr := g2' rfl
  subst hfr
  have hp : PutS [.rows c 1 q] n m [.rows m 1 g2] [.rows c 1 q'] := .rows h0 hc hg hg2
  have hfit := fits g4 hp
  have hnl : news.length = m := by have := hS.newsLen; omega
  have hst := run_storeCells_at P b (o + n) tt news 0 cells w g1 (by rw [hnl]; omega) hS.one
  rw [Nat.add_zero] at hst
  have hrun : (execOp a.eval ⟨d, .call ⟨.builtin .append, #[x, y], #[t, tx]⟩, rt, pos, af, g⟩).run P w = .ok (.value (.slice (some ⟨b, o, none⟩) (n + m) dc)) (w.setRow b (cells.toList.take (o + n) ++ news ++ cells.toList.drop (o + n + news.length)).toArray) := by
    simp only [execOp, resolve, invoke, builtin, List.map_toArray, List.map_cons, List.map_nil, k1]
    have hc2 := hS.cells
    rcases hS.kind with ⟨e', hk⟩ | hk <;> (simp [Builtin.append_, Sem.run_bind, run_underlying hu.h, run_underlying hk, sizeOf, typeInfo, hi.h, hsz, hS.len, hc2, hdc, addr_add]; rw [hst]; simp)
  rw [hrun]
  refine hq _ _ ⟨ρ, W, nx_write hH hW hρ hb0 g1 g4 hp hnl (fun i z hz => ?_) hfit, b, o, hρ, rfl⟩
  exact hnr i z hz
end
end Go.Bx
end

section
/- Numbers as bytes, the highest first: what is put, what is read. No program. -/
open Go Go.Bx
namespace Go.Proofs.X
theorem eqI {l k : List Int} (hl : l.length = k.length) (h : ∀ i, i < l.length → l.getD i 0 = k.getD i 0) : l = k := by
  apply List.ext_getElem hl
  intro i h1 h2
  have := h i h1
  simpa [List.getD_eq_getElem?_getD, h1, h2] using this
theorem getD_app (A B : List Int) (i : Nat) : (A ++ B).getD i 0 = if i < A.length then A.getD i 0 else B.getD (i - A.length) 0 := by
  by_cases h : i < A.length
  · simp [List.getD_eq_getElem?_getD, List.getElem?_append_left h, h]
  · simp [List.getD_eq_getElem?_getD, List.getElem?_append_right (Nat.le_of_not_lt h), h]
theorem getD_rep (n i : Nat) : (List.replicate n (0 : Int)).getD i 0 = 0 := by
  by_cases h : i < n
  · simp [List.getD_eq_getElem?_getD, h]
  · simp [List.getD_eq_getElem?_getD, h]
theorem getD_take' (l : List Int) (n i : Nat) (h : i < n) : (l.take n).getD i 0 = l.getD i 0 := by
  simp [List.getD_eq_getElem?_getD, List.getElem?_take, h]
theorem getD_drop' (l : List Int) (n i : Nat) : (l.drop n).getD i 0 = l.getD (n + i) 0 := by
  simp [List.getD_eq_getElem?_getD, List.getElem?_drop]
theorem setDI (l : List Int) (i : Nat) (v : Int) (j : Nat) (hi : i < l.length) : (l.set i v).getD j 0 = if i = j then v else l.getD j 0 := by
  by_cases h : i = j
  · subst h; simp [List.getD_eq_getElem?_getD, hi]
  · simp [List.getD_eq_getElem?_getD, List.getElem?_set_ne h, h]
theorem eqI_n {l k : List Int} (n : Nat) (hl : l.length = n) (hk : k.length = n) (h : ∀ i, i < n → l.getD i 0 = k.getD i 0) : l = k := eqI (hl.trans hk.symm) fun i hi => h i (hl ▸ hi)
theorem spl_app (A Y Z : List Int) (a n m : Nat) (ha : A.length = a) (hn : Y.length = n) (hm : a + n ≤ m) (hz : A.length + Z.length = m) : spl (A ++ Z) Y a n m = A ++ Y ++ Z.drop n := by
  refine eqI_n m (Bx.spl_len _ _ _ _ _) (by simp; omega) fun i hi => ?_
  rw [spl_getD _ _ _ _ _ _ hi, getD_app, getD_app, getD_app, getD_drop', List.length_append]
  by_cases h1 : i < a
  · rw [if_neg (by omega), if_pos (by omega), if_pos (by omega), if_pos (by omega)]
  · by_cases h2 : i < a + n
    · rw [if_pos (by omega), if_pos (by omega), if_neg (by omega), ha]
    · rw [if_neg (by omega), if_neg (by omega), if_neg (by omega), ha, hn]
      congr 1; omega
def beN (n v : Nat) : List Nat := (List.range n).map fun i => v / 256 ^ (n - 1 - i) % 256
def be (n v : Nat) : List Int := zs (beN n v)
theorem be_len (n v : Nat) : (be n v).length = n := by simp [be, beN, zs]
theorem be_get (n v i : Nat) (h : i < n) : (be n v).getD i 0 = ((v / 256 ^ (n - 1 - i) % 256 : Nat) : Int) := by
  unfold be beN
  rw [zs_getD, map_getD _ _ _ h]
theorem wrap8 (v : Nat) : IntKind.u8.wrap (v : Int) = ((v % 256 : Nat) : Int) := by
  unfold IntKind.wrap; simp [IntKind.bits, IntKind.signed]
theorem wrap64' {v : Nat} (h : v < 18446744073709551616) : IntKind.u64.wrap (v : Int) = (v : Int) := by
  unfold IntKind.wrap; simp [IntKind.bits, IntKind.signed]; omega
theorem rb_n (out : List Int) (at_ v : Nat) (hv : v < 18446744073709551616) (ha : at_ ≤ out.length) (j : Nat) (hj : j ≤ at_) : (rb out at_ (v : Int) j).2 = ((v / 256 ^ j : Nat) : Int) ∧ ∀ i, (rb out at_ (v : Int) j).1.getD i 0 = if at_ - j ≤ i ∧ i < at_ then ((v / 256 ^ (at_ - 1 - i) % 256 : Nat) : Int) else out.getD i 0 := by
  induction j with
  | zero => exact ⟨by simp [rb], fun i => by rw [if_neg (by omega)]; rfl⟩
  | succ j ih =>
    obtain ⟨h1, h2⟩ := ih (by omega)
    constructor
    · rw [rb, h1]
      show IntKind.u64.wrap ((((v / 256 ^ j : Nat) : Int)).tdiv ((256 : Nat) : Int)) = _
      rw [show (((v / 256 ^ j : Nat) : Int)).tdiv ((256 : Nat) : Int) = ((v / 256 ^ j / 256 : Nat) : Int) from rfl, Nat.div_div_eq_div_mul, ← Nat.pow_succ, wrap64' (Nat.lt_of_le_of_lt (Nat.div_le_self _ _) hv)]
    · intro i
      rw [rb, h1, wrap8]
      show ((rb out at_ (v : Int) j).1.set (at_ - (j + 1)) _).getD i 0 = _
      rw [setDI _ _ _ _ (by rw [rb_len]; omega), h2]
      by_cases h : at_ - (j + 1) = i
      · rw [if_pos h, if_pos (by omega), show at_ - 1 - i = j by omega]
      · rw [if_neg h]
        by_cases h3 : at_ - j ≤ i ∧ i < at_
        · rw [if_pos h3, if_pos (by omega)]
        · rw [if_neg h3, if_neg (by omega)]
theorem rr_n (tot each N : Nat) (ws : List Nat) (h64 : B64 ws) (he : 0 < each) (k : Nat) (hk : each * k ≤ tot) (i : Nat) (hi : i < tot) : (rr tot each N (zs ws) k).getD i 0 = if tot - 1 - i < each * k then ((ws.getD (N - 1 - (tot - 1 - i) / each) 0 / 256 ^ ((tot - 1 - i) % each) % 256 : Nat) : Int) else 0 := by
  induction k with
  | zero => rw [if_neg (by omega), rr, getD_rep]
  | succ k ih =>
    rw [Nat.mul_succ] at hk
    rw [rr, zs_getD, (rb_n _ _ _ (h64 _) (by rw [rr_len]; omega) each (by omega)).2, ih (by omega), Nat.mul_succ]
    by_cases h1 : tot - 1 - i < each * k
    · rw [if_neg (by omega), if_pos h1, if_pos (by omega)]
    · rw [if_neg h1]
      by_cases h2 : tot - each * k - each ≤ i ∧ i < tot - each * k
      · rw [if_pos h2, if_pos (by omega)]
        have e1 : (tot - 1 - i) / each = k := by
          rw [Nat.div_eq_iff he]
          rw [Nat.mul_comm] at h1 h2
          omega
        have e2 : (tot - 1 - i) % each = tot - each * k - 1 - i := by
          have := Nat.div_add_mod (tot - 1 - i) each
          rw [e1] at this
          omega
        rw [e1, e2]
      · rw [if_neg h2, if_neg (by omega)]
theorem rowL_1 (B : List Int) (n v : Nat) (hn : 0 < n) (hv : v < 18446744073709551616) : rowL (B.length + n) B B.length n 1 [(v : Int)] = B ++ be n v := by
  have h64 : B64 [v] := fun i => by
    match i with
    | 0 => simpa using hv
    | i + 1 => simp
  have hr : ∀ i, i < B.length + n → (rr (B.length + n) n 1 [(v : Int)] 1).getD i 0 = if i < B.length then 0 else (be n v).getD (i - B.length) 0 := fun i hi => by
    have := rr_n (B.length + n) n 1 [v] h64 hn 1 (by omega) i hi
    rw [show zs [v] = [(v : Int)] from rfl] at this
    rw [this]
    by_cases h : i < B.length
    · rw [if_pos h, if_neg (by omega)]
    · rw [if_neg h, if_pos (by omega), be_get _ _ _ (by omega), show (B.length + n - 1 - i) / n = 0 from Nat.div_eq_of_lt (by omega), show (B.length + n - 1 - i) % n = n - 1 - (i - B.length) by rw [Nat.mod_eq_of_lt (by omega)]; omega]
      rfl
  refine eqI_n (B.length + n) (rowL_len _ _ _ _ _ _) (by simp [be_len]) fun i hi => ?_
  unfold rowL
  rw [getD_app]
  by_cases h0 : B.length = 0
  · rw [if_pos h0, hr i hi, if_neg (by omega), if_neg (by omega)]
  · rw [if_neg h0, spl_getD _ _ _ _ _ _ hi, hr i hi, List.take_length]
    by_cases h : i < B.length
    · rw [if_pos (by omega), if_pos h]; rfl
    · rw [if_neg (by omega), if_neg h, if_neg h]
theorem rowL_4 (B : List Int) (v : Nat) : rowL (B.length + 8 * 4) B B.length 8 4 (zs [(wd v).getD 3 0, (wd v).getD 2 0, (wd v).getD 1 0, (wd v).getD 0 0]) = B ++ be 32 v := by
  have h64 : B64 [(wd v).getD 3 0, (wd v).getD 2 0, (wd v).getD 1 0, (wd v).getD 0 0] := fun i => by
    match i with
    | 0 => exact wd_B64 v 3
    | 1 => exact wd_B64 v 2
    | 2 => exact wd_B64 v 1
    | 3 => exact wd_B64 v 0
    | i + 4 => simp
  have hd : ∀ q, q < 4 → [(wd v).getD 3 0, (wd v).getD 2 0, (wd v).getD 1 0, (wd v).getD 0 0].getD (3 - q) 0 = v / 18446744073709551616 ^ q % 18446744073709551616 := fun q hq => by
    rw [wd_at _ _ (by omega), wd_at _ _ (by omega), wd_at _ _ (by omega), wd_at _ _ (by omega)]
    match q, hq with
    | 0, _ => rfl
    | 1, _ => rfl
    | 2, _ => rfl
    | 3, _ => rfl
  have hr : ∀ i, i < B.length + 8 * 4 → (rr (B.length + 8 * 4) 8 4 (zs [(wd v).getD 3 0, (wd v).getD 2 0, (wd v).getD 1 0, (wd v).getD 0 0]) 4).getD i 0 = if i < B.length then 0 else (be 32 v).getD (i - B.length) 0 := fun i hi => by
    rw [rr_n _ _ _ _ h64 (by omega) 4 (by omega) i hi]
    by_cases h : i < B.length
    · rw [if_pos h, if_neg (by omega)]
    · rw [if_neg h, if_pos (by omega), be_get _ _ _ (by omega), show 4 - 1 - (B.length + 8 * 4 - 1 - i) / 8 = 3 - (B.length + 8 * 4 - 1 - i) / 8 by omega, hd _ (by omega), show 32 - 1 - (i - B.length) = B.length + 8 * 4 - 1 - i by omega]
      congr 1
      generalize B.length + 8 * 4 - 1 - i = p
      have e1 : (18446744073709551616 : Nat) ^ (p / 8) = 256 ^ (8 * (p / 8)) := by rw [Nat.pow_mul]
      have hp : p % 8 < 8 := Nat.mod_lt _ (by omega)
      have e2 : (18446744073709551616 : Nat) = 256 ^ (p % 8) * (256 * 256 ^ (7 - p % 8)) := by
        rw [← Nat.mul_assoc, ← Nat.pow_succ, ← Nat.pow_add, show p % 8 + 1 + (7 - p % 8) = 8 by omega]
      rw [e1]
      generalize hx : v / 256 ^ (8 * (p / 8)) = x
      rw [show x % 18446744073709551616 = x % (256 ^ (p % 8) * (256 * 256 ^ (7 - p % 8))) by rw [← e2], Nat.mod_mul_right_div_self, Nat.mod_mul_right_mod, ← hx, Nat.div_div_eq_div_mul, ← Nat.pow_add, show 8 * (p / 8) + p % 8 = p by omega]
  refine eqI_n (B.length + 8 * 4) (rowL_len _ _ _ _ _ _) (by simp [be_len]) fun i hi => ?_
  unfold rowL
  rw [getD_app]
  by_cases h0 : B.length = 0
  · rw [if_pos h0, hr i hi, if_neg (by omega), if_neg (by omega)]
  · rw [if_neg h0, spl_getD _ _ _ _ _ _ hi, hr i hi, List.take_length]
    by_cases h : i < B.length
    · rw [if_pos (by omega), if_pos h]; rfl
    · rw [if_neg (by omega), if_neg h, if_neg h]
def U8' (l : List Int) : Prop := ∀ i, 0 ≤ l.getD i 0 ∧ l.getD i 0 < 256
def gN (w : List Int) : Nat → Nat
  | 0 => 0
  | i + 1 => 256 * gN w i + (w.getD i 0).toNat
theorem gN_lt {w : List Int} (h : U8' w) (i : Nat) : gN w i < 256 ^ i := by
  induction i with
  | zero => simp [gN]
  | succ i ih => have := h i; rw [gN, Nat.pow_succ]; omega
theorem gI_gN {w : List Int} (h : U8' w) (i : Nat) (hi : i ≤ 8) : gI w i = (gN w i : Int) := by
  induction i with
  | zero => rfl
  | succ i ih =>
    have h1 := gN_lt h i
    have h2 := h i
    have hp : (256 : Nat) ^ i ≤ 256 ^ 7 := Nat.pow_le_pow_right (by omega) (by omega)
    rw [gI, ih (by omega), gN]
    obtain ⟨b, hb⟩ : ∃ b : Nat, w.getD i 0 = (b : Int) := ⟨(w.getD i 0).toNat, by omega⟩
    rw [hb] at h2 ⊢
    have e1 : (256 : Int) * (gN w i : Int) = ((256 * gN w i : Nat) : Int) := by simp
    rw [e1, wrap64' (by omega), wrap64' (by omega), ← Int.natCast_add, wrap64' (by omega)]
    simp
theorem gN_app (A B : List Int) (i : Nat) (h : i ≤ A.length) : gN (A ++ B) i = gN A i := by
  induction i with
  | zero => rfl
  | succ i ih => rw [gN, gN, ih (by omega), getD_app, if_pos (by omega)]
theorem gN_take (A : List Int) (n i : Nat) (h : i ≤ n) : gN (A.take n) i = gN A i := by
  induction i with
  | zero => rfl
  | succ i ih => rw [gN, gN, ih (by omega), getD_take' _ _ _ (by omega)]
theorem gN_rep (k : Nat) (B : List Int) (i : Nat) : gN (List.replicate k 0 ++ B) (k + i) = gN B i := by
  induction i with
  | zero =>
    rw [Nat.add_zero, gN_app _ _ _ (by simp)]
    show _ = 0
    induction k with
    | zero => rfl
    | succ k ih =>
      rw [gN, getD_rep]
      have : gN (List.replicate (k + 1) 0) k = gN (List.replicate k 0) k := by
        rw [← gN_take _ k k (Nat.le_refl _)]; simp
      rw [this, ih]; rfl
  | succ i ih =>
    rw [← Nat.add_assoc, gN, ih, gN, getD_app, if_neg (by simp)]
    simp
theorem U8'_app {A B : List Int} (ha : U8' A) (hb : U8' B) : U8' (A ++ B) := fun i => by
  rw [getD_app]; split
  · exact ha i
  · exact hb _
theorem U8'_take {A : List Int} (ha : U8' A) (n : Nat) : U8' (A.take n) := fun i => by
  by_cases h : i < n
  · rw [getD_take' _ _ _ h]; exact ha i
  · rw [List.getD_eq_getElem?_getD, List.getElem?_eq_none (by simp; omega)]; simp
theorem U8'_drop {A : List Int} (ha : U8' A) (n : Nat) : U8' (A.drop n) := fun i => by rw [getD_drop']; exact ha _
theorem U8'_rep (n : Nat) : U8' (List.replicate n 0) := fun i => by rw [getD_rep]; omega
theorem U8'_be (n v : Nat) : U8' (be n v) := fun i => by
  by_cases h : i < n
  · rw [be_get _ _ _ h]; omega
  · rw [List.getD_eq_getElem?_getD, List.getElem?_eq_none (by rw [be_len]; omega)]; simp
theorem getI_n {B : List Int} (h : U8' B) (m : Nat) (h8 : m ≤ 8) (hm : m ≤ B.length) : getI B m = (gN B m : Int) := by
  unfold getI
  have e : spl (z 8) (B.take m) (8 - m) m 8 = List.replicate (8 - m) 0 ++ B.take m := by
    have hz : z 8 = List.replicate (8 - m) 0 ++ List.replicate m 0 := by rw [List.replicate_append_replicate, show 8 - m + m = 8 by omega]; rfl
    rw [hz]
    have := spl_app (List.replicate (8 - m) 0) (B.take m) (List.replicate m 0) (8 - m) m 8 (by simp) (by simp; omega) (by omega) (by simp; omega)
    rw [this]
    simp
  rw [e, gI_gN (U8'_app (U8'_rep _) (U8'_take h _)) 8 (Nat.le_refl _)]
  have := gN_rep (8 - m) (B.take m) m
  rw [show 8 - m + m = 8 by omega] at this
  rw [this, gN_take _ _ _ (Nat.le_refl _)]
theorem gN_be_i (n v i : Nat) (h : i ≤ n) : gN (be n v) i = v / 256 ^ (n - i) % 256 ^ i := by
  induction i with
  | zero => simp [gN, Nat.mod_one]
  | succ i ih =>
    rw [gN, ih (by omega), be_get _ _ _ (by omega), Int.toNat_natCast]
    have e : n - i = (n - (i + 1)) + 1 := by omega
    rw [e, Nat.pow_succ 256 (n - (i + 1)), ← Nat.div_div_eq_div_mul, show n - 1 - i = n - (i + 1) by omega]
    generalize v / 256 ^ (n - (i + 1)) = x
    rw [Nat.pow_succ, Nat.mul_comm (256 ^ i) 256, Nat.mod_mul]
    omega
theorem gN_be (n v : Nat) (R : List Int) (h : v < 256 ^ n) : gN (be n v ++ R) n = v := by
  rw [gN_app _ _ _ (by rw [be_len]; omega), gN_be_i _ _ _ (Nat.le_refl _), Nat.sub_self, Nat.pow_zero, Nat.div_one, Nat.mod_eq_of_lt h]
end Go.Proofs.X
end

section
/- Long numbers, read word by word. No program. -/
open Go Go.Bx
namespace Go.Proofs.X
theorem gN_add (A : List Int) (i j : Nat) : gN A (i + j) = gN A i * 256 ^ j + gN (A.drop i) j := by
  induction j with
  | zero => simp [gN]
  | succ j ih =>
    rw [← Nat.add_assoc, gN, ih, gN, getD_drop', Nat.pow_succ, Nat.mul_add, Nat.add_assoc]
    congr 1
    rw [← Nat.mul_assoc, ← Nat.mul_assoc, Nat.mul_comm 256, Nat.mul_assoc, Nat.mul_assoc, Nat.mul_comm 256]
def glI (B : List Int) (i : Nat) : List Nat := (List.range 4).map fun k => if k < i then gN ((B.drop (32 - 8 * (k + 1))).take 8) 8 else 0
theorem glI_0 (B : List Int) : glI B 0 = List.replicate 4 0 := rfl
theorem glI_len (B : List Int) (i : Nat) : (glI B i).length = 4 := by simp [glI]
theorem glI_s {B : List Int} (_ : U8' B) {i : Nat} (hi : i < 4) (_ : 32 ≤ B.length) : zs (glI B (i + 1)) = (zs (glI B i)).set i ((gN ((B.drop (32 - 8 * (i + 1))).take 8) 8 : Nat) : Int) := by
  match i, hi with
  | 0, _ => rfl
  | 1, _ => rfl
  | 2, _ => rfl
  | 3, _ => rfl
theorem gl_w {B : List Int} (hU : U8' B) (a i : Nat) (h : a + 8 + 8 * i = 32) : gN B 32 / 256 ^ (8 * i) % 256 ^ 8 = gN ((B.drop a).take 8) 8 := by
  have h1 := gN_lt (U8'_drop hU (a + 8)) (8 * i)
  have h2 := gN_lt (U8'_drop hU a) 8
  rw [gN_take _ _ _ (Nat.le_refl _), ← h, gN_add B (a + 8) (8 * i), gN_add B a 8, Nat.add_comm, Nat.add_mul_div_right _ _ (Nat.pos_of_ne_zero (by simp)), Nat.div_eq_of_lt h1, Nat.zero_add, Nat.add_comm, Nat.add_mul_mod_self_right, Nat.mod_eq_of_lt h2]
theorem glI_4 {B : List Int} (hU : U8' B) (_ : 32 ≤ B.length) : glI B 4 = wd (gN B 32) := by
  have h : ∀ a i, a + 8 + 8 * i = 32 → gN ((B.drop a).take 8) 8 = dg 18446744073709551616 (gN B 32) i := fun a i h => by
    rw [← gl_w hU a i h]
    show _ = gN B 32 / 18446744073709551616 ^ i % 18446744073709551616
    rw [Nat.pow_mul]
  show [_, _, _, _] = [_, _, _, _]
  rw [← h 24 0 rfl, ← h 16 1 rfl, ← h 8 2 rfl, ← h 0 3 rfl]
  rfl
def pbB (b : List Int) : List Int := be 4 b.length ++ b
theorem pbB_len (b : List Int) : (pbB b).length = 4 + b.length := by rw [pbB, List.length_append, be_len]
def xA (a : List Int) (n : Nat) (L : List (List Int)) : Nat → List Int
  | 0 => pbB a ++ be 4 n
  | i + 1 => xA a n L i ++ pbB (L.getD i [])
theorem xA_0 (a : List Int) (n : Nat) (L : List (List Int)) : xA a n L 0 = pbB a ++ be 4 n := rfl
theorem xA_s (a : List Int) (n : Nat) (L : List (List Int)) (i : Nat) : xA a n L (i + 1) = xA a n L i ++ pbB (L.getD i []) := rfl
theorem xA_le (a : List Int) (n : Nat) (L : List (List Int)) (hL : ∀ i, i < L.length → (L.getD i []).length ≤ 900000) (i : Nat) (hi : i ≤ L.length) : (xA a n L i).length ≤ 8 + a.length + i * 900004 := by
  induction i with
  | zero => rw [xA_0, List.length_append, pbB_len, be_len]; omega
  | succ i ih =>
    have := ih (by omega)
    have := hL i (by omega)
    rw [xA_s, List.length_append, pbB_len]; omega
def asX (a : List Int) (L : List (List Int)) : List Int := xA a L.length L L.length
def asB (a : List Int) (L : List (List Int)) : List Int := sumL (tk run0 (asX a L)) (asX a L).length
theorem asB_def (a : List Int) (L : List (List Int)) : sumL (tk run0 (xA a L.length L L.length)) (xA a L.length L L.length).length = asB a L := rfl
theorem U8'_ob (s : List Int) (i : Nat) : U8' (ob s i) := by
  induction i with
  | zero => exact fun i => by simp [ob]
  | succ i ih =>
    obtain ⟨v, hv, e⟩ : ∃ v : Nat, v < 18446744073709551616 ∧ IntKind.u64.wrap (s.getD i 0) = (v : Int) := ⟨(s.getD i 0 % 18446744073709551616).toNat, by omega, by
      show s.getD i 0 % 18446744073709551616 = _
      omega⟩
    have h := rowL_1 (ob s i) 4 v (by decide) hv
    rw [ob_len] at h
    have h2 : ob s (i + 1) = ob s i ++ be 4 v := by rw [ob, e]; exact h
    rw [h2]
    exact U8'_app ih (U8'_be _ _)
theorem U8'_sumL (q : Run) (t : Nat) : U8' (sumL q t) := by
  have hl : ((ob (sumQ q t).s 8).take 32).length = 32 := by rw [List.length_take, ob_len]; rfl
  have h := spl_app [] ((ob (sumQ q t).s 8).take 32) (z 32) 0 32 32 rfl hl (Nat.le_refl _) rfl
  have h2 : sumL q t = (ob (sumQ q t).s 8).take 32 ++ [] := h
  rw [h2, List.append_nil]
  exact U8'_take (U8'_ob _ _) 32
theorem U8'_asB (a : List Int) (L : List (List Int)) : U8' (asB a L) := U8'_sumL _ _
def asN (a : List Int) (L : List (List Int)) (v : Nat) : Nat := gN (asB a (L ++ [[(v : Int)]])) 32
theorem asN_lt (a : List Int) (L : List (List Int)) (v : Nat) : asN a L v < 2 ^ 256 := gN_lt (U8'_asB _ _) 32
theorem asN_def (a : List Int) (L : List (List Int)) (v : Nat) : gN (asB a (L ++ [[(v : Int)]])) 32 = asN a L v := rfl
def nmB (a : List Int) (L : List (List Int)) (m : Nat) : Nat := (asN a L 1 + 2 ^ 256 * asN a L 0) % m
theorem nmB_lt (a : List Int) (L : List (List Int)) {m : Nat} (h : 0 < m) : nmB a L m < m := Nat.mod_lt _ h
theorem nmB_def (a : List Int) (L : List (List Int)) (m : Nat) : (asN a L 1 + 2 ^ 256 * asN a L 0) % m = nmB a L m := rfl
def rwF (L : List (List Int)) : Nat → Nat → SV := fun i _ => (L.map (SV.fzi .u8)).getD i .nils
theorem rwF_def (L : List (List Int)) (i j : Nat) : rwF L i j = (L.map (SV.fzi .u8)).getD i .nils := rfl
theorem rwF_at (L : List (List Int)) {i j : Nat} (h : i < L.length) : rwF L i j = .fzi .u8 (L.getD i []) := rows_at L h
theorem rwF_out (L : List (List Int)) {i j : Nat} (h : L.length ≤ i) : rwF L i j = .nils := by
  unfold rwF; rw [List.getD_eq_getElem?_getD, List.getElem?_eq_none (by simpa using h)]; rfl
theorem rwF_in (L : List (List Int)) (x : List Int) {i j : Nat} (h : i < L.length) : rwF (L ++ [x]) i j = rwF L i j := by
  rw [rwF_at L h, rwF_at _ (by simp; omega), List.getD_eq_getElem?_getD, List.getD_eq_getElem?_getD, List.getElem?_append_left h]
theorem rwF_new (L : List (List Int)) (x : List Int) {i : Nat} (j : Nat) (h : i < 1) : rwF (L ++ [x]) (L.length + i) j = .fzi .u8 x := by
  have : i = 0 := by omega
  subst this
  rw [rwF_at _ (by simp), List.getD_eq_getElem?_getD]; simp
theorem row1_at (x : SV) {i : Nat} (h : i < 1) : x = [x].getD i .nils := by
  have : i = 0 := by omega
  subst this; rfl
theorem conv_rwF {H : Heap} {id n dc c : Nat} {L : List (List Int)} (hb : hget H id = some ⟨false, [.rows c 1 (rwF L)]⟩) (hn : L.length = n) (hc : n ≤ c) (hd : n ≤ dc) : AConv [id] H (.s (.slice id 0 0 n dc)) (.s (ROWS L)) := by
  subst hn
  refine conv_rows (R := []) hb rfl hd fun i j hi hj => ?_
  have hj0 : j = 0 := by omega
  subst hj0
  refine ⟨.noid (rwF L i 0), ?_, ?_, ?_⟩
  · rw [show 0 + 0 + (i * 1 + 0) = i by omega]; exact rows1_at _ (by omega)
  · exact fun c W ρ w v _ _ h => SV.rep_le (noM_le ρ) h.1
  · show ((L.map (SV.fzi .u8)).getD i .nils).idB (fun _ => false) = true
    rw [rows_at L hi]; rfl
theorem asB_len (a : List Int) (L : List (List Int)) : (asB a L).length = 32 := sumL_len _ _
end Go.Proofs.X
end

section
/- Types and functions of numbers and bytes, as instances. -/
open Go Go.Bx Go.Proofs
namespace Go.Proofs.X
instance : Clb Tryz.prog 71 := ⟨_, Tryz.func71, by kernel_rfl, rfl⟩
instance : Clb Tryz.prog 118 := ⟨_, Tryz.func118, by kernel_rfl, rfl⟩
instance : Clb Tryz.prog 100 := ⟨_, Tryz.func100, by kernel_rfl, rfl⟩
instance : Clb Tryz.prog 82 := ⟨_, Tryz.func82, by kernel_rfl, rfl⟩
instance : Clb Tryz.prog 54 := ⟨_, Tryz.func54, by kernel_rfl, rfl⟩
instance : Clb Tryz.prog 119 := ⟨_, Tryz.func119, by kernel_rfl, rfl⟩
instance : Clb Tryz.prog 70 := ⟨_, Tryz.func70, by kernel_rfl, rfl⟩
instance : Clb Tryz.prog 138 := ⟨_, Tryz.func138, by kernel_rfl, rfl⟩
instance : Clb Tryz.prog 149 := ⟨_, Tryz.func149, by kernel_rfl, rfl⟩
end Go.Proofs.X
end
