/- A part of the proofs of this claim: BRShaQ, BR51, BR52, BRow1, BSha1, BSha2, BSha3, BMac1, BMac2, BR53, BKmtT. No conditions. -/
import Derived.Test.YtokgpammicpahaaGreatDoorK5
import Derived.Test.YtokgpammicpahaaGreatDoorK3
import Derived.Test.YtokgpammicpahaaGreatDoorK4
set_option linter.unusedVariables false
set_option linter.unusedSimpArgs false
section
/- The document's sums and sums by a key are the program's. No program. -/
open Go Go.Bx
namespace Go.Proofs.X
theorem wrap32_rng (x : Int) : 0 ≤ IntKind.u32.wrap x ∧ IntKind.u32.wrap x < 4294967296 := by
  show 0 ≤ x % 4294967296 ∧ x % 4294967296 < 4294967296
  omega
theorem fin_rng (s l : List Int) (hl : l.length = 8) (i : Nat) (hi : i ≤ 8) (k : Nat) (hk : k < i) : 0 ≤ (fin s l i).getD k 0 ∧ (fin s l i).getD k 0 < 4294967296 := by
  induction i with
  | zero => omega
  | succ i ih =>
    rw [fin, setDI _ _ _ _ (by rw [fin_len]; omega)]
    by_cases h : i = k
    · rw [if_pos h]; exact wrap32_rng _
    · rw [if_neg h]; exact ih (by omega) (by omega)
theorem rfb_rng (A : List Int) (n k : Nat) (hk : k < 8) : 0 ≤ (rfb A n).getD k 0 ∧ (rfb A n).getD k 0 < 4294967296 := by
  cases n with
  | zero =>
    show 0 ≤ S0.getD k 0 ∧ S0.getD k 0 < 4294967296
    match k, hk with
    | 0, _ => decide
    | 1, _ => decide
    | 2, _ => decide
    | 3, _ => decide
    | 4, _ => decide
    | 5, _ => decide
    | 6, _ => decide
    | 7, _ => decide
  | succ n => exact fin_rng _ _ (ls_len _ _ (rfb_len _ _) _) 8 (by omega) k hk
theorem spl_alln (xs ys : List Int) (n : Nat) (h : ys.length = n) : spl xs ys 0 n n = ys := by
  refine eqI_n n (spl_len _ _ _ _ _) h fun i hi => ?_
  rw [spl_getD _ _ _ _ _ _ hi, if_pos (by omega), Nat.sub_zero]
theorem be4_get (v j : Nat) (hj : j < 4) : (be 4 v).getD j 0 = IntKind.u8.wrap (shrK .u32 (v : Int) ((24 - 8 * j : Nat) : Int)) := by
  rw [be_get 4 v j hj]
  have e : shrK .u32 (v : Int) ((24 - 8 * j : Nat) : Int) = ((v / 2 ^ (24 - 8 * j) : Nat) : Int) := by
    show ((v : Int).fdiv (2 ^ min ((24 - 8 * j : Nat) : Int).toNat 32)) = _
    rw [show min ((24 - 8 * j : Nat) : Int).toNat 32 = 24 - 8 * j by omega]
    rw [Int.fdiv_eq_ediv_of_nonneg _ (Int.le_of_lt (Int.pow_pos (by omega)))]
    simp
  rw [e, wrap8]
  congr 2
  match j, hj with
  | 0, _ => rfl
  | 1, _ => rfl
  | 2, _ => rfl
  | 3, _ => rfl
theorem ob_get (s : List Int) (hr : ∀ k, k < 8 → 0 ≤ s.getD k 0 ∧ s.getD k 0 < 4294967296) (i : Nat) (hi : i ≤ 8) (k : Nat) (hk : k < 4 * i) : (ob s i).getD k 0 = IntKind.u8.wrap (shrK .u32 (s.getD (k / 4) 0) ((24 - 8 * (k % 4) : Nat) : Int)) := by
  induction i with
  | zero => omega
  | succ i ih =>
    obtain ⟨h0, h1⟩ := hr i (by omega)
    obtain ⟨v, hv⟩ := Int.eq_ofNat_of_zero_le h0
    have e := rowL_1 (ob s i) 4 v (by omega) (by omega)
    rw [ob_len] at e
    rw [ob, hv, wrap64' (by omega), e, getD_app, ob_len]
    by_cases h : k < 4 * i
    · rw [if_pos h]; exact ih (by omega) h
    · rw [if_neg h, be4_get _ _ (by omega), show k / 4 = i by omega, show k % 4 = k - 4 * i by omega, hv]
theorem rob_get (s : List Int) (i k : Nat) (hi : i ≤ 32) (hk : k < i) : (rob s i).getD k 0 = IntKind.u8.wrap (shrK .u32 (s.getD (k / 4) 0) ((24 - 8 * (k % 4) : Nat) : Int)) := by
  induction i with
  | zero => omega
  | succ i ih =>
    rw [rob, setDI _ _ _ _ (by rw [rob_len]; omega)]
    by_cases h : i = k
    · subst h; rw [if_pos rfl]
    · rw [if_neg h]; exact ih (by omega) (by omega)
theorem rr8 (n : Nat) (h : n < 18446744073709551616) : rr 8 8 1 [(n : Int)] 1 = be 8 n := rowL_1 [] 8 n (by omega) h
theorem rsum_eq (B : List Int) (hl : B.length < 2305843009213693952) : rsumL B = sumL (tk run0 B) B.length := by
  have hq : sumQ (tk run0 B) B.length = tk run0 (rpad B) := by
    rw [sumQ, tk_m, rpad, tk_append, tk_append, tk_append, rpadN, show (8 * ((B.length : Nat) : Int)) = ((8 * B.length : Nat) : Int) by omega, wrap64' (by omega), rr8 _ (by omega)]
  have hp := rpad_len B
  have ht := tk_fb (rpad B) _ hp _ (Nat.le_refl _)
  rw [← hp, List.take_length] at ht
  have hn : (rpad B).length / 64 = (B.length + 1 + rpadN B + 8) / 64 := by omega
  have hob : (ob (rfb (rpad B) ((B.length + 1 + rpadN B + 8) / 64)) 8).length = 32 := ob_len _ _
  rw [rsumL, sumL, hq, ht.1, hn, List.take_of_length_le (by rw [hob]; exact Nat.le_refl _), spl_alln _ _ _ hob]
  refine eqI_n 32 (rob_len _ _) hob fun k hk => ?_
  rw [rob_get _ _ _ (Nat.le_refl _) hk, ob_get _ (fun j hj => rfb_rng _ _ _ hj) 8 (Nat.le_refl _) _ hk]
def rmac (K A : List Int) : List Int := rsumL (xk (k64 K) 92 64 ++ rsumL (xk (k64 K) 54 64 ++ A))
theorem rsumL_len (B : List Int) : (rsumL B).length = 32 := rob_len _ _
theorem xk64_len (K : List Int) (v : Int) : (xk (k64 K) v 64).length = 64 := by rw [xk_len, k64_len]
theorem rmac_eq (K A : List Int) (hl : A.length < 2305843009213690000) : rmac K A = hmO K (tk (hmI K) A) (64 + A.length) := by
  rw [rmac, hmO, hmI, ← tk_append, ← tk_append]
  have e1 : rsumL (xk (k64 K) 54 64 ++ A) = sumL (tk run0 (xk (k64 K) 54 64 ++ A)) (64 + A.length) := by
    rw [rsum_eq _ (by rw [List.length_append, xk64_len]; omega), List.length_append, xk64_len]
  rw [← e1, rsum_eq _ (by rw [List.length_append, xk64_len, rsumL_len]; omega), List.length_append, xk64_len, rsumL_len]
end Go.Proofs.X
end

section
open Go Go.Bx Go.Proofs
namespace Go.Proofs.X
set_option maxRecDepth 100000
set_option maxHeartbeats 4000000
theorem round_c (x : Int) (n : Nat) (hm : n ≤ 32) : Con Tryz.prog 173 [.s (.int .u32 x), .s (.int .u64 ((n : Nat) : Int))] [] (.s (.int .u32 (rdI x n))) [] := by
 refine con_in 13 Tryz.func173 rfl rfl (m := 0) rfl ?_
 intro E hP hn hE
 refine w_seq ?_
 refine g_reg hP hn ?_
 refine s_op k_as ?_
 refine s_nil trivial ?_
 refine n_wp ?_
 refine w_seq ?_
 refine g_reg hP hn ?_
 refine s_op k_mv ?_
 refine s_op k_mv ?_
 refine s_op k_shr ?_
 refine s_op k_mv ?_
 refine s_op k_mv ?_
 refine s_op (k_sub (by exact l_bin rfl rfl (b_sub (r := ((32 - n : Nat) : Int)) (by show (32 - (n : Int)) % 18446744073709551616 = ((32 - n : Nat) : Int); omega)))) ?_
 refine s_op k_shl ?_
 refine s_op k_or ?_
 refine s_op k_as ?_
 refine s_nil trivial ?_
 refine n_wp ?_
 refine w_ret ?_
 exact d_ret hP hn hE [] (by first | exact r_tmp Tryz.results173 | exact r_tmpa Tryz.results173)

theorem table_c : Con Tryz.prog 168 [] [] (.s (.fzi .u32 KS)) [] := by
 refine con_in 2 Tryz.func168 rfl rfl (m := 0) rfl ?_
 intro E hP hn hE
 refine w_seq ?_
 refine g_reg hP hn ?_
 refine s_op k_as ?_
 refine s_nil trivial ?_
 refine n_wp ?_
 refine w_seq ?_
 refine g_reg hP hn ?_
 refine s_op (k_bsK KS) ?_
 refine s_op k_as ?_
 refine s_nil trivial ?_
 refine n_wp ?_
 refine w_ret ?_
 exact d_retw hP hn (r_tmp Tryz.results168) ((frz_sl 0 (l' := KS) (hl := KS_len) (hl' := by rw [List.drop_zero]; exact List.take_of_length_le (Nat.le_refl _))).trans (wk hE []))

theorem rblk_c (h b : List Int) (hh : h.length = 8) (hb : b.length = 64) : Con Tryz.prog 169 [.agg [.ints .u32 8 h], .s (.fzi .u8 b), .s (.fzi .u32 KS)] [] (.agg [.ints .u32 8 (rblk h b)]) [] := by
 refine con_in 195 Tryz.func169 rfl rfl (m := 0) rfl ?_
 intro E hP hn hE
 unfold rblk
 refine w_seq ?_
 refine g_reg hP hn ?_
 refine s_op k_bx ?_
 refine s_op k_al ?_
 refine s_nil trivial ?_
 refine n_wp ?_
 refine w_seq ?_
 refine g_reg hP hn ?_
 refine s_op k_al ?_
 refine s_nil trivial ?_
 refine n_wp ?_
 refine w_seq ?_
 refine w_seq ?_
 refine g_reg hP hn ?_
 refine s_op k_as ?_
 refine s_nil trivial ?_
 refine n_wp ?_
 refine w_block ?_
 refine c_loop (fun m_ T H => ∃ i : Nat, i ≤ 16 ∧ m_ = 16 - i ∧ T = [(1, .s (.fzi .u8 b)), (2, .s (.fzi .u32 KS)), (3, .s (.ptr 0 0 0)), (6, .s (.ptr 1 0 0)), (7, .s (.ptr 2 0 0)), (8, .s (.int .i64 ((i : Nat) : Int)))] ∧ H = [some ⟨true, [.ints .u32 8 h]⟩, some ⟨true, [.ints .u32 8 (z 8)]⟩, some ⟨true, [.ints .u32 64 (w1L b i)]⟩]) (16) ⟨0, by omega, rfl, rfl, rfl⟩ (wk hE [0, 1, 2]) ?_
 rintro n_ T_ H_ ⟨i, hi, rfl, rfl, rfl⟩
 have hwl := w1L_len b i
 refine w_seq ?_
 refine w_seq ?_
 refine g_reg hP hn ?_
 refine s_op k_mv ?_
 refine s_op k_lss ?_
 refine s_nil trivial ?_
 refine n_wp ?_
 refine w_if rfl (fun h_t20 => ?_) (fun h_t20 => ?_)
 · skip
   refine w_skip ?_
   refine n_wp ?_
   refine w_seq ?_
   refine w_block ?_
   refine g_any hP hn ?_
   refine s_op k_mv ?_
   refine s_op k_mv ?_
   refine s_op k_mv ?_
   refine s_op k_mul ?_
   refine s_op k_ix ?_
   refine s_op k_ld ?_
   refine s_op (k_cv (by exact a_conv rfl rfl)) ?_
   refine s_op k_shl ?_
   refine s_op k_mv ?_
   refine s_op k_mv ?_
   refine s_op k_mul ?_
   refine s_op k_add ?_
   refine s_op k_ix ?_
   refine s_op k_ld ?_
   refine s_op (k_cv (by exact a_conv rfl rfl)) ?_
   refine s_op k_shl ?_
   refine s_op k_or ?_
   refine s_op k_mv ?_
   refine s_op k_mv ?_
   refine s_op k_mul ?_
   refine s_op k_add ?_
   refine s_op k_ix ?_
   refine s_op k_ld ?_
   refine s_op (k_cv (by exact a_conv rfl rfl)) ?_
   refine s_op k_shl ?_
   refine s_op k_or ?_
   refine s_op k_mv ?_
   refine s_op k_mv ?_
   refine s_op k_mul ?_
   refine s_op k_add ?_
   refine s_op k_ix ?_
   refine s_op k_ld ?_
   refine s_op (k_cv (by exact a_conv rfl rfl)) ?_
   refine s_op k_or ?_
   refine s_op k_ix ?_
   refine s_st k_st ?_
   refine s_nil (by kernel_rfl) ?_
   refine n_blo ?_
   refine n_wp ?_
   refine g_reg hP hn ?_
   refine s_op k_mv ?_
   refine s_op k_add ?_
   refine s_op k_as ?_
   refine s_nil trivial ?_
   exact n_round (16 - (i + 1)) (by omega) ⟨i + 1, by omega, rfl, rfl, rfl⟩ (wk hE [0, 1, 2])
 · skip
   obtain rfl : i = 16 := by omega
   rw [show w1L b 16 = w2L b 0 from rfl]
   refine w_exit ?_
   refine x_thn ?_
   refine x_thn ?_
   refine x_eq ?_
   refine n_wp ?_
   refine w_seq ?_
   refine w_seq ?_
   refine g_reg hP hn ?_
   refine s_op k_as ?_
   refine s_nil trivial ?_
   refine n_wp ?_
   refine w_block ?_
   refine c_loop (fun m_ T H => ∃ j : Nat, j ≤ 48 ∧ m_ = 48 - j ∧ T = [(1, .s (.fzi .u8 b)), (2, .s (.fzi .u32 KS)), (3, .s (.ptr 0 0 0)), (6, .s (.ptr 1 0 0)), (7, .s (.ptr 2 0 0)), (9, .s (.int .i64 ((j + 16 : Nat) : Int)))] ∧ H = [some ⟨true, [.ints .u32 8 h]⟩, some ⟨true, [.ints .u32 8 (z 8)]⟩, some ⟨true, [.ints .u32 64 (w2L b j)]⟩]) (48) ⟨0, by omega, rfl, rfl, rfl⟩ (wk hE [0, 1, 2]) ?_
   rintro n_ T_ H_ ⟨j, hj, rfl, rfl, rfl⟩
   have hwl := w2L_len b j
   refine w_seq ?_
   refine w_seq ?_
   refine g_reg hP hn ?_
   refine s_op k_mv ?_
   refine s_op k_lss ?_
   refine s_nil trivial ?_
   refine n_wp ?_
   refine w_if rfl (fun h_t59 => ?_) (fun h_t59 => ?_)
   · skip
     refine w_skip ?_
     refine n_wp ?_
     refine w_seq ?_
     refine w_block ?_
     refine w_seq ?_
     refine g_reg hP hn ?_
     refine s_op k_mv ?_
     refine s_op (k_sub (by exact l_bin rfl rfl (b_sub (r := ((j + 1 : Nat) : Int)) (by rw [wrap_i64 (by omega)]; omega)))) ?_
     refine s_op k_ix ?_
     refine s_op k_ld ?_
     refine s_op k_as ?_
     refine s_nil trivial ?_
     refine n_wp ?_
     refine w_seq ?_
     refine g_reg hP hn ?_
     refine s_op k_mv ?_
     refine s_op (k_sub (by exact l_bin rfl rfl (b_sub (r := ((j + 14 : Nat) : Int)) (by rw [wrap_i64 (by omega)]; omega)))) ?_
     refine s_op k_ix ?_
     refine s_op k_ld ?_
     refine s_op k_as ?_
     refine s_nil trivial ?_
     refine n_wp ?_
     refine g_any hP hn ?_
     refine s_op k_mv ?_
     refine s_op k_mv ?_
     refine s_op (k_sub (by exact l_bin rfl rfl (b_sub (r := ((j : Nat) : Int)) (by rw [wrap_i64 (by omega)]; omega)))) ?_
     refine s_op k_ix ?_
     refine s_op k_ld ?_
     refine s_op k_mv ?_
     refine s_op (k_sub (by exact l_bin rfl rfl (b_sub (r := ((j + 9 : Nat) : Int)) (by rw [wrap_i64 (by omega)]; omega)))) ?_
     refine s_op k_ix ?_
     refine s_op k_ld ?_
     refine s_op k_add ?_
     refine s_op k_mv ?_
     refine s_op (k_call [] (con := round_c _ 7 (by decide))) ?_
     refine s_op k_mv ?_
     refine s_op (k_call [] (con := round_c _ 18 (by decide))) ?_
     refine s_op k_xor ?_
     refine s_op k_mv ?_
     refine s_op k_shr ?_
     refine s_op k_xor ?_
     refine s_op k_add ?_
     refine s_op k_mv ?_
     refine s_op (k_call [] (con := round_c _ 17 (by decide))) ?_
     refine s_op k_mv ?_
     refine s_op (k_call [] (con := round_c _ 19 (by decide))) ?_
     refine s_op k_xor ?_
     refine s_op k_mv ?_
     refine s_op k_shr ?_
     refine s_op k_xor ?_
     refine s_op k_add ?_
     refine s_op k_ix ?_
     refine s_st k_st ?_
     refine s_nil (by kernel_rfl) ?_
     refine n_blo ?_
     refine n_wp ?_
     refine g_reg hP hn ?_
     refine s_op k_mv ?_
     refine s_op k_add ?_
     refine s_op k_as ?_
     refine s_nil trivial ?_
     exact n_round (48 - (j + 1)) (by omega) ⟨j + 1, by omega, rfl, rfl, rfl⟩ (wk hE [0, 1, 2])
   · skip
     obtain rfl : j = 48 := by omega
     generalize w2L b 48 = W at *
     refine w_exit ?_
     refine x_thn ?_
     refine x_thn ?_
     refine x_eq ?_
     refine n_wp ?_
     refine w_seq ?_
     refine g_reg hP hn ?_
     refine s_op k_ld ?_
     refine s_op k_al ?_
     refine s_st k_st ?_
     refine s_nil trivial ?_
     refine n_wp ?_
     refine w_seq ?_
     refine w_seq ?_
     refine g_reg hP hn ?_
     refine s_op k_as ?_
     refine s_nil trivial ?_
     refine n_wp ?_
     refine w_block ?_
     refine c_loop (fun m_ T H => ∃ i : Nat, i ≤ 64 ∧ m_ = 64 - i ∧ T = [(1, .s (.fzi .u8 b)), (2, .s (.fzi .u32 KS)), (3, .s (.ptr 0 0 0)), (6, .s (.ptr 1 0 0)), (7, .s (.ptr 2 0 0)), (12, .s (.ptr 3 0 0)), (13, .s (.int .i64 ((i : Nat) : Int)))] ∧ H = [some ⟨true, [.ints .u32 8 h]⟩, some ⟨true, [.ints .u32 8 (z 8)]⟩, some ⟨true, [.ints .u32 64 W]⟩, some ⟨true, [.ints .u32 8 (rl h W i)]⟩]) (64) ⟨0, by omega, rfl, rfl, rfl⟩ (wk hE [0, 1, 2, 3]) ?_
     rintro n_ T_ H_ ⟨i, hi, rfl, rfl, rfl⟩
     obtain ⟨l, hl⟩ : ∃ l, l = rl h W i := ⟨_, rfl⟩
     have hll : l.length = 8 := hl ▸ rl_len h W hh i
     have hrs : rl h W (i + 1) = rrd l (KS.getD i 0) (W.getD i 0) := by rw [hl]; rfl
     rw [← hl]
     refine w_seq ?_
     refine w_seq ?_
     refine g_reg hP hn ?_
     refine s_op k_mv ?_
     refine s_op k_lss ?_
     refine s_nil trivial ?_
     refine n_wp ?_
     refine w_if rfl (fun h_t101 => ?_) (fun h_t101 => ?_)
     · skip
       refine w_skip ?_
       refine n_wp ?_
       refine w_seq ?_
       refine w_block ?_
       refine w_seq ?_
       refine g_reg hP hn ?_
       refine s_op k_ix ?_
       refine s_op k_ld ?_
       refine s_op k_as ?_
       refine s_nil trivial ?_
       refine n_wp ?_
       refine w_seq ?_
       refine g_reg hP hn ?_
       refine s_op k_ix ?_
       refine s_op k_ld ?_
       refine s_op k_as ?_
       refine s_nil trivial ?_
       refine n_wp ?_
       refine w_seq ?_
       refine g_any hP hn ?_
       refine s_op k_ix ?_
       refine s_op k_ld ?_
       refine s_op k_mv ?_
       refine s_op (k_call [] (con := round_c _ 6 (by decide))) ?_
       refine s_op k_mv ?_
       refine s_op (k_call [] (con := round_c _ 11 (by decide))) ?_
       refine s_op k_xor ?_
       refine s_op k_mv ?_
       refine s_op (k_call [] (con := round_c _ 25 (by decide))) ?_
       refine s_op k_xor ?_
       refine s_op k_add ?_
       refine s_op k_mv ?_
       refine s_op k_ix ?_
       refine s_op k_ld ?_
       refine s_op k_and ?_
       refine s_op k_mv ?_
       refine s_op k_com ?_
       refine s_op k_ix ?_
       refine s_op k_ld ?_
       refine s_op k_and ?_
       refine s_op k_xor ?_
       refine s_op k_add ?_
       refine s_op k_mv ?_
       refine s_op k_mv ?_
       refine s_op (k_ix (by exact a_ixi rfl rfl (by rw [KS_len]; omega))) ?_
       refine s_op k_ld ?_
       refine s_op k_add ?_
       refine s_op k_mv ?_
       refine s_op k_ix ?_
       refine s_op k_ld ?_
       refine s_op k_add ?_
       refine s_op k_as ?_
       refine s_nil (by kernel_rfl) ?_
       refine n_wp ?_
       refine w_seq ?_
       refine g_any hP hn ?_
       refine s_op k_mv ?_
       refine s_op (k_call [] (con := round_c _ 2 (by decide))) ?_
       refine s_op k_mv ?_
       refine s_op (k_call [] (con := round_c _ 13 (by decide))) ?_
       refine s_op k_xor ?_
       refine s_op k_mv ?_
       refine s_op (k_call [] (con := round_c _ 22 (by decide))) ?_
       refine s_op k_xor ?_
       refine s_op k_mv ?_
       refine s_op k_ix ?_
       refine s_op k_ld ?_
       refine s_op k_and ?_
       refine s_op k_mv ?_
       refine s_op k_ix ?_
       refine s_op k_ld ?_
       refine s_op k_and ?_
       refine s_op k_or ?_
       refine s_op k_ix ?_
       refine s_op k_ld ?_
       refine s_op k_ix ?_
       refine s_op k_ld ?_
       refine s_op k_and ?_
       refine s_op k_or ?_
       refine s_op k_add ?_
       refine s_op k_as ?_
       refine s_nil (by kernel_rfl) ?_
       refine n_wp ?_
       refine g_reg hP hn ?_
       refine s_op k_mv ?_
       refine s_op k_mv ?_
       refine s_op k_add ?_
       refine s_op k_mv ?_
       refine s_op k_ix ?_
       refine s_op k_ld ?_
       refine s_op k_ix ?_
       refine s_op k_ld ?_
       refine s_op k_ix ?_
       refine s_op k_ld ?_
       refine s_op k_mv ?_
       refine s_op k_add ?_
       refine s_op k_mv ?_
       refine s_op k_ix ?_
       refine s_op k_ld ?_
       refine s_op k_ix ?_
       refine s_op k_ld ?_
       refine s_op (k_bd (by exact a_buildK (rrd l (KS.getD i 0) (W.getD i 0)) rfl rfl rfl)) ?_
       refine s_st k_st ?_
       refine s_nil trivial ?_
       refine n_blo ?_
       refine n_wp ?_
       refine g_reg hP hn ?_
       refine s_op k_mv ?_
       refine s_op k_add ?_
       refine s_op k_as ?_
       refine s_nil trivial ?_
       rw [← hrs]
       exact n_round (64 - (i + 1)) (by omega) ⟨i + 1, by omega, rfl, rfl, rfl⟩ (wk hE [0, 1, 2, 3])
     · skip
       obtain rfl : i = 64 := by omega
       rw [← hl]
       clear hrs hl
       refine w_exit ?_
       refine x_thn ?_
       refine x_thn ?_
       refine x_eq ?_
       refine n_wp ?_
       refine w_seq ?_
       refine w_seq ?_
       refine g_reg hP hn ?_
       refine s_op k_as ?_
       refine s_nil trivial ?_
       refine n_wp ?_
       refine w_block ?_
       refine c_loop (fun m_ T H => ∃ i : Nat, i ≤ 8 ∧ m_ = 8 - i ∧ T = [(1, .s (.fzi .u8 b)), (2, .s (.fzi .u32 KS)), (3, .s (.ptr 0 0 0)), (6, .s (.ptr 1 0 0)), (7, .s (.ptr 2 0 0)), (12, .s (.ptr 3 0 0)), (18, .s (.int .i64 ((i : Nat) : Int)))] ∧ H = [some ⟨true, [.ints .u32 8 h]⟩, some ⟨true, [.ints .u32 8 (z 8)]⟩, some ⟨true, [.ints .u32 64 W]⟩, some ⟨true, [.ints .u32 8 (fin h l i)]⟩]) (8) ⟨0, by omega, rfl, rfl, rfl⟩ (wk hE [0, 1, 2, 3]) ?_
       rintro n_ T_ H_ ⟨i, hi, rfl, rfl, rfl⟩
       have hfl := (fin_len h l i).trans hll
       refine w_seq ?_
       refine w_seq ?_
       refine g_reg hP hn ?_
       refine s_op k_mv ?_
       refine s_op k_lss ?_
       refine s_nil trivial ?_
       refine n_wp ?_
       refine w_if rfl (fun h_t182 => ?_) (fun h_t182 => ?_)
       · skip
         refine w_skip ?_
         refine n_wp ?_
         refine w_seq ?_
         refine w_block ?_
         refine g_any hP hn ?_
         refine s_op k_mv ?_
         refine s_op k_mv ?_
         refine s_op k_ix ?_
         refine s_op k_ld ?_
         refine s_op k_mv ?_
         refine s_op k_ix ?_
         refine s_op k_ld ?_
         refine s_op k_add ?_
         refine s_op k_ix ?_
         refine s_st k_st ?_
         refine s_nil (by kernel_rfl) ?_
         refine n_blo ?_
         refine n_wp ?_
         refine g_reg hP hn ?_
         refine s_op k_mv ?_
         refine s_op k_add ?_
         refine s_op k_as ?_
         refine s_nil trivial ?_
         exact n_round (8 - (i + 1)) (by omega) ⟨i + 1, by omega, rfl, rfl, rfl⟩ (wk hE [0, 1, 2, 3])
       · skip
         obtain rfl : i = 8 := by omega
         refine w_exit ?_
         refine x_thn ?_
         refine x_thn ?_
         refine x_eq ?_
         refine n_wp ?_
         refine w_seq ?_
         refine g_reg hP hn ?_
         refine s_op k_ld ?_
         refine s_st k_st ?_
         refine s_nil trivial ?_
         refine n_wp ?_
         refine w_ret ?_
         exact d_ret hP hn hE [] (r_cell Tryz.results169)

end Go.Proofs.X
end

section
open Go Go.Bx Go.Proofs
namespace Go.Proofs.X
set_option maxRecDepth 100000
set_option maxHeartbeats 4000000
attribute [local irreducible] rblk rfb rob be KS
theorem rblk_a (h b : List Int) (hh : h.length = 8) (hb : b.length = 64) (hu : U8' b) : Con Tryz.prog 169 [.agg [.ints .u32 8 h], .s (.fzi .u8 b), .s (.fzi .u32 KS)] [] (.agg [.ints .u32 8 (aft h b)]) [] := by
  have c := rblk_c h b hh hb
  rwa [rblk_eq hh hu hb] at c
def padZ (B : List Int) (k : Nat) : List Int := B ++ [128] ++ List.replicate k 0
theorem padZ_len (B : List Int) (k : Nat) : (padZ B k).length = B.length + 1 + k := by simp [padZ]; omega
theorem padZ_s (B : List Int) (k : Nat) : (padZ B k).take (B.length + 1 + k) ++ [0] = padZ B (k + 1) := by
  rw [List.take_of_length_le (by rw [padZ_len]; exact Nat.le_refl _), padZ, padZ, List.replicate_succ', ← List.append_assoc]
theorem be8_s (n i : Nat) (hi : i < 8) : IntKind.u8.wrap ((n / 2 ^ (56 - 8 * i) : Nat) : Int) = (be 8 n).getD i 0 := by
  rw [be_get 8 n i hi]
  rw [wrap8]
  congr 2
  match i, hi with
  | 0, _ => rfl
  | 1, _ => rfl
  | 2, _ => rfl
  | 3, _ => rfl
  | 4, _ => rfl
  | 5, _ => rfl
  | 6, _ => rfl
  | 7, _ => rfl
theorem padB_s (A B : List Int) (i L : Nat) (hA : A.length = L) (hi : i < B.length) : (A ++ B.take i).take (L + i) ++ [B.getD i 0] = A ++ B.take (i + 1) := by
  rw [List.take_of_length_le (by rw [List.length_append, List.length_take]; omega), List.append_assoc, List.take_add_one, List.getElem?_eq_getElem hi, List.getD_eq_getElem?_getD, List.getElem?_eq_getElem hi]
  rfl
theorem U8'_rpad (B : List Int) (hu : U8' B) : U8' (rpad B) := U8'_app (U8'_app (U8'_app hu (fun i => by match i with | 0 => (show 0 ≤ (128 : Int) ∧ (128 : Int) < 256; omega) | i + 1 => (show 0 ≤ (0 : Int) ∧ (0 : Int) < 256; omega))) (U8'_rep _)) (U8'_be _ _)

theorem rpadN_le (B : List Int) : rpadN B < 64 := Nat.mod_lt _ (by omega)

theorem rof_c (B : List Int) (hu : U8' B) (hB : B.length ≤ 900000) : Con Tryz.prog 156 [.s (.fzi .u8 B)] [] (.agg [.ints .u8 32 (rsumL B)]) [] := by
 refine con_in 72 Tryz.func156 rfl rfl (m := 0) rfl ?_
 intro E hP hn hE
 have hpn : rpadN B = (119 - B.length % 64) % 64 := rfl
 refine w_seq ?_
 refine g_reg hP hn ?_
 refine s_op k_al ?_
 refine s_nil trivial ?_
 refine n_wp ?_
 refine w_seq ?_
 refine w_weak (H' := [some ⟨true, [.ints .u8 32 (z 32)]⟩, some ⟨true, [.ints .u8 0 []]⟩]) (weak_new (segs := [.ints .u8 0 []]) rfl) ?_
 refine g_reg hP hn ?_
 refine s_op k_mv ?_
 refine s_op (k_apn 1) ?_
 refine s_op k_bsf ?_
 refine s_op (k_apg (hbig := by show B.length + 1 ≤ 1000000; omega) (c := B.length + 1) (l' := padZ B 0) (hc := by rfl) (hl' := by exact (by rw [List.take_of_length_le (Nat.le_refl _), padZ, List.replicate_zero, List.append_nil])) (hq := by exact Nat.le_refl _)) ?_
 refine s_op k_as ?_
 refine s_nil trivial ?_
 refine n_wp ?_
 refine w_seq ?_
 refine w_block ?_
 refine c_loop (fun m_ T H => ∃ k : Nat, k ≤ rpadN B ∧ m_ = rpadN B - k ∧ T = [(0, .s (.fzi .u8 B)), (2, .s (.ptr 0 0 0)), (3, .s (.gro 1 1 (B.length + 1 + k)))] ∧ H = [some ⟨true, [.ints .u8 32 (z 32)]⟩, some ⟨true, [.ints .u8 (B.length + 1 + k) (padZ B k)]⟩]) (rpadN B) ⟨0, Nat.zero_le _, rfl, rfl, rfl⟩ (wk hE [0, 4]) ?_
 rintro n_ T_ H_ ⟨k, hk, rfl, rfl, rfl⟩
 refine w_seq ?_
 refine w_seq ?_
 refine g_reg hP hn ?_
 refine s_op k_mv ?_
 refine s_op k_len ?_
 refine s_op k_rem ?_
 refine s_op k_neq ?_
 refine s_nil trivial ?_
 refine n_wp ?_
 refine w_if rfl (fun h_t18 => ?_) (fun h_t18 => ?_)
 · skip
   have hk2 : k < rpadN B := by rw [hpn]; rw [hpn] at hk; omega
   refine w_skip ?_
   refine n_wp ?_
   refine w_block ?_
   refine g_reg hP hn ?_
   refine s_op k_mv ?_
   refine s_op k_bsf ?_
   refine s_op (k_apg (hl := by rw [padZ_len]) (hbig := by show B.length + 1 + k + 1 ≤ 1000000; have := rpadN_le B; omega) (c := B.length + 1 + (k + 1)) (l' := padZ B (k + 1)) (hc := by rfl) (hl' := by exact padZ_s B k) (hq := by exact Nat.le_refl _)) ?_
   refine s_op k_as ?_
   refine s_nil trivial ?_
   refine n_blo ?_
   exact n_round (rpadN B - (k + 1)) (by omega) ⟨k + 1, by omega, rfl, rfl, rfl⟩ (wk hE [0, 3])
 · skip
   have hke : k = rpadN B := by rw [hpn]; rw [hpn] at hk; omega
   subst hke
   refine w_exit ?_
   refine x_thn ?_
   refine x_thn ?_
   refine x_eq ?_
   refine n_wp ?_
   refine w_seq ?_
   refine g_reg hP hn ?_
   refine s_op k_mv ?_
   refine s_op k_len ?_
   refine s_op k_cv ?_
   refine s_op k_mul ?_
   refine s_op k_as ?_
   refine s_nil trivial ?_
   refine n_wp ?_
   refine w_seq ?_
   refine w_seq ?_
   refine g_reg hP hn ?_
   refine s_op k_as ?_
   refine s_nil trivial ?_
   refine n_wp ?_
   refine w_block ?_
   refine c_loop (fun m_ T H => ∃ i : Nat, i ≤ 8 ∧ m_ = 8 - i ∧ T = [(2, .s (.ptr 0 0 0)), (3, .s (.gro 1 1 ((B.length + 1 + rpadN B) + i))), (4, .s (.int .u64 (((8 * B.length) : Nat) : Int))), (5, .s (.int .i64 ((i : Nat) : Int)))] ∧ H = [some ⟨true, [.ints .u8 32 (z 32)]⟩, some ⟨true, [.ints .u8 ((B.length + 1 + rpadN B) + i) (padZ B (rpadN B) ++ (be 8 (8 * B.length)).take i)]⟩]) (8) ⟨0, by omega, rfl, rfl, by rw [List.take_zero, List.append_nil]⟩ (wk hE [0, 1]) ?_
   rintro n_ T_ H_ ⟨i, hi, rfl, rfl, rfl⟩
   refine w_seq ?_
   refine w_seq ?_
   refine g_reg hP hn ?_
   refine s_op k_mv ?_
   refine s_op k_lss ?_
   refine s_nil trivial ?_
   refine n_wp ?_
   refine w_if rfl (fun h_t27 => ?_) (fun h_t27 => ?_)
   · skip
     refine w_skip ?_
     refine n_wp ?_
     refine w_seq ?_
     refine w_block ?_
     refine g_reg hP hn ?_
     refine s_op k_mv ?_
     refine s_op k_mv ?_
     refine s_op k_mv ?_
     refine s_op k_mul ?_
     refine s_op (k_sub (by exact l_bin rfl rfl (b_sub (r := ((56 - 8 * i : Nat) : Int)) (by rw [wrap_i64 (by omega)]; omega)))) ?_
     refine s_op k_shr ?_
     refine s_op (k_cv (by exact a_conv rfl (be8_s (8 * B.length) i (by omega)))) ?_
     refine s_op k_bsf ?_
     refine s_op (k_apg (hl := by rw [List.length_append, padZ_len, List.length_take, be_len]; omega) (hbig := by show (B.length + 1 + rpadN B) + i + 1 ≤ 1000000; have := rpadN_le B; omega) (c := (B.length + 1 + rpadN B) + (i + 1)) (l' := padZ B (rpadN B) ++ (be 8 (8 * B.length)).take (i + 1)) (hc := by rfl) (hl' := by exact padB_s _ _ i _ (padZ_len _ _) (by rw [be_len]; omega)) (hq := by exact Nat.le_refl _)) ?_
     refine s_op k_as ?_
     refine s_nil trivial ?_
     refine n_blo ?_
     refine n_wp ?_
     refine g_reg hP hn ?_
     refine s_op k_mv ?_
     refine s_op k_add ?_
     refine s_op k_as ?_
     refine s_nil trivial ?_
     exact n_round (8 - (i + 1)) (by omega) ⟨i + 1, by omega, rfl, rfl, rfl⟩ (wk hE [0, 3])
   · skip
     obtain rfl : i = 8 := by omega
     have hAe : padZ B (rpadN B) ++ (be 8 (8 * B.length)).take 8 = rpad B := by rw [List.take_of_length_le (by rw [be_len]; exact Nat.le_refl _)]; rfl
     rw [hAe]
     have hAl := rpad_len B
     have hAu := U8'_rpad B hu
     have hLA : (B.length + 1 + rpadN B) + 8 = (rpad B).length := by rw [← hAe, List.length_append, padZ_len, List.length_take, be_len]; rfl
     rw [hLA]
     unfold rsumL
     generalize rpad B = A at *
     generalize hQ : B.length + 1 + rpadN B + 8 = Q at *
     have hq64 : A.length = 64 * (A.length / 64) := by omega
     refine w_exit ?_
     refine x_thn ?_
     refine x_thn ?_
     refine x_eq ?_
     refine n_wp ?_
     refine w_seq ?_
     refine w_weak (frz_gro 3 (l' := A) (hn := Nat.le_refl _) (hl := rfl) (hl' := List.take_length)) ?_
     refine g_reg hP hn ?_
     refine s_op (k_bd (by exact a_buildK S0 rfl rfl rfl)) ?_
     refine s_op k_al ?_
     refine s_st k_st ?_
     refine s_nil trivial ?_
     refine n_wp ?_
     refine w_seq ?_
     refine g_reg hP hn ?_
     refine s_op (k_call [] (con := table_c)) ?_
     refine s_op k_as ?_
     refine s_nil trivial ?_
     refine n_wp ?_
     refine w_seq ?_
     refine w_seq ?_
     refine g_reg hP hn ?_
     refine s_op k_as ?_
     refine s_nil trivial ?_
     refine n_wp ?_
     refine w_block ?_
     refine c_loop (fun m_ T H => ∃ k : Nat, k ≤ A.length / 64 ∧ m_ = A.length / 64 - k ∧ T = [(2, .s (.ptr 0 0 0)), (3, .s (.fzi .u8 A)), (6, .s (.ptr 1 0 0)), (7, .s (.fzi .u32 KS)), (8, .s (.int .i64 ((64 * k : Nat) : Int)))] ∧ H = [some ⟨true, [.ints .u8 32 (z 32)]⟩, some ⟨true, [.ints .u32 8 (rfb A k)]⟩]) (A.length / 64) ⟨0, Nat.zero_le _, rfl, rfl, by rw [show rfb A 0 = S0 by unfold rfb; rfl]⟩ (wk hE [0, 2]) ?_
     rintro n_ T_ H_ ⟨k, hk, rfl, rfl, rfl⟩
     refine w_seq ?_
     refine w_seq ?_
     refine g_reg hP hn ?_
     refine s_op k_mv ?_
     refine s_op k_mv ?_
     refine s_op k_len ?_
     refine s_op k_lss ?_
     refine s_nil trivial ?_
     refine n_wp ?_
     refine w_if rfl (fun h_t44 => ?_) (fun h_t44 => ?_)
     · skip
       have hk64 : 64 * k < A.length := h_t44
       refine w_skip ?_
       refine n_wp ?_
       refine w_seq ?_
       refine w_block ?_
       have hcl : ((A.drop (64 * k)).take 64).length = 64 := by rw [List.length_take, List.length_drop]; omega
       have hcu : U8' ((A.drop (64 * k)).take 64) := U8'_take (U8'_drop hAu _) _
       refine g_any hP hn ?_
       refine s_op k_ld ?_
       refine s_op k_mv ?_
       refine s_op k_mv ?_
       refine s_op k_mv ?_
       refine s_op k_add ?_
       refine s_op k_sl ?_
       refine s_op k_mv ?_
       refine s_op (k_call [] (con := rblk_a _ _ (rfb_len _ _) hcl hcu)) ?_
       refine s_st k_st ?_
       refine s_nil (by kernel_rfl) ?_
       refine n_blo ?_
       refine n_wp ?_
       refine g_reg hP hn ?_
       refine s_op k_mv ?_
       refine s_op k_add ?_
       refine s_op k_as ?_
       refine s_nil trivial ?_
       rw [← show rfb A (k + 1) = aft (rfb A k) ((A.drop (64 * k)).take 64) by rw [rfb]]
       exact n_round (A.length / 64 - (k + 1)) (by omega) ⟨k + 1, by omega, rfl, rfl, rfl⟩ (wk hE [0, 1])
     · skip
       obtain rfl : k = A.length / 64 := by omega
       have hSl := rfb_len A (A.length / 64)
       generalize rfb A (A.length / 64) = s at *
       refine w_exit ?_
       refine x_thn ?_
       refine x_thn ?_
       refine x_eq ?_
       refine n_wp ?_
       refine w_seq ?_
       refine g_reg hP hn ?_
       refine s_op k_al ?_
       refine s_nil trivial ?_
       refine n_wp ?_
       refine w_seq ?_
       refine w_seq ?_
       refine g_reg hP hn ?_
       refine s_op k_as ?_
       refine s_nil trivial ?_
       refine n_wp ?_
       refine w_block ?_
       refine c_loop (fun m_ T H => ∃ i : Nat, i ≤ 32 ∧ m_ = 32 - i ∧ T = [(2, .s (.ptr 0 0 0)), (6, .s (.ptr 1 0 0)), (9, .s (.ptr 2 0 0)), (10, .s (.int .i64 ((i : Nat) : Int)))] ∧ H = [some ⟨true, [.ints .u8 32 (z 32)]⟩, some ⟨true, [.ints .u32 8 s]⟩, some ⟨true, [.ints .u8 32 (rob s i)]⟩]) (32) ⟨0, by omega, rfl, rfl, by rw [show rob s 0 = z 32 by unfold rob; rfl]⟩ (wk hE [0, 1, 2]) ?_
       rintro n_ T_ H_ ⟨i, hi, rfl, rfl, rfl⟩
       refine w_seq ?_
       refine w_seq ?_
       refine g_reg hP hn ?_
       refine s_op k_mv ?_
       refine s_op k_lss ?_
       refine s_nil trivial ?_
       refine n_wp ?_
       refine w_if rfl (fun h_t56 => ?_) (fun h_t56 => ?_)
       · skip
         have hrl := rob_len s i
         refine w_skip ?_
         refine n_wp ?_
         refine w_seq ?_
         refine w_block ?_
         refine g_reg hP hn ?_
         refine s_op k_mv ?_
         refine s_op k_mv ?_
         refine s_op k_quo ?_
         refine s_op k_ix ?_
         refine s_op k_ld ?_
         refine s_op k_mv ?_
         refine s_op k_rem ?_
         refine s_op k_mul ?_
         refine s_op (k_sub (by exact l_bin rfl rfl (b_sub (r := ((24 - 8 * (i % 4) : Nat) : Int)) (by rw [wrap_i64 (by omega)]; omega)))) ?_
         refine s_op k_shr ?_
         refine s_op (k_cv (by exact a_conv rfl rfl)) ?_
         refine s_op k_ix ?_
         refine s_st k_st ?_
         refine s_nil trivial ?_
         refine n_blo ?_
         refine n_wp ?_
         refine g_reg hP hn ?_
         refine s_op k_mv ?_
         refine s_op k_add ?_
         refine s_op k_as ?_
         refine s_nil trivial ?_
         rw [← show rob s (i + 1) = (rob s i).set i (IntKind.u8.wrap (shrK .u32 (s.getD (i / 4) 0) ((24 - 8 * (i % 4) : Nat) : Int))) by rw [rob]]
         exact n_round (32 - (i + 1)) (by omega) ⟨i + 1, by omega, rfl, rfl, rfl⟩ (wk hE [0, 1, 2])
       · skip
         obtain rfl : i = 32 := by omega
         refine w_exit ?_
         refine x_thn ?_
         refine x_thn ?_
         refine x_eq ?_
         refine n_wp ?_
         refine w_seq ?_
         refine g_reg hP hn ?_
         refine s_op k_ld ?_
         refine s_st k_st ?_
         refine s_nil trivial ?_
         refine n_wp ?_
         refine w_ret ?_
         exact d_ret hP hn hE [] (r_cell Tryz.results156)

end Go.Proofs.X
end

section
open Go Go.Bx Go.Proofs
namespace Go.Proofs.X
set_option maxRecDepth 100000 in
set_option maxHeartbeats 4000000 in
theorem backward_c (ws : List Int) : Con Tryz.prog 167 [.s (.fzi .u64 ws)] [] (.s (.clo 172 1 (capF [.ptr 0 0 0]))) [some ⟨true, [.one (.fzi .u64 ws)]⟩] := by
 refine con_in 4 Tryz.func167 rfl rfl (m := 0) rfl ?_
 intro E hP hn hE
 refine w_seq ?_
 refine g_reg hP hn ?_
 refine s_op k_bx ?_
 refine s_op k_as ?_
 refine s_nil trivial ?_
 refine n_wp ?_
 refine w_seq ?_
 refine g_reg hP hn ?_
 refine s_op (k_fn [.ptr 0 0 0]) ?_
 refine s_op k_as ?_
 refine s_nil trivial ?_
 refine n_wp ?_
 refine w_ret ?_
 exact d_ret hP hn hE [] (by first | exact r_tmp Tryz.results167 | exact r_tmpa Tryz.results167)

set_option maxRecDepth 100000 in
set_option maxHeartbeats 4000000 in
theorem back_iter {E : Env} (hPE : E.P = Tryz.prog) {n : Nat} (hnE : E.n = n) (bx : Nat) (ws : List Int) (a b : Nat) (ha : a < n) (hb : b < n) (assign body : Code) (T : Tm) (Hs : Nat → Heap) (hws : ws.length ≤ 1000000) (hbx : ∀ k, k ≤ ws.length → hget (Hs k) bx = some ⟨true, [.one (.fzi .u64 ws)]⟩)
    (hY : ∀ k, k < ws.length → YRound Tryz.prog n assign body (roundT [a, b] [.s (.int .i64 ((ws.length : Int) - 1 - k)), .s (.int .u64 (ws.getD (ws.length - 1 - k) 0))] T) (Hs k) (Hs (k + 1))) : Iter E 172 1 (capF [.ptr bx 0 0]) #[a, b] assign body T (Hs 0) (Hs ws.length) := by
 intro l D ρ W tm w1 fn vs hH hd hT htm hW hl hvs
 rw [hPE]
 have hps : ∀ p ∈ (#[a, b] : Array Tmp).toList, p < n := by
  intro p hp
  simp at hp
  rcases hp with rfl | rfl <;> assumption
 refine calls_none (args := [.s (.val (.func (.yield l) #[] #[])), .s (.ptr bx 0 0)]) 19 Tryz.func172 rfl rfl Tryz.results172 (Nat.le_of_ble_eq_true rfl) hH hd hW ⟨by simp [hvs.1], fun i x hx => ?_⟩ (fun E2 hP hn hE hw0 hρ0 => ?_)
 · match i, hx with
   | 0, hx =>
    simp at hx; subst hx
    refine ⟨?_, rfl⟩
    rw [Array.getD_eq_getD_getElem?, Array.getElem?_append_left (by simp)]; rfl
   | 1, hx =>
    simp at hx; subst hx
    obtain ⟨u, e1, e2⟩ := hvs.2 0 (by omega)
    have : (#[Value.func (.yield l) #[] #[]] ++ vs).getD 1 undef = u := by
     rw [Array.getD_eq_getD_getElem?, Array.getElem?_append_right (by simp)]
     simp [e1]
    rw [this]; exact e2
   | i + 2, hx => simp at hx
 refine i_seq ?_
 refine ig_reg hP hn ?_
 refine s_op (k_ld (by exact a_load_one rfl (hbx 0 (Nat.zero_le _)) rfl)) ?_
 refine s_op k_len ?_
 refine s_op (k_sub (by exact l_bin rfl rfl (b_sub (wrap_i64 (by omega))))) ?_
 refine s_op k_as ?_
 refine s_nil trivial ?_
 refine ni_wp ?_
 refine i_block ?_
 refine i_loop (fun m T H => ∃ (k : Nat) (z : Int), k ≤ ws.length ∧ m = ws.length - k ∧ z = (ws.length : Int) - 1 - k ∧ T = [(0, .s (.val (.func (.yield l) #[] #[]))), (1, .s (.ptr bx 0 0)), (3, .s (.int .i64 z))] ∧ H = Hs k) ws.length ⟨0, (ws.length : Int) - 1, by omega, rfl, by omega, rfl, rfl⟩ weak_tm ?_
 rintro n_ T_ H_ ⟨k, z, hk, rfl, hz, rfl, rfl⟩
 refine i_seq ?_
 refine i_seq ?_
 refine ig_reg hP hn ?_
 refine s_op k_mv ?_
 refine s_op (k_geq (by exact l_bin rfl rfl (b_geq rfl))) ?_
 refine s_nil trivial ?_
 refine ni_wp ?_
 refine iw_if rfl (fun h8 => ?_) (fun h8 => ?_)
 · skip
   have hlt : k < ws.length := by omega
   have hzn : z = ((ws.length - 1 - k : Nat) : Int) := by omega
   refine i_skip ?_
   refine ni_wp ?_
   refine i_seq ?_
   refine i_block ?_
   refine i_seq ?_
   refine i_regY 6 (by rw [hn]; kernel_rfl) (by kernel_rfl) rfl rfl rfl rfl ?_
   rw [hP]
   refine s_op k_mv ?_
   refine s_op k_mv ?_
   refine s_op (k_ld (by exact a_load_one rfl (hbx k hk) rfl)) ?_
   refine s_op k_mv ?_
   refine s_op (k_ix (by exact a_ixi (hj := ⟨hzn⟩) rfl rfl (by omega))) ?_
   refine s_op (k_ld (by exact a_loadf rfl (by omega) rfl)) ?_
   refine s_nil trivial ?_
   refine ⟨[(17, .s (.bool true)), (0, .s (.val (.func (.yield l) #[] #[]))), (1, .s (.ptr bx 0 0)), (3, .s (.int .i64 z))], Hs (k + 1), fun aa ww hr K Q' hK => ?_, ?_⟩
   · rw [← hP]
     exact yield_op (E := E2) (n := n) (D := D) (tm := tm) (fn := fn) (avs := [.s (.int .i64 z), .s (.int .u64 (ws.getD (ws.length - 1 - k) 0))]) (ps := #[a, b]) (Trow := T) (l := l) (H' := Hs (k + 1)) (assign := assign) (body := body) (by exact rfl) (by exact rfl) (by rw [hn]; kernel_rfl) (by rw [hw0]; exact hl) (by rw [hρ0]; exact hT) (htm.trans hnE) hps rfl (by rw [hP, hz]; exact hY k hlt) aa ww hr K Q' (fun a' w' hr' => hK a' w' ((weak_tm : Weak E2 _ _ _ _) a' w' hr'))
   refine s_op k_not ?_
   refine s_nil trivial ?_
   refine ni_wp ?_
   refine iw_F rfl ?_
   refine i_skip ?_
   refine n_blo ?_
   refine ni_wp ?_
   refine ig_reg hP hn ?_
   refine s_op k_mv ?_
   refine s_op (k_sub (by exact l_bin rfl rfl (b_sub (wrap_i64 (by omega))))) ?_
   refine s_op k_as ?_
   refine s_nil trivial ?_
   exact ⟨ws.length - (k + 1), by omega, _, _, weak_tm, k + 1, z - 1, by omega, rfl, by omega, rfl, rfl⟩
 · skip
   have hk2 : k = ws.length := by omega
   subst hk2
   refine i_exit ?_
   refine x_thn ?_
   refine x_thn ?_
   refine x_eq ?_
   exact ⟨.inr rfl, weak_tm⟩

abbrev RH (each tot at_ : Nat) (out ws : List Int) : Heap := [some ⟨true, [.one (.int .i64 ((each : Nat) : Int))]⟩, some ⟨true, [.ints .u8 tot out]⟩, some ⟨true, [.one (.slice 1 0 0 tot tot)]⟩, some ⟨true, [.one (.int .i64 ((at_ : Nat) : Int))]⟩, some ⟨true, [.one (.fzi .u64 ws)]⟩]
set_option maxRecDepth 100000 in
set_option maxHeartbeats 4000000 in
theorem row1_c (B ws : List Int) (each tot : Nat) (ht : tot = B.length + each * ws.length) (htb : tot ≤ 140737488355328) (hws : ws.length ≤ 1000000) (h0 : 0 < B.length) : Con Tryz.prog 155 [.s (.fzi .u8 B), .s (.int .i64 ((each : Nat) : Int)), .s (.fzi .u64 ws)] [] (.s (.fzi .u8 (spl (rr tot each ws.length ws ws.length) (B.take B.length) 0 B.length tot))) [] := by
 refine con_inF 44 Tryz.func155 rfl rfl (m := 0) rfl ?_
 intro E hP hn hE hF
 refine w_seq ?_
 refine g_reg hP hn ?_
 refine s_op k_bx ?_
 refine s_op k_as ?_
 refine s_nil trivial ?_
 refine n_wp ?_
 refine w_seq ?_
 refine g_reg hP hn ?_
 refine s_op k_mv ?_
 refine s_op k_len ?_
 refine s_op k_ld ?_
 refine s_op k_mv ?_
 refine s_op k_len ?_
 refine s_op k_mul ?_
 refine s_op (k_add (by exact l_bin rfl rfl (b_add (r := ((tot : Nat) : Int)) (by rw [ht]; exact m_add (by omega))))) ?_
 refine s_op k_mk ?_
 refine s_op k_al ?_
 refine s_st k_st ?_
 refine s_nil trivial ?_
 refine n_wp ?_
 refine w_seq ?_
 refine g_reg hP hn ?_
 refine s_op k_ld ?_
 refine s_op k_len ?_
 refine s_op k_al ?_
 refine s_st k_st ?_
 refine s_nil trivial ?_
 refine n_wp ?_
 refine w_seq ?_
 refine w_seq ?_
 refine g_reg hP hn ?_
 refine s_op k_mv ?_
 refine s_op (k_call [] (con := backward_c _)) ?_
 refine s_nil trivial ?_
 refine n_wp ?_
 refine w_block ?_
 have hmul : each * ws.length ≤ tot := by omega
 refine w_weak (weak_tm (T' := [(0, .s (.fzi .u8 B)), (4, .s (.ptr 0 0 0)), (7, .s (.ptr 2 0 0)), (8, .s (.ptr 3 0 0)), (22, .s (.clo 172 1 (capF [.ptr 4 0 0])))])) ?_
 refine w_rangeFunc (gf := 172) (n := 1) (q := capF [.ptr 4 0 0]) (Hend := RH each tot (tot - each * ws.length) (rr tot each ws.length ws ws.length) ws) hF rfl (by rw [hP]; exact Clb.h) (Nat.le_refl _) (back_iter hP hn 4 ws 23 24 (by decide) (by decide) _ _ _ (fun k => RH each tot (tot - each * k) (rr tot each ws.length ws k) ws) hws (fun _ _ => rfl) (fun k hk => ?_)) ?_
 · have hk1 : each * (k + 1) ≤ each * ws.length := Nat.mul_le_mul_left each hk
   have hnx : tot - each * (k + 1) = tot - each * k - each := by rw [Nat.mul_succ]; omega
   have hA1 : each ≤ tot - each * k := by rw [Nat.mul_succ] at hk1; omega
   have hA2 : tot - each * k ≤ tot := Nat.sub_le _ _
   show YRound _ _ _ _ _ (RH each tot (tot - each * k) (rr tot each ws.length ws k) ws) (RH each tot (tot - each * (k + 1)) (rb (rr tot each ws.length ws k) (tot - each * k) (ws.getD (ws.length - 1 - k) 0) each).1 ws)
   rw [hnx]
   have hout := rr_len tot each ws.length ws k
   generalize tot - each * k = A at *
   generalize rr tot each ws.length ws k = out at *
   generalize ws.getD (ws.length - 1 - k) 0 = v at *
   refine ⟨Nat.le_refl _, [(4, .s (.ptr 0 0 0)), (7, .s (.ptr 2 0 0)), (8, .s (.ptr 3 0 0)), (10, .s (.int .u64 v))], fun l E hP hn hE => ⟨?_, ?_⟩⟩
   · skip
     refine ig_reg hP hn ?_
     refine s_op k_as ?_
     refine s_nil trivial ?_
     exact ⟨rfl, weak_tm⟩
   · skip
     refine i_block ?_
     refine i_seq ?_
     refine ig_reg hP hn ?_
     refine s_op k_ld ?_
     refine s_op k_mv ?_
     refine s_nil trivial ?_
     refine ni_wp ?_
     refine i_block ?_
     refine i_loop (fun m T H => ∃ j, j ≤ each ∧ m = each - j ∧ T = [(4, .s (.ptr 0 0 0)), (7, .s (.ptr 2 0 0)), (8, .s (.ptr 3 0 0)), (10, .s (.int .u64 (rb out A v j).2)), (25, .s (.int .i64 ((each : Nat) : Int))), (26, .s (.int .i64 ((j : Nat) : Int)))] ∧ H = RH each tot (A - j) (rb out A v j).1 ws) (each) ⟨0, by omega, rfl, rfl, rfl⟩ weak_tm ?_
     rintro n_ T_ H_ ⟨j, hj, rfl, rfl, rfl⟩
     have hlj : (rb out A v j).1.length = tot := (rb_len out A v j).trans hout
     refine i_seq ?_
     refine ig_reg hP hn ?_
     refine s_op k_lss ?_
     refine s_nil trivial ?_
     refine ni_wp ?_
     refine i_seq ?_
     refine iw_if rfl (fun h_t27 => ?_) (fun h_t27 => ?_)
     · skip
       refine i_skip ?_
       refine ni_wp ?_
       refine i_seq ?_
       refine i_block ?_
       refine i_seq ?_
       refine ig_reg hP hn ?_
       refine s_op k_ld ?_
       refine s_op k_sub ?_
       refine s_st k_st ?_
       refine s_nil trivial ?_
       refine ni_wp ?_
       refine ig_reg hP hn ?_
       refine s_op k_ld ?_
       refine s_op k_ld ?_
       refine s_op k_mv ?_
       refine s_op k_cv ?_
       refine s_op k_mv ?_
       refine s_op (k_quo (by exact l_bin rfl rfl (b_quo (by decide) rfl))) ?_
       refine s_op k_ix ?_
       refine s_st k_st ?_
       refine s_op k_as ?_
       refine s_nil trivial ?_
       refine n_blo ?_
       refine ni_wp ?_
       refine ig_reg hP hn ?_
       refine s_op k_add ?_
       refine s_op k_mv ?_
       refine s_nil trivial ?_
       exact n_round (each - (j + 1)) (by omega) ⟨j + 1, by omega, rfl, rfl, rfl⟩ weak_tm
     · skip
       have hje : j = each := by omega
       subst hje
       refine i_exit ?_
       refine x_thn ?_
       refine x_thn ?_
       refine x_eq ?_
       refine n_blo ?_
       exact ⟨rfl, weak_tm⟩
 have hat : tot - each * ws.length = B.length := by omega
 rw [hat]
 refine n_blo ?_
 refine n_wp ?_
 refine w_seq ?_
 refine g_reg hP hn ?_
 refine s_op k_ld ?_
 refine s_op k_ld ?_
 refine s_op k_sl ?_
 refine s_op k_mv ?_
 refine s_op (k_cpn B.length) ?_
 refine s_nil trivial ?_
 refine n_wp ?_
 refine w_seq ?_
 refine g_reg hP hn ?_
 refine s_op k_ld ?_
 refine s_op k_as ?_
 refine s_nil trivial ?_
 refine n_wp ?_
 refine w_ret ?_
 have HL : (spl (rr tot each ws.length ws ws.length) (B.take B.length) 0 B.length tot).length = tot := spl_len _ _ _ _ _
 exact d_retw hP hn (r_tmp Tryz.results155) ((frz_sl 0 (l' := spl (rr tot each ws.length ws ws.length) (B.take B.length) 0 B.length tot) (hl := HL) (hl' := by rw [List.drop_zero]; exact List.take_of_length_le (Nat.le_of_eq HL))).trans (wk hE []))

set_option maxRecDepth 100000 in
set_option maxHeartbeats 4000000 in
theorem row0_c (B ws : List Int) (each tot : Nat) (ht : tot = B.length + each * ws.length) (htb : tot ≤ 140737488355328) (hws : ws.length ≤ 1000000) (h0 : B.length = 0) : Con Tryz.prog 155 [.s (.fzi .u8 B), .s (.int .i64 ((each : Nat) : Int)), .s (.fzi .u64 ws)] [] (.s (.fzi .u8 (rr tot each ws.length ws ws.length))) [] := by
 refine con_inF 44 Tryz.func155 rfl rfl (m := 0) rfl ?_
 intro E hP hn hE hF
 refine w_seq ?_
 refine g_reg hP hn ?_
 refine s_op k_bx ?_
 refine s_op k_as ?_
 refine s_nil trivial ?_
 refine n_wp ?_
 refine w_seq ?_
 refine g_reg hP hn ?_
 refine s_op k_mv ?_
 refine s_op k_len ?_
 refine s_op k_ld ?_
 refine s_op k_mv ?_
 refine s_op k_len ?_
 refine s_op k_mul ?_
 refine s_op (k_add (by exact l_bin rfl rfl (b_add (r := ((tot : Nat) : Int)) (by rw [ht]; exact m_add (by omega))))) ?_
 refine s_op k_mk ?_
 refine s_op k_al ?_
 refine s_st k_st ?_
 refine s_nil trivial ?_
 refine n_wp ?_
 refine w_seq ?_
 refine g_reg hP hn ?_
 refine s_op k_ld ?_
 refine s_op k_len ?_
 refine s_op k_al ?_
 refine s_st k_st ?_
 refine s_nil trivial ?_
 refine n_wp ?_
 refine w_seq ?_
 refine w_seq ?_
 refine g_reg hP hn ?_
 refine s_op k_mv ?_
 refine s_op (k_call [] (con := backward_c _)) ?_
 refine s_nil trivial ?_
 refine n_wp ?_
 refine w_block ?_
 have hmul : each * ws.length ≤ tot := by omega
 refine w_weak (weak_tm (T' := [(0, .s (.fzi .u8 B)), (4, .s (.ptr 0 0 0)), (7, .s (.ptr 2 0 0)), (8, .s (.ptr 3 0 0)), (22, .s (.clo 172 1 (capF [.ptr 4 0 0])))])) ?_
 refine w_rangeFunc (gf := 172) (n := 1) (q := capF [.ptr 4 0 0]) (Hend := RH each tot (tot - each * ws.length) (rr tot each ws.length ws ws.length) ws) hF rfl (by rw [hP]; exact Clb.h) (Nat.le_refl _) (back_iter hP hn 4 ws 23 24 (by decide) (by decide) _ _ _ (fun k => RH each tot (tot - each * k) (rr tot each ws.length ws k) ws) hws (fun _ _ => rfl) (fun k hk => ?_)) ?_
 · have hk1 : each * (k + 1) ≤ each * ws.length := Nat.mul_le_mul_left each hk
   have hnx : tot - each * (k + 1) = tot - each * k - each := by rw [Nat.mul_succ]; omega
   have hA1 : each ≤ tot - each * k := by rw [Nat.mul_succ] at hk1; omega
   have hA2 : tot - each * k ≤ tot := Nat.sub_le _ _
   show YRound _ _ _ _ _ (RH each tot (tot - each * k) (rr tot each ws.length ws k) ws) (RH each tot (tot - each * (k + 1)) (rb (rr tot each ws.length ws k) (tot - each * k) (ws.getD (ws.length - 1 - k) 0) each).1 ws)
   rw [hnx]
   have hout := rr_len tot each ws.length ws k
   generalize tot - each * k = A at *
   generalize rr tot each ws.length ws k = out at *
   generalize ws.getD (ws.length - 1 - k) 0 = v at *
   refine ⟨Nat.le_refl _, [(4, .s (.ptr 0 0 0)), (7, .s (.ptr 2 0 0)), (8, .s (.ptr 3 0 0)), (10, .s (.int .u64 v))], fun l E hP hn hE => ⟨?_, ?_⟩⟩
   · skip
     refine ig_reg hP hn ?_
     refine s_op k_as ?_
     refine s_nil trivial ?_
     exact ⟨rfl, weak_tm⟩
   · skip
     refine i_block ?_
     refine i_seq ?_
     refine ig_reg hP hn ?_
     refine s_op k_ld ?_
     refine s_op k_mv ?_
     refine s_nil trivial ?_
     refine ni_wp ?_
     refine i_block ?_
     refine i_loop (fun m T H => ∃ j, j ≤ each ∧ m = each - j ∧ T = [(4, .s (.ptr 0 0 0)), (7, .s (.ptr 2 0 0)), (8, .s (.ptr 3 0 0)), (10, .s (.int .u64 (rb out A v j).2)), (25, .s (.int .i64 ((each : Nat) : Int))), (26, .s (.int .i64 ((j : Nat) : Int)))] ∧ H = RH each tot (A - j) (rb out A v j).1 ws) (each) ⟨0, by omega, rfl, rfl, rfl⟩ weak_tm ?_
     rintro n_ T_ H_ ⟨j, hj, rfl, rfl, rfl⟩
     have hlj : (rb out A v j).1.length = tot := (rb_len out A v j).trans hout
     refine i_seq ?_
     refine ig_reg hP hn ?_
     refine s_op k_lss ?_
     refine s_nil trivial ?_
     refine ni_wp ?_
     refine i_seq ?_
     refine iw_if rfl (fun h_t27 => ?_) (fun h_t27 => ?_)
     · skip
       refine i_skip ?_
       refine ni_wp ?_
       refine i_seq ?_
       refine i_block ?_
       refine i_seq ?_
       refine ig_reg hP hn ?_
       refine s_op k_ld ?_
       refine s_op k_sub ?_
       refine s_st k_st ?_
       refine s_nil trivial ?_
       refine ni_wp ?_
       refine ig_reg hP hn ?_
       refine s_op k_ld ?_
       refine s_op k_ld ?_
       refine s_op k_mv ?_
       refine s_op k_cv ?_
       refine s_op k_mv ?_
       refine s_op (k_quo (by exact l_bin rfl rfl (b_quo (by decide) rfl))) ?_
       refine s_op k_ix ?_
       refine s_st k_st ?_
       refine s_op k_as ?_
       refine s_nil trivial ?_
       refine n_blo ?_
       refine ni_wp ?_
       refine ig_reg hP hn ?_
       refine s_op k_add ?_
       refine s_op k_mv ?_
       refine s_nil trivial ?_
       exact n_round (each - (j + 1)) (by omega) ⟨j + 1, by omega, rfl, rfl, rfl⟩ weak_tm
     · skip
       have hje : j = each := by omega
       subst hje
       refine i_exit ?_
       refine x_thn ?_
       refine x_thn ?_
       refine x_eq ?_
       refine n_blo ?_
       exact ⟨rfl, weak_tm⟩
 have hat : tot - each * ws.length = B.length := by omega
 rw [hat]
 refine n_blo ?_
 refine n_wp ?_
 refine w_seq ?_
 refine g_reg hP hn ?_
 refine s_op k_ld ?_
 refine s_op k_ld ?_
 refine s_op k_sl ?_
 refine s_op k_mv ?_
 refine s_op a_copy0 ?_
 refine s_nil trivial ?_
 refine n_wp ?_
 refine w_seq ?_
 refine g_reg hP hn ?_
 refine s_op k_ld ?_
 refine s_op k_as ?_
 refine s_nil trivial ?_
 refine n_wp ?_
 refine w_ret ?_
 have HL : (rr tot each ws.length ws ws.length).length = tot := rr_len _ _ _ _ _
 exact d_retw hP hn (r_tmp Tryz.results155) ((frz_sl 0 (l' := rr tot each ws.length ws ws.length) (hl := HL) (hl' := by rw [List.drop_zero]; exact List.take_of_length_le (Nat.le_of_eq HL))).trans (wk hE []))

theorem row_c (B ws : List Int) (each tot : Nat) (ht : tot = B.length + each * ws.length) (htb : tot ≤ 140737488355328) (hws : ws.length ≤ 1000000) : Con Tryz.prog 155 [.s (.fzi .u8 B), .s (.int .i64 ((each : Nat) : Int)), .s (.fzi .u64 ws)] [] (.s (.fzi .u8 (rowL tot B B.length each ws.length ws))) [] := by
 unfold rowL
 by_cases h : B.length = 0
 · rw [if_pos h]; exact row0_c B ws each tot ht htb hws h
 · rw [if_neg h]; exact row1_c B ws each tot ht htb hws (by omega)

set_option maxRecDepth 100000 in
set_option maxHeartbeats 4000000 in
theorem put_c (B : List Int) (v : Int) (n : Nat) (hn8 : n ≤ 8) (hB : B.length ≤ 140737488355000) : Con Tryz.prog 97 [.s (.fzi .u8 B), .s (.int .u64 v), .s (.int .i64 ((n : Nat) : Int))] [] (.s (.fzi .u8 (rowL (B.length + n * 1) B B.length n 1 [v]))) [] := by
 refine con_in 14 Tryz.func97 rfl rfl (m := 0) rfl ?_
 intro E hP hn hE
 refine w_seq ?_
 refine g_reg hP hn ?_
 refine s_op k_as ?_
 refine s_nil trivial ?_
 refine n_wp ?_
 refine w_seq ?_
 refine g_reg hP hn ?_
 refine s_op k_mv ?_
 refine s_op k_mv ?_
 refine s_op (k_min (by exact l_min (r := ((n : Nat) : Int)) rfl rfl (by have := hn8; split <;> omega))) ?_
 refine s_op (k_max (by exact l_max (r := ((n : Nat) : Int)) rfl rfl (by split <;> omega))) ?_
 refine s_op k_mv ?_
 refine s_op k_bsf ?_
 refine s_op (k_call [] (con := row_c B [v] n (B.length + n * 1) rfl (by omega) (Nat.le_of_ble_eq_true rfl))) ?_
 refine s_op k_as ?_
 refine s_nil trivial ?_
 refine n_wp ?_
 refine w_ret ?_
 exact d_ret hP hn hE [] (by first | exact r_tmp Tryz.results97 | exact r_tmpa Tryz.results97)

end Go.Proofs.X
end

section
open Go Go.Bx Go.Proofs
namespace Go.Proofs.X
set_option maxRecDepth 100000 in
set_option maxHeartbeats 4000000 in
theorem rot_c (x k : Int) : Con Tryz.prog 180 [.s (.int .u32 x), .s (.int .i64 k)] [] (.s (.int .u32 (rotI x k))) [] := by
 refine con_in 17 Tryz.func180 rfl rfl (m := 0) rfl ?_
 intro E hP hn hE
 refine w_seq ?_
 refine g_reg hP hn ?_
 refine s_op k_as ?_
 refine s_nil trivial ?_
 refine n_wp ?_
 refine w_seq ?_
 refine g_reg hP hn ?_
 refine s_op k_mv ?_
 refine s_op (k_cv (by exact a_conv rfl rfl)) ?_
 refine s_op (k_and (by exact l_bin rfl rfl (b_and rfl))) ?_
 refine s_op k_as ?_
 refine s_nil trivial ?_
 refine n_wp ?_
 refine w_seq ?_
 refine g_reg hP hn ?_
 refine s_op k_mv ?_
 refine s_op k_mv ?_
 refine s_op (k_shl (by exact l_bin rfl rfl (b_shl (rs_nonneg _) rfl))) ?_
 refine s_op k_mv ?_
 refine s_op k_mv ?_
 refine s_op (k_sub (by exact l_bin rfl rfl (b_sub rfl))) ?_
 refine s_op (k_shr (by exact l_bin rfl rfl (b_shr (wrap_u64_nonneg _) rfl))) ?_
 refine s_op k_or ?_
 refine s_op k_as ?_
 refine s_nil trivial ?_
 refine n_wp ?_
 refine w_ret ?_
 exact d_ret hP hn hE [] (by first | exact r_tmp Tryz.results180 | exact r_tmpa Tryz.results180)

set_option maxRecDepth 100000 in
set_option maxHeartbeats 4000000 in
theorem down_c (x : Int) (ps : List Int) (hl : ps.length ≤ 64) : Con Tryz.prog 177 [.s (.int .u32 x), .s (.fzi .i64 ps)] [] (.s (.int .u32 (dnI x ps ps.length))) [] := by
 refine con_in 22 Tryz.func177 rfl rfl (m := 0) rfl ?_
 intro E hP hn hE
 refine w_seq ?_
 refine g_reg hP hn ?_
 refine s_op k_as ?_
 refine s_nil trivial ?_
 refine n_wp ?_
 refine w_seq ?_
 refine g_reg hP hn ?_
 refine s_op k_as ?_
 refine s_nil trivial ?_
 refine n_wp ?_
 refine w_seq ?_
 refine w_seq ?_
 refine g_reg hP hn ?_
 refine s_op k_mv ?_
 refine s_op k_len ?_
 refine s_op k_mv ?_
 refine s_nil trivial ?_
 refine n_wp ?_
 refine w_block ?_
 refine c_loop (fun m T H => ∃ i, i ≤ ps.length ∧ m = ps.length - i ∧ T = [(0, .s (.int .u32 x)), (5, .s (.int .u32 (dnI x ps i))), (8, .s (.fzi .i64 ps)), (9, .s (.int .i64 ((ps.length : Nat) : Int))), (10, .s (.int .i64 ((i : Nat) : Int)))] ∧ H = []) (ps.length) ⟨0, by omega, rfl, rfl, rfl⟩ (wk hE []) ?_
 rintro n_ T_ H_ ⟨i, hi, rfl, rfl, rfl⟩
 refine w_seq ?_
 refine g_reg hP hn ?_
 refine s_op k_lss ?_
 refine s_nil trivial ?_
 refine n_wp ?_
 refine w_seq ?_
 refine w_if rfl (fun h_t11 => ?_) (fun h_t11 => ?_)
 · skip
   refine w_skip ?_
   refine n_wp ?_
   refine w_seq ?_
   refine w_block ?_
   refine w_seq ?_
   refine g_reg hP hn ?_
   refine s_op k_ix ?_
   refine s_op k_ld ?_
   refine s_op k_as ?_
   refine s_nil trivial ?_
   refine n_wp ?_
   refine g_reg hP hn ?_
   refine s_op k_mv ?_
   refine s_op k_mv ?_
   refine s_op k_mv ?_
   refine s_op k_neg ?_
   refine s_op (k_call [] (con := rot_c _ _)) ?_
   refine s_op k_xor ?_
   refine s_op k_as ?_
   refine s_nil trivial ?_
   refine n_blo ?_
   refine n_wp ?_
   refine g_reg hP hn ?_
   refine s_op k_add ?_
   refine s_op k_mv ?_
   refine s_nil trivial ?_
   exact n_round (ps.length - (i + 1)) (by omega) ⟨i + 1, by omega, rfl, rfl, rfl⟩ (wk hE [])
 · skip
   have hi : i = ps.length := by omega
   subst hi
   refine w_exit ?_
   refine x_thn ?_
   refine x_thn ?_
   refine x_eq ?_
   refine n_wp ?_
   refine w_seq ?_
   refine g_reg hP hn ?_
   refine s_op k_mv ?_
   refine s_op k_as ?_
   refine s_nil trivial ?_
   refine n_wp ?_
   refine w_ret ?_
   exact d_ret hP hn hE [] (by first | exact r_tmp Tryz.results177 | exact r_tmpa Tryz.results177)

set_option maxRecDepth 100000 in
set_option maxHeartbeats 4000000 in
theorem get_c (B : List Int) (m : Nat) (h0 : 0 < m) (h8 : m ≤ 8) (hm : m ≤ B.length) : Con Tryz.prog 103 [.s (.fzi .u8 B), .s (.int .i64 ((m : Nat) : Int))] [] (.tup [.s (.int .u64 (getI B m)), .s (.int .i64 0)]) [] := by
 refine con_in 35 Tryz.func103 rfl rfl (m := 0) rfl ?_
 intro E hP hn hE
 refine w_seq ?_
 refine g_reg hP hn ?_
 refine s_op k_as ?_
 refine s_op k_as ?_
 refine s_nil trivial ?_
 refine n_wp ?_
 refine w_seq ?_
 refine w_seq ?_
 refine g_reg hP hn ?_
 refine s_op k_mv ?_
 refine s_op k_lss ?_
 refine s_op k_mv ?_
 refine s_on rfl rfl rfl k_mv ?_
 refine s_on rfl rfl rfl k_gtr ?_
 refine s_op k_pk ?_
 refine s_nil trivial ?_
 refine n_wp ?_
 refine w_F rfl ?_ 
 refine w_skip ?_
 refine n_wp ?_
 refine w_seq ?_
 refine w_seq ?_
 refine g_reg hP hn ?_
 refine s_op k_mv ?_
 refine s_op k_len ?_
 refine s_op k_mv ?_
 refine s_op k_lss ?_
 refine s_nil trivial ?_
 refine n_wp ?_
 refine w_F rfl ?_ 
 refine w_skip ?_
 refine n_wp ?_
 refine w_seq ?_
 refine g_reg hP hn ?_
 refine s_op k_al ?_
 refine s_nil trivial ?_
 refine n_wp ?_
 refine w_seq ?_
 refine g_reg hP hn ?_
 refine s_op k_mv ?_
 refine s_op k_sub ?_
 refine s_op k_sl ?_
 refine s_op k_mv ?_
 refine s_op (k_cpn m) ?_
 refine s_nil trivial ?_
 refine n_wp ?_
 refine w_seq ?_
 refine w_seq ?_
 refine g_reg hP hn ?_
 refine s_op k_mv ?_
 refine s_nil trivial ?_
 refine n_wp ?_
 refine w_block ?_
 refine c_loop (fun q T H => ∃ i, i ≤ 8 ∧ q = 8 - i ∧ T = [(4, .s (.int .u64 (gI (spl (z 8) (B.take m) (8 - m) m 8) i))), (6, .s (.ptr 0 0 0)), (23, .s (.int .i64 ((i : Nat) : Int)))] ∧ H = [some ⟨true, [.ints .u8 8 (spl (z 8) (B.take m) (8 - m) m 8)]⟩]) (8) ⟨0, by omega, rfl, rfl, rfl⟩ (wk hE []) ?_
 rintro n_ T_ H_ ⟨i, hi, rfl, rfl, rfl⟩
 refine w_seq ?_
 refine g_reg hP hn ?_
 refine s_op k_lss ?_
 refine s_nil trivial ?_
 refine n_wp ?_
 refine w_seq ?_
 refine w_if rfl (fun h_t24 => ?_) (fun h_t24 => ?_)
 · skip
   refine w_skip ?_
   refine n_wp ?_
   refine w_seq ?_
   refine w_block ?_
   refine w_seq ?_
   refine g_reg hP hn ?_
   refine s_op k_mv ?_
   refine s_op k_as ?_
   refine s_nil trivial ?_
   refine n_wp ?_
   refine g_reg hP hn ?_
   refine s_op k_mv ?_
   refine s_op k_mul ?_
   refine s_op k_mv ?_
   refine s_op k_ix ?_
   refine s_op k_ld ?_
   refine s_op k_cv ?_
   refine s_op k_add ?_
   refine s_op k_as ?_
   refine s_nil trivial ?_
   refine n_blo ?_
   refine n_wp ?_
   refine g_reg hP hn ?_
   refine s_op k_add ?_
   refine s_op k_mv ?_
   refine s_nil trivial ?_
   exact n_round (8 - (i + 1)) (by omega) ⟨i + 1, by omega, rfl, rfl, rfl⟩ (wk hE [])
 · skip
   have hi : i = 8 := by omega
   subst hi
   refine w_exit ?_
   refine x_thn ?_
   refine x_thn ?_
   refine x_eq ?_
   refine n_wp ?_
   refine w_seq ?_
   refine g_reg hP hn ?_
   refine s_op k_mv ?_
   refine s_op k_as ?_
   refine s_op k_as ?_
   refine s_nil trivial ?_
   refine n_wp ?_
   refine w_ret ?_
   exact d_ret hP hn hE [] (ret2 Tryz.results103 (by first | exact ri_tmp rfl | exact ri_tmpa rfl) (by first | exact ri_tmp rfl | exact ri_tmpa rfl))

set_option maxRecDepth 100000 in
set_option maxHeartbeats 4000000 in
theorem adds_c  : Con Tryz.prog 176 [] [] (.agg [.ints .u32 64 KS]) [] := by
 refine con_in 2 Tryz.func176 rfl rfl (m := 0) rfl ?_
 intro E hP hn hE
 refine w_seq ?_
 refine g_reg hP hn ?_
 refine s_op k_al ?_
 refine s_nil trivial ?_
 refine n_wp ?_
 refine w_seq ?_
 refine g_reg hP hn ?_
 refine s_op (k_bd (by exact a_buildK KS (by kernel_rfl) (by kernel_rfl) rfl)) ?_
 refine s_st k_st ?_
 refine s_nil trivial ?_
 refine n_wp ?_
 refine w_ret ?_
 exact d_ret hP hn hE [] (r_cell Tryz.results176)

end Go.Proofs.X
end

section
open Go Go.Bx Go.Proofs
namespace Go.Proofs.X
attribute [local irreducible] dnI gI
set_option maxRecDepth 100000 in
set_option maxHeartbeats 4000000 in
theorem numA_c (w : List Int) (t : Nat) (s b : List Int) (n l : Int) (hw : w.length = 16) (hb : b.length = 64) (ht : t < 16) : Con Tryz.prog 179 [.s (.ptr 0 0 0), .s (.ptr 1 0 0), .s (.ptr 2 0 0)] [some ⟨true, [.ints .u32 16 w]⟩, some ⟨true, [.one (.int .i64 ((t : Nat) : Int))]⟩, some ⟨true, [.one (.ptr 3 1 0)]⟩, some ⟨true, RUN s b n l⟩] (.s (.int .u32 ((w.set (t % 16) (IntKind.u32.wrap (getI ((b.drop (4 * t)).take (64 - 4 * t)) 4))).getD (t % 16) 0))) [some ⟨true, [.ints .u32 16 (w.set (t % 16) (IntKind.u32.wrap (getI ((b.drop (4 * t)).take (64 - 4 * t)) 4)))]⟩, some ⟨true, [.one (.int .i64 ((t + 1 : Nat) : Int))]⟩, some ⟨true, [.one (.ptr 3 1 0)]⟩, some ⟨true, RUN s b n l⟩] := by
 refine con_in 75 Tryz.func179 rfl rfl (m := 4) rfl ?_
 intro E hP hn hE
 refine w_seq ?_
 refine g_reg hP hn ?_
 refine s_op k_as ?_
 refine s_nil trivial ?_
 refine n_wp ?_
 refine w_seq ?_
 refine g_reg hP hn ?_
 refine s_op k_ld ?_
 refine s_op k_rem ?_
 refine s_op k_ix ?_
 refine s_op k_as ?_
 refine s_nil trivial ?_
 refine n_wp ?_
 refine w_seq ?_
 refine w_seq ?_
 refine g_reg hP hn ?_
 refine s_op k_ld ?_
 refine s_op k_lss ?_
 refine s_nil trivial ?_
 refine n_wp ?_
 refine w_T rfl ?_ 
 refine w_seq ?_
 refine g_any hP hn ?_
 refine s_op k_ld ?_
 refine s_op k_nc ?_
 refine s_op k_fa ?_
 refine s_op k_ld ?_
 refine s_op k_mul ?_
 refine s_op k_sl ?_
 refine s_op (k_tmp 3 (h := k_call [] (con := get_c ((b.drop (4 * t)).take (64 - 4 * t)) 4 (by decide) (by decide) (by simp [hb]; omega)))) ?_
 refine s_op k_mv ?_
 refine s_op k_ex ?_
 refine s_op k_ex ?_
 refine s_op k_as ?_
 refine s_op k_as ?_
 refine s_nil (by kernel_rfl) ?_
 refine n_wp ?_
 refine g_reg hP hn ?_
 refine s_op k_mv ?_
 refine s_op k_mv ?_
 refine s_op k_cv ?_
 refine s_op k_nc ?_
 refine s_st k_st ?_
 refine s_nil trivial ?_
 refine n_wp ?_
 refine w_seq ?_
 refine g_reg hP hn ?_
 refine s_op k_ld ?_
 refine s_op k_add ?_
 refine s_st k_st ?_
 refine s_nil trivial ?_
 refine n_wp ?_
 refine w_seq ?_
 refine g_reg hP hn ?_
 refine s_op k_mv ?_
 refine s_op k_nc ?_
 refine s_op k_ld ?_
 refine s_op k_as ?_
 refine s_nil trivial ?_
 refine n_wp ?_
 refine w_ret ?_
 exact d_ret hP hn hE [] (by first | exact r_tmp Tryz.results179 | exact r_tmpa Tryz.results179)

set_option maxRecDepth 100000 in
set_option maxHeartbeats 4000000 in
theorem numB_c (w : List Int) (t : Nat) (s b : List Int) (n l : Int) (hw : w.length = 16) (hb : b.length = 64) (ht : ¬ t < 16) (ht2 : t < 64) : Con Tryz.prog 179 [.s (.ptr 0 0 0), .s (.ptr 1 0 0), .s (.ptr 2 0 0)] [some ⟨true, [.ints .u32 16 w]⟩, some ⟨true, [.one (.int .i64 ((t : Nat) : Int))]⟩, some ⟨true, [.one (.ptr 3 1 0)]⟩, some ⟨true, RUN s b n l⟩] (.s (.int .u32 ((wn3 (wn2 (wn1 w t) (w.getD ((t + 14) % 16) 0) t) t).getD (t % 16) 0))) [some ⟨true, [.ints .u32 16 (wn3 (wn2 (wn1 w t) (w.getD ((t + 14) % 16) 0) t) t)]⟩, some ⟨true, [.one (.int .i64 ((t + 1 : Nat) : Int))]⟩, some ⟨true, [.one (.ptr 3 1 0)]⟩, some ⟨true, RUN s b n l⟩] := by
 refine con_in 75 Tryz.func179 rfl rfl (m := 4) rfl ?_
 intro E hP hn hE
 refine w_seq ?_
 refine g_reg hP hn ?_
 refine s_op k_as ?_
 refine s_nil trivial ?_
 refine n_wp ?_
 refine w_seq ?_
 refine g_reg hP hn ?_
 refine s_op k_ld ?_
 refine s_op k_rem ?_
 refine s_op k_ix ?_
 refine s_op k_as ?_
 refine s_nil trivial ?_
 refine n_wp ?_
 refine w_seq ?_
 refine w_seq ?_
 refine g_reg hP hn ?_
 refine s_op k_ld ?_
 refine s_op k_lss ?_
 refine s_nil trivial ?_
 refine n_wp ?_
 refine w_F rfl ?_ 
 refine w_seq ?_
 refine g_any hP hn ?_
 refine s_op k_ld ?_
 refine s_op k_add ?_
 refine s_op k_rem ?_
 refine s_op k_ix ?_
 refine s_op k_ld ?_
 refine s_op k_ld ?_
 refine s_op k_add ?_
 refine s_op k_rem ?_
 refine s_op k_ix ?_
 refine s_op k_ld ?_
 refine s_op k_as ?_
 refine s_op k_as ?_
 refine s_nil (by kernel_rfl) ?_
 refine n_wp ?_
 refine w_seq ?_
 refine g_any hP hn ?_
 refine s_op k_mv ?_
 refine s_op k_nc ?_
 refine s_op k_ld ?_
 refine s_op k_mv ?_
 refine s_op k_bsf ?_
 refine s_op (k_call [] (con := down_c _ _ (by decide))) ?_
 refine s_op k_mv ?_
 refine s_op k_shr ?_
 refine s_op k_xor ?_
 refine s_op k_add ?_
 refine s_op k_nc ?_
 refine s_st k_st ?_
 refine s_nil (by kernel_rfl) ?_
 refine n_wp ?_
 refine w_seq ?_
 refine g_any hP hn ?_
 refine s_op k_mv ?_
 refine s_op k_nc ?_
 refine s_op k_ld ?_
 refine s_op k_mv ?_
 refine s_op k_bsf ?_
 refine s_op (k_call [] (con := down_c _ _ (by decide))) ?_
 refine s_op k_mv ?_
 refine s_op k_shr ?_
 refine s_op k_xor ?_
 refine s_op k_add ?_
 refine s_op k_nc ?_
 refine s_st k_st ?_
 refine s_nil (by kernel_rfl) ?_
 refine n_wp ?_
 refine g_any hP hn ?_
 refine s_op k_mv ?_
 refine s_op k_nc ?_
 refine s_op k_ld ?_
 refine s_op k_ld ?_
 refine s_op k_add ?_
 refine s_op k_rem ?_
 refine s_op k_ix ?_
 refine s_op k_ld ?_
 refine s_op k_add ?_
 refine s_op k_nc ?_
 refine s_st k_st ?_
 refine s_nil (by kernel_rfl) ?_
 refine n_wp ?_
 refine w_seq ?_
 refine g_reg hP hn ?_
 refine s_op k_ld ?_
 refine s_op k_add ?_
 refine s_st k_st ?_
 refine s_nil trivial ?_
 refine n_wp ?_
 refine w_seq ?_
 refine g_reg hP hn ?_
 refine s_op k_mv ?_
 refine s_op k_nc ?_
 refine s_op k_ld ?_
 refine s_op k_as ?_
 refine s_nil trivial ?_
 refine n_wp ?_
 refine w_ret ?_
 exact d_ret hP hn hE [] (by first | exact r_tmp Tryz.results179 | exact r_tmpa Tryz.results179)

theorem num_c (w : List Int) (t : Nat) (s b : List Int) (n l : Int) (hw : w.length = 16) (hb : b.length = 64) (ht : t < 64) : Con Tryz.prog 179 [.s (.ptr 0 0 0), .s (.ptr 1 0 0), .s (.ptr 2 0 0)] [some ⟨true, [.ints .u32 16 w]⟩, some ⟨true, [.one (.int .i64 ((t : Nat) : Int))]⟩, some ⟨true, [.one (.ptr 3 1 0)]⟩, some ⟨true, RUN s b n l⟩] (.s (.int .u32 ((wn b w t).getD (t % 16) 0))) [some ⟨true, [.ints .u32 16 (wn b w t)]⟩, some ⟨true, [.one (.int .i64 ((t + 1 : Nat) : Int))]⟩, some ⟨true, [.one (.ptr 3 1 0)]⟩, some ⟨true, RUN s b n l⟩] := by
 by_cases h : t < 16
 · rw [wn_lt b w h]; exact numA_c w t s b n l hw hb h
 · rw [wn_ge b w h]; exact numB_c w t s b n l hw hb h ht

set_option maxRecDepth 100000 in
set_option maxHeartbeats 4000000 in
theorem numbers_c (s b : List Int) (n l : Int) : Con Tryz.prog 175 [.s (.ptr 0 1 0)] [some ⟨true, RUN s b n l⟩] (.s (.clo 179 3 (capF [.ptr 2 0 0, .ptr 3 0 0, .ptr 1 0 0]))) [some ⟨true, RUN s b n l⟩, some ⟨true, [.one (.ptr 0 1 0)]⟩, some ⟨true, [.ints .u32 16 (z 16)]⟩, some ⟨true, [.one (.int .i64 ((0 : Nat) : Int))]⟩] := by
 refine con_in 6 Tryz.func175 rfl rfl (m := 1) rfl ?_
 intro E hP hn hE
 refine w_seq ?_
 refine g_reg hP hn ?_
 refine s_op k_bx ?_
 refine s_op k_as ?_
 refine s_nil trivial ?_
 refine n_wp ?_
 refine w_seq ?_
 refine g_reg hP hn ?_
 refine s_op k_al ?_
 refine s_nil trivial ?_
 refine n_wp ?_
 refine w_seq ?_
 refine g_reg hP hn ?_
 refine s_op k_al ?_
 refine s_st k_st ?_
 refine s_nil trivial ?_
 refine n_wp ?_
 refine w_seq ?_
 refine g_reg hP hn ?_
 refine s_op (k_fn [.ptr 2 0 0, .ptr 3 0 0, .ptr 1 0 0]) ?_
 refine s_op k_as ?_
 refine s_nil trivial ?_
 refine n_wp ?_
 refine w_ret ?_
 exact d_ret hP hn hE [] (by first | exact r_tmp Tryz.results175 | exact r_tmpa Tryz.results175)

set_option maxRecDepth 100000 in
set_option maxHeartbeats 4000000 in
theorem after_c (s0 s b : List Int) (n l : Int) (hs : s0.length = 8) (hb : b.length = 64) : Con Tryz.prog 171 [.agg [.ints .u32 8 s0], .s (.ptr 0 1 0)] [some ⟨true, RUN s b n l⟩] (.agg [.ints .u32 8 (aft s0 b)]) [some ⟨true, RUN s b n l⟩] := by
 refine con_in 90 Tryz.func171 rfl rfl (m := 1) rfl ?_
 intro E hP hn hE
 refine w_seq ?_
 refine g_reg hP hn ?_
 refine s_op k_bx ?_
 refine s_op k_al ?_
 refine s_nil trivial ?_
 refine n_wp ?_
 refine w_seq ?_
 refine g_any hP hn ?_
 refine s_op k_ld ?_
 refine s_op k_mv ?_
 refine s_op (k_call [0] (con := numbers_c _ _ _ _)) ?_
 refine s_heap (H' := [some ⟨true, RUN s b n l⟩, some ⟨true, [.ints .u32 8 s0]⟩, some ⟨true, [.ints .u32 8 (z 8)]⟩, some ⟨true, [.one (.ptr 0 1 0)]⟩, some ⟨true, [.ints .u32 16 (z 16)]⟩, some ⟨true, [.one (.int .i64 ((0 : Nat) : Int))]⟩]) rfl ?_
 refine s_op k_al ?_
 refine s_st k_st ?_
 refine s_op k_as ?_
 refine s_nil (by kernel_rfl) ?_
 refine n_wp ?_
 refine w_seq ?_
 refine w_seq ?_
 refine g_reg hP hn ?_
 refine s_op (k_call [] (con := adds_c)) ?_
 refine s_op k_mv ?_
 refine s_nil trivial ?_
 refine n_wp ?_
 refine w_block ?_
 refine c_loop (fun q T H => ∃ i, i ≤ 64 ∧ q = 64 - i ∧ T = [(2, .s (.ptr 1 0 0)), (4, .s (.ptr 2 0 0)), (5, .s (.ptr 6 0 0)), (6, .s (.clo 179 3 (capF [.ptr 4 0 0, .ptr 5 0 0, .ptr 3 0 0]))), (16, .agg [.ints .u32 64 KS]), (17, .s (.int .i64 ((i : Nat) : Int)))] ∧ H = [some ⟨true, RUN s b n l⟩, some ⟨true, [.ints .u32 8 s0]⟩, some ⟨true, [.ints .u32 8 (z 8)]⟩, some ⟨true, [.one (.ptr 0 1 0)]⟩, some ⟨true, [.ints .u32 16 (ws b i)]⟩, some ⟨true, [.one (.int .i64 ((i : Nat) : Int))]⟩, some ⟨true, [.ints .u32 8 (ls s0 b i)]⟩]) (64) ⟨0, by omega, rfl, rfl, rfl⟩ (wk hE []) ?_
 rintro n_ T_ H_ ⟨i, hi, rfl, rfl, rfl⟩
 refine w_seq ?_
 refine g_reg hP hn ?_
 refine s_op k_lss ?_
 refine s_nil trivial ?_
 refine n_wp ?_
 refine w_seq ?_
 refine w_if rfl (fun h_t18 => ?_) (fun h_t18 => ?_)
 · skip
   have h8 := ls_len s0 b hs i
   have h16 := ws_len b i
   refine w_skip ?_
   refine n_wp ?_
   refine w_seq ?_
   refine w_block ?_
   refine w_seq ?_
   refine g_reg hP hn ?_
   refine s_op k_id ?_
   refine s_op k_as ?_
   refine s_nil trivial ?_
   refine n_wp ?_
   refine w_seq ?_
   refine g_any hP hn ?_
   refine s_op k_ix ?_
   refine s_op k_ld ?_
   refine s_op k_ix ?_
   refine s_op k_ld ?_
   refine s_op k_bsf ?_
   refine s_op (k_call [] (con := down_c _ _ (by decide))) ?_
   refine s_op k_add ?_
   refine s_op k_ix ?_
   refine s_op k_ld ?_
   refine s_op k_ix ?_
   refine s_op k_ld ?_
   refine s_op k_and ?_
   refine s_op k_ix ?_
   refine s_op k_ld ?_
   refine s_op k_com ?_
   refine s_op k_ix ?_
   refine s_op k_ld ?_
   refine s_op k_and ?_
   refine s_op k_or ?_
   refine s_op k_add ?_
   refine s_op k_mv ?_
   refine s_op k_add ?_
   refine s_op k_mv ?_
   refine s_op (k_callc [4, 5, 3, 0] rfl (con := num_c (ws b i) i s b n l h16 hb h_t18)) ?_
   refine s_heap (H' := [some ⟨true, RUN s b n l⟩, some ⟨true, [.ints .u32 8 s0]⟩, some ⟨true, [.ints .u32 8 (z 8)]⟩, some ⟨true, [.one (.ptr 0 1 0)]⟩, some ⟨true, [.ints .u32 16 (wn b (ws b i) i)]⟩, some ⟨true, [.one (.int .i64 ((i + 1 : Nat) : Int))]⟩, some ⟨true, [.ints .u32 8 (ls s0 b i)]⟩, none]) rfl ?_
   refine s_op k_add ?_
   refine s_op k_as ?_
   refine s_nil (by kernel_rfl) ?_
   refine n_wp ?_
   refine w_seq ?_
   refine g_any hP hn ?_
   refine s_op k_ix ?_
   refine s_op k_ld ?_
   refine s_op k_bsf ?_
   refine s_op (k_call [] (con := down_c _ _ (by decide))) ?_
   refine s_op k_ix ?_
   refine s_op k_ld ?_
   refine s_op k_ix ?_
   refine s_op k_ld ?_
   refine s_op k_ix ?_
   refine s_op k_ld ?_
   refine s_op k_xor ?_
   refine s_op k_and ?_
   refine s_op k_ix ?_
   refine s_op k_ld ?_
   refine s_op k_ix ?_
   refine s_op k_ld ?_
   refine s_op k_and ?_
   refine s_op k_xor ?_
   refine s_op k_add ?_
   refine s_op k_as ?_
   refine s_nil (by kernel_rfl) ?_
   refine n_wp ?_
   refine w_seq ?_
   refine g_any hP hn ?_
   refine s_op k_sl ?_
   refine s_op k_sl ?_
   refine s_op (k_cpn 7) ?_
   refine s_nil (by kernel_rfl) ?_
   refine n_wp ?_
   refine w_seq ?_
   refine g_reg hP hn ?_
   refine s_op k_ix ?_
   refine s_op k_ld ?_
   refine s_op k_mv ?_
   refine s_op k_add ?_
   refine s_op k_ix ?_
   refine s_st k_st ?_
   refine s_nil trivial ?_
   refine n_wp ?_
   refine g_reg hP hn ?_
   refine s_op k_mv ?_
   refine s_op k_mv ?_
   refine s_op k_add ?_
   refine s_op k_ix ?_
   refine s_st k_st ?_
   refine s_nil trivial ?_
   refine n_blo ?_
   refine n_wp ?_
   refine g_reg hP hn ?_
   refine s_op k_add ?_
   refine s_op k_mv ?_
   refine s_nil trivial ?_
   exact n_round (64 - (i + 1)) (by omega) ⟨i + 1, by omega, rfl, rfl, rfl⟩ (wk hE [])
 · skip
   have hi : i = 64 := by omega
   subst hi
   have h8 := ls_len s0 b hs 64
   refine w_exit ?_
   refine x_thn ?_
   refine x_thn ?_
   refine x_eq ?_
   refine n_wp ?_
   refine w_seq ?_
   refine w_seq ?_
   refine g_reg hP hn ?_
   refine s_op k_ld ?_
   refine s_op k_mv ?_
   refine s_nil trivial ?_
   refine n_wp ?_
   refine w_block ?_
   refine c_loop (fun q T H => ∃ i, i ≤ 8 ∧ q = 8 - i ∧ T = [(4, .s (.ptr 2 0 0)), (5, .s (.ptr 6 0 0)), (77, .agg [.ints .u32 8 s0]), (78, .s (.int .i64 ((i : Nat) : Int)))] ∧ H = [some ⟨true, RUN s b n l⟩, some ⟨true, [.ints .u32 8 s0]⟩, some ⟨true, [.ints .u32 8 (z 8)]⟩, some ⟨true, [.one (.ptr 0 1 0)]⟩, some ⟨true, [.ints .u32 16 (ws b 64)]⟩, some ⟨true, [.one (.int .i64 ((64 : Nat) : Int))]⟩, some ⟨true, [.ints .u32 8 (fin s0 (ls s0 b 64) i)]⟩]) (8) ⟨0, by omega, rfl, rfl, rfl⟩ (wk hE []) ?_
   rintro n_ T_ H_ ⟨i, hi, rfl, rfl, rfl⟩
   refine w_seq ?_
   refine g_reg hP hn ?_
   refine s_op k_lss ?_
   refine s_nil trivial ?_
   refine n_wp ?_
   refine w_seq ?_
   refine w_if rfl (fun h_t79 => ?_) (fun h_t79 => ?_)
   · skip
     have h8 := (fin_len s0 (ls s0 b 64) i).trans (ls_len s0 b hs 64)
     refine w_skip ?_
     refine n_wp ?_
     refine w_seq ?_
     refine w_block ?_
     refine w_seq ?_
     refine g_reg hP hn ?_
     refine s_op k_mv ?_
     refine s_op k_id ?_
     refine s_op k_as ?_
     refine s_op k_as ?_
     refine s_nil trivial ?_
     refine n_wp ?_
     refine g_reg hP hn ?_
     refine s_op k_mv ?_
     refine s_op k_ix ?_
     refine s_op k_ld ?_
     refine s_op k_mv ?_
     refine s_op k_add ?_
     refine s_op k_ix ?_
     refine s_st k_st ?_
     refine s_nil trivial ?_
     refine n_blo ?_
     refine n_wp ?_
     refine g_reg hP hn ?_
     refine s_op k_add ?_
     refine s_op k_mv ?_
     refine s_nil trivial ?_
     exact n_round (8 - (i + 1)) (by omega) ⟨i + 1, by omega, rfl, rfl, rfl⟩ (wk hE [])
   · skip
     have hi : i = 8 := by omega
     subst hi
     refine w_exit ?_
     refine x_thn ?_
     refine x_thn ?_
     refine x_eq ?_
     refine n_wp ?_
     refine w_seq ?_
     refine g_reg hP hn ?_
     refine s_op k_ld ?_
     refine s_st k_st ?_
     refine s_nil trivial ?_
     refine n_wp ?_
     refine w_ret ?_
     exact d_ret hP hn hE [] (r_cell Tryz.results171)

end Go.Proofs.X
end

section
open Go Go.Bx Go.Proofs
namespace Go.Proofs.X
attribute [local irreducible] ws ls dnI gI
set_option maxRecDepth 100000 in
set_option maxHeartbeats 4000000 in
theorem takes_c (L : List (List Int)) (q0 : Run) (tot : Nat) (hq0 : RunOk q0) (hL : L.length ≤ 1000000) (hl : tot + L.flatten.length < 18446744073709551616) (hB : ∀ i, (L.getD i []).length ≤ 4611686018427387904) : Con Tryz.prog 166 [.s (.ptr 0 0 0), .s (ROWS L)] [some (RQ q0 tot)] (.tup []) [some (RQ (tk q0 L.flatten) (tot + L.flatten.length))] := by
 refine con_in 76 Tryz.func166 rfl rfl (m := 1) rfl ?_
 intro E hP hn hE
 refine w_seq ?_
 refine g_reg hP hn ?_
 refine s_op k_mv ?_
 refine s_op k_len ?_
 refine s_op k_mv ?_
 refine s_nil trivial ?_
 refine n_wp ?_
 refine w_block ?_
 refine c_loop (fun m T H => ∃ i q, i ≤ L.length ∧ m = L.length - i ∧ q = tk q0 (L.take i).flatten ∧ T = [(0, .s (.ptr 0 0 0)), (8, .s (ROWS L)), (9, .s (.int .i64 ((L.length : Nat) : Int))), (10, .s (.int .i64 ((i : Nat) : Int)))] ∧ H = [some (RQ q (tot + ((L.take i).flatten).length))]) (L.length) ⟨0, q0, by omega, rfl, by simp [tk], rfl, rfl⟩ (wk hE []) ?_
 rintro n_ T_ H_ ⟨i, q, hi, rfl, hq, rfl, rfl⟩
 have hok : RunOk q := hq ▸ tk_ok hq0 _
 refine w_seq ?_
 refine g_reg hP hn ?_
 refine s_op k_lss ?_
 refine s_nil trivial ?_
 refine n_wp ?_
 refine w_seq ?_
 refine w_if rfl (fun h_t11 => ?_) (fun h_t11 => ?_)
 · skip
   have hfl := flat_s L h_t11
   have htot : (L.take (i + 1)).flatten.length = (L.take i).flatten.length + (L.getD i []).length := by rw [hfl, List.length_append]
   have hstart : tk q (L.getD i []) = tk q0 (L.take (i + 1)).flatten := by rw [hfl, tk_append, hq]
   have hle : (L.take (i + 1)).flatten.length ≤ L.flatten.length := by
     have := congrArg (fun x => (List.flatten x).length) (List.take_append_drop (i + 1) L)
     simp only [List.flatten_append, List.length_append] at this
     omega
   refine w_skip ?_
   refine n_wp ?_
   refine w_seq ?_
   refine w_block ?_
   refine w_seq ?_
   refine g_reg hP hn ?_
   refine s_op k_ix ?_
   refine s_op (k_ld (by exact a_loadf (v := .fzi .u8 (L.getD i [])) rfl (by omega) (rows_at L h_t11))) ?_
   refine s_op k_as ?_
   refine s_nil trivial ?_
   refine n_wp ?_
   refine w_seq ?_
   refine g_reg hP hn ?_
   refine s_op k_mv ?_
   refine s_op k_nc ?_
   refine s_op k_fa ?_
   refine s_op k_ld ?_
   refine s_op k_mv ?_
   refine s_op k_len ?_
   refine s_op k_cv ?_
   refine s_op k_add ?_
   refine s_op k_nc ?_
   refine s_op k_fa ?_
   refine s_st k_st ?_
   refine s_nil trivial ?_
   refine n_wp ?_
   refine w_block ?_
   refine c_loop (fun m T H => ∃ (q : Run) (W : List Int), RunOk q ∧ tk q W = tk q0 (L.take (i + 1)).flatten ∧ W.length ≤ 4611686018427387904 ∧ m = W.length ∧ T = [(0, .s (.ptr 0 0 0)), (8, .s (ROWS L)), (9, .s (.int .i64 ((L.length : Nat) : Int))), (10, .s (.int .i64 ((i : Nat) : Int))), (5, .s (.fzi .u8 W))] ∧ H = [some (RQ q (tot + (L.take i).flatten.length + (L.getD i []).length))]) ((L.getD i []).length) ⟨q, (L.getD i []), hok, hstart, hB i, rfl, rfl, rfl⟩ (wk hE []) ?_
   rintro n_ T_ H_ ⟨q, W, hok, hW, hWl, rfl, rfl, rfl⟩
   have hm := hok.m
   have hbl := hok.b
   have hsl := hok.s
   refine w_seq ?_
   refine w_seq ?_
   refine g_reg hP hn ?_
   refine s_op k_mv ?_
   refine s_op k_len ?_
   refine s_op k_gtr ?_
   refine s_nil trivial ?_
   refine n_wp ?_
   refine w_if rfl (fun h_t26 => ?_) (fun h_t26 => ?_)
   · skip
     obtain ⟨m, hmm⟩ : ∃ m, m = min W.length (64 - q.m) := ⟨_, rfl⟩
     have hok2 : RunOk (chunk q (W.take m) m) := chunk_ok hok _ _ (by omega)
     have hW2 : tk (chunk q (W.take m) m) ((W.drop m).take (W.length - m)) = tk q0 (L.take (i + 1)).flatten := by
       rw [← tk_chunk q hok _ m (by simp; omega) (by omega) (by omega), ← tk_append, show (W.drop m).take (W.length - m) = W.drop m from List.take_of_length_le (by simp), List.take_append_drop]; exact hW
     refine w_skip ?_
     refine n_wp ?_
     refine w_block ?_
     refine w_seq ?_
     refine g_any hP hn ?_
     refine s_op k_mv ?_
     refine s_op k_nc ?_
     refine s_op k_fa ?_
     refine s_op k_fa ?_
     refine s_op k_mv ?_
     refine s_op k_nc ?_
     refine s_op k_fa ?_
     refine s_op k_fa ?_
     refine s_op k_ld ?_
     refine s_op k_sl ?_
     refine s_op k_mv ?_
     refine s_op (k_cpn m) ?_
     refine s_op k_as ?_
     refine s_nil (by kernel_rfl) ?_
     refine n_wp ?_
     refine w_seq ?_
     refine g_reg hP hn ?_
     refine s_op k_mv ?_
     refine s_op k_mv ?_
     refine s_op k_sl ?_
     refine s_op k_as ?_
     refine s_nil trivial ?_
     refine n_wp ?_
     refine w_seq ?_
     refine g_reg hP hn ?_
     refine s_op k_mv ?_
     refine s_op k_nc ?_
     refine s_op k_fa ?_
     refine s_op k_fa ?_
     refine s_op k_ld ?_
     refine s_op k_mv ?_
     refine s_op k_add ?_
     refine s_op k_nc ?_
     refine s_op k_fa ?_
     refine s_op k_fa ?_
     refine s_st k_st ?_
     refine s_nil trivial ?_
     refine n_wp ?_
     refine w_seq ?_
     refine g_reg hP hn ?_
     refine s_op k_mv ?_
     refine s_op k_nc ?_
     refine s_op k_fa ?_
     refine s_op k_fa ?_
     refine s_op k_ld ?_
     refine s_op k_eql ?_
     refine s_nil trivial ?_
     refine n_wp ?_
     refine w_if rfl (fun h_t57 => ?_) (fun h_t57 => ?_)
     · skip
       have hc : chunk q (W.take m) m = ⟨aft q.s (spl q.b (W.take m) q.m m 64), (spl q.b (W.take m) q.m m 64), 0⟩ := if_pos h_t57
       rw [hc] at hok2 hW2
       refine w_seq ?_
       refine g_any hP hn ?_
       refine s_op k_mv ?_
       refine s_op k_nc ?_
       refine s_op k_fa ?_
       refine s_op k_ld ?_
       refine s_op k_nc ?_
       refine s_op k_ld ?_
       refine s_op k_mv ?_
       refine s_op k_nc ?_
       refine s_op k_fa ?_
       refine s_op (k_call [0] (con := after_c _ _ (spl q.b (W.take m) q.m m 64) _ _ hsl (spl_len _ _ _ _ _))) ?_
       refine s_heap (H' := [some ⟨true, RUN q.s (spl q.b (W.take m) q.m m 64) ((q.m + m : Nat) : Int) ((tot + (L.take i).flatten.length + (L.getD i []).length : Nat) : Int)⟩]) rfl ?_
       refine s_op k_al ?_
       refine s_st k_st ?_
       refine s_nil (by kernel_rfl) ?_
       refine n_wp ?_
       refine w_weak (frz_ptr 7 8) ?_
       refine g_reg hP hn ?_
       refine s_op k_mv ?_
       refine s_op k_mv ?_
       refine s_op k_nc ?_
       refine s_op k_fa ?_
       refine s_st k_st ?_
       refine s_op k_nc ?_
       refine s_op k_fa ?_
       refine s_op k_fa ?_
       refine s_st k_st ?_
       refine s_nil trivial ?_
       refine n_blo ?_
       exact n_round (W.length - m) (by omega) ⟨_, _, hok2, hW2, by simp; omega, by simp, rfl, rfl⟩ (wk hE [])
     · skip
       have hc : chunk q (W.take m) m = ⟨q.s, (spl q.b (W.take m) q.m m 64), q.m + m⟩ := if_neg h_t57
       rw [hc] at hok2 hW2
       refine w_skip ?_
       refine n_blo ?_
       exact n_round (W.length - m) (by omega) ⟨_, _, hok2, hW2, by simp; omega, by simp, rfl, rfl⟩ (wk hE [])
   · skip
     have h0 : W = [] := List.length_eq_zero_iff.1 (by omega)
     subst h0
     have hdone : q = tk q0 (L.take (i + 1)).flatten := hW
     rw [Nat.add_assoc, ← htot]
     refine w_exit ?_
     refine x_thn ?_
     refine x_thn ?_
     refine x_eq ?_
     refine n_blo ?_
     refine n_wp ?_
     refine g_reg hP hn ?_
     refine s_op k_add ?_
     refine s_op k_mv ?_
     refine s_nil trivial ?_
     exact n_round (L.length - (i + 1)) (by omega) ⟨i + 1, q, by omega, rfl, hdone, rfl, rfl⟩ (wk hE [])
 · skip
   have hi : i = L.length := by omega
   subst hi
   have hfull : L.take L.length = L := List.take_length
   rw [hfull] at hq ⊢
   subst hq
   refine w_exit ?_
   refine x_thn ?_
   refine x_thn ?_
   refine x_eq ?_
   exact d_ret hP hn hE [] (ret_none Tryz.results166)

end Go.Proofs.X
end

section
open Go Go.Bx Go.Proofs
namespace Go.Proofs.X
attribute [local irreducible] tk rr ws ls dnI gI
set_option maxRecDepth 100000 in
set_option maxHeartbeats 4000000 in
theorem new_c  : Con Tryz.prog 152 [] [] (.s (.ptr 0 0 0)) [some (RQ run0 0)] := by
 refine con_in 5 Tryz.func152 rfl rfl (m := 0) rfl ?_
 intro E hP hn hE
 refine w_seq ?_
 refine g_reg hP hn ?_
 refine s_op k_as ?_
 refine s_nil trivial ?_
 refine n_wp ?_
 refine w_seq ?_
 refine g_reg hP hn ?_
 refine s_op (k_bd (by exact a_buildK S0 (by kernel_rfl) (by kernel_rfl) rfl)) ?_
 refine s_op k_bxf ?_
 refine s_op k_bd ?_
 refine s_op k_bx ?_
 refine s_op k_as ?_
 refine s_nil trivial ?_
 refine n_wp ?_
 refine w_ret ?_
 exact d_ret hP hn hE [1] (by first | exact r_tmp Tryz.results152 | exact r_tmpa Tryz.results152)

theorem takes1_c (a : List Int) (q : Run) (tot : Nat) (hq : RunOk q) (hl : tot + a.length < 4611686018427387904) : Con Tryz.prog 166 [.s (.ptr 0 0 0), .s (ROWS [a])] [some (RQ q tot)] (.tup []) [some (RQ (tk q a) (tot + a.length))] := by
 have h := takes_c [a] q tot hq (Nat.le_of_ble_eq_true rfl) (by simp; omega) (fun i => by match i with | 0 => (show a.length ≤ _; omega) | _ + 1 => simp)
 rw [show [a].flatten = a by simp] at h
 exact h
theorem takes3_c (a b c : List Int) (q : Run) (tot : Nat) (hq : RunOk q) (hl : tot + (a.length + (b.length + c.length)) < 4611686018427387904) : Con Tryz.prog 166 [.s (.ptr 0 0 0), .s (ROWS [a, b, c])] [some (RQ q tot)] (.tup []) [some (RQ (tk (tk (tk q a) b) c) (tot + (a.length + (b.length + c.length))))] := by
 have h := takes_c [a, b, c] q tot hq (Nat.le_of_ble_eq_true rfl) (by simp; omega) (fun i => by match i with | 0 => (show a.length ≤ _; omega) | 1 => (show b.length ≤ _; omega) | 2 => (show c.length ≤ _; omega) | _ + 3 => simp)
 rw [show [a, b, c].flatten = a ++ (b ++ c) by simp, tk_append, tk_append, List.length_append, List.length_append] at h
 exact h

set_option maxRecDepth 100000 in
set_option maxHeartbeats 4000000 in
theorem write_c (B : List Int) (q : Run) (tot : Nat) (hq : RunOk q) (hl : tot + B.length < 4611686018427387904) : Con Tryz.prog 153 [.s (.ptr 0 0 0), .s (.fzi .u8 B)] [some (RQ q tot)] (.s (.int .i64 0)) [some (RQ (tk q B) (tot + B.length))] := by
 refine con_in 18 Tryz.func153 rfl rfl (m := 1) rfl ?_
 intro E hP hn hE
 refine w_seq ?_
 refine g_reg hP hn ?_
 refine s_op k_as ?_
 refine s_nil trivial ?_
 refine n_wp ?_
 refine w_seq ?_
 refine w_seq ?_
 refine g_reg hP hn ?_
 refine s_op k_mv ?_
 refine s_op k_eql ?_
 refine s_op k_mv ?_
 refine s_on rfl rfl rfl k_mv ?_
 refine s_on rfl rfl rfl k_nc ?_
 refine s_on rfl rfl rfl k_fa ?_
 refine s_on rfl rfl rfl k_ld ?_
 refine s_on rfl rfl rfl k_eql ?_
 refine s_op k_pk ?_
 refine s_nil trivial ?_
 refine n_wp ?_
 refine w_F rfl ?_ 
 refine w_skip ?_
 refine n_wp ?_
 refine w_seq ?_
 refine g_reg hP hn ?_
 refine s_op k_mv ?_
 refine s_op k_mv ?_
 refine s_op (k_bsz [.fzi .u8 B]) ?_
 refine s_op (k_call [0] (con := takes1_c B q tot hq hl)) ?_
 refine s_nil trivial ?_
 refine n_wp ?_
 refine w_seq ?_
 refine g_reg hP hn ?_
 refine s_op k_as ?_
 refine s_nil trivial ?_
 refine n_wp ?_
 refine w_ret ?_
 exact d_ret hP hn hE [] (by first | exact r_tmp Tryz.results153 | exact r_tmpa Tryz.results153)

theorem put8_c (v : Int) : Con Tryz.prog 97 [.s (.fzi .u8 []), .s (.int .u64 v), .s (.int .i64 ((8 : Nat) : Int))] [] (.s (.fzi .u8 (rr 8 8 1 [v] 1))) [] := put_c [] v 8 (Nat.le_refl _) (Nat.le_of_ble_eq_true rfl)
theorem putob_c (s : List Int) (i : Nat) (hi : i < 8) : Con Tryz.prog 97 [.s (.fzi .u8 (ob s i)), .s (.int .u64 (IntKind.u64.wrap (s.getD i 0))), .s (.int .i64 ((4 : Nat) : Int))] [] (.s (.fzi .u8 (ob s (i + 1)))) [] := by
 have h := put_c (ob s i) (IntKind.u64.wrap (s.getD i 0)) 4 (by omega) (by rw [ob_len]; omega)
 rw [ob_len] at h
 exact h

set_option maxRecDepth 100000 in
set_option maxHeartbeats 4000000 in
theorem sum_c (q : Run) (tot : Nat) (hq : RunOk q) (hl : tot < 4611686018427387000) : Con Tryz.prog 154 [.s (.ptr 0 0 0)] [some (RQ q tot)] (.agg [.ints .u8 32 (sumL q tot)]) [some (RQ q tot)] := by
 refine con_in 56 Tryz.func154 rfl rfl (m := 1) rfl ?_
 intro E hP hn hE
 refine w_seq ?_
 refine g_reg hP hn ?_
 refine s_op k_al ?_
 refine s_nil trivial ?_
 refine n_wp ?_
 refine w_seq ?_
 refine w_seq ?_
 refine g_reg hP hn ?_
 refine s_op k_mv ?_
 refine s_op k_eql ?_
 refine s_op k_mv ?_
 refine s_on rfl rfl rfl k_mv ?_
 refine s_on rfl rfl rfl k_nc ?_
 refine s_on rfl rfl rfl k_fa ?_
 refine s_on rfl rfl rfl k_ld ?_
 refine s_on rfl rfl rfl k_eql ?_
 refine s_op k_pk ?_
 refine s_nil trivial ?_
 refine n_wp ?_
 refine w_F rfl ?_ 
 refine w_skip ?_
 refine n_wp ?_
 refine w_seq ?_
 refine g_reg hP hn ?_
 refine s_op k_mv ?_
 refine s_op k_nc ?_
 refine s_op k_ld ?_
 refine s_op k_al ?_
 refine s_st k_st ?_
 refine s_nil trivial ?_
 refine n_wp ?_
 refine w_seq ?_
 refine g_reg hP hn ?_
 have hqm := hq.m
 refine s_op k_mv ?_
 refine s_op k_nc ?_
 refine s_op k_fa ?_
 refine s_op k_fa ?_
 refine s_op k_ld ?_
 refine s_op k_sub ?_
 refine s_op k_rem ?_
 refine s_op k_mk ?_
 refine s_op k_as ?_
 refine s_nil trivial ?_
 refine n_wp ?_
 refine w_seq ?_
 refine w_weak (frz_sl 4 (l' := (List.replicate ((119 - q.m) % 64) 0)) (hl := List.length_replicate) (hl' := by rw [List.drop_zero]; exact List.take_of_length_le (by simp))) ?_
 refine g_reg hP hn ?_
 refine s_op k_bsf ?_
 refine s_op k_mv ?_
 refine s_op k_mv ?_
 refine s_op k_nc ?_
 refine s_op k_fa ?_
 refine s_op k_ld ?_
 refine s_op (k_mul (by exact l_bin rfl rfl (b_mul rfl))) ?_
 refine s_op (k_call [] (con := put8_c _)) ?_
 refine s_op (k_bsz [.fzi .u8 [128], .fzi .u8 (List.replicate ((119 - q.m) % 64) 0), .fzi .u8 (rr 8 8 1 [IntKind.u64.wrap (8 * ((tot : Nat) : Int))] 1)]) ?_
 refine s_op (k_call [2] (con := takes3_c [128] (List.replicate ((119 - q.m) % 64) 0) (rr 8 8 1 [IntKind.u64.wrap (8 * ((tot : Nat) : Int))] 1) q tot hq (by simp [rr_len]; omega)) (H' := [some (RQ q tot), some ⟨true, [.ints .u8 32 (z 32)]⟩, some (RQ (sumQ q tot) (tot + ([128].length + ((List.replicate ((119 - q.m) % 64) 0).length + (rr 8 8 1 [IntKind.u64.wrap (8 * ((tot : Nat) : Int))] 1).length)))), none, none, none]) (hH := rfl)) ?_
 refine s_nil trivial ?_
 refine n_wp ?_
 refine w_seq ?_
 refine g_reg hP hn ?_
 refine s_op k_sl ?_
 refine s_op k_as ?_
 refine s_nil trivial ?_
 refine n_wp ?_
 refine w_seq ?_
 refine w_seq ?_
 refine g_reg hP hn ?_
 refine s_op k_fa ?_
 refine s_op k_ld ?_
 refine s_op k_mv ?_
 refine s_nil trivial ?_
 refine n_wp ?_
 refine w_block ?_
 refine c_loop (fun m T H => ∃ i, i ≤ 8 ∧ m = 8 - i ∧ T = [(2, .s (.ptr 1 0 0)), (5, .s (.fzi .u8 (ob (sumQ q tot).s i))), (41, .s (.fptr 8 (cellsF [.ints .u32 8 (sumQ q tot).s]) 0 0)), (42, .s (.int .i64 ((i : Nat) : Int)))] ∧ H = [some (RQ q tot), some ⟨true, [.ints .u8 32 (z 32)]⟩]) (8) ⟨0, by omega, rfl, rfl, rfl⟩ ((weak_conv 5 rfl conv_slz).trans (wk hE [])) ?_
 rintro n_ T_ H_ ⟨i, hi, rfl, rfl, rfl⟩
 refine w_seq ?_
 refine g_reg hP hn ?_
 refine s_op k_lss ?_
 refine s_nil trivial ?_
 refine n_wp ?_
 refine w_seq ?_
 refine w_if rfl (fun h_t43 => ?_) (fun h_t43 => ?_)
 · skip
   refine w_skip ?_
   refine n_wp ?_
   refine w_seq ?_
   refine w_block ?_
   refine w_seq ?_
   refine g_reg hP hn ?_
   refine s_op k_nc ?_
   refine s_op k_ix ?_
   refine s_op k_ld ?_
   refine s_op k_as ?_
   refine s_nil trivial ?_
   refine n_wp ?_
   refine g_reg hP hn ?_
   refine s_op k_mv ?_
   refine s_op k_mv ?_
   refine s_op k_cv ?_
   refine s_op (k_call [] (con := putob_c (sumQ q tot).s i h_t43)) ?_
   refine s_op k_as ?_
   refine s_nil trivial ?_
   refine n_blo ?_
   refine n_wp ?_
   refine g_reg hP hn ?_
   refine s_op k_add ?_
   refine s_op k_mv ?_
   refine s_nil trivial ?_
   exact n_round (8 - (i + 1)) (by omega) ⟨i + 1, by omega, rfl, rfl, rfl⟩ (wk hE [])
 · skip
   have hi : i = 8 := by omega
   subst hi
   refine w_exit ?_
   refine x_thn ?_
   refine x_thn ?_
   refine x_eq ?_
   refine n_wp ?_
   refine w_seq ?_
   refine g_reg hP hn ?_
   refine s_op k_sl ?_
   refine s_op k_mv ?_
   refine s_op (k_cpn 32 (hn := by rw [ob_len]; rfl) (hz := rfl)) ?_
   refine s_nil trivial ?_
   refine n_wp ?_
   refine w_seq ?_
   refine g_reg hP hn ?_
   refine s_op k_ld ?_
   refine s_st k_st ?_
   refine s_nil trivial ?_
   refine n_wp ?_
   refine w_ret ?_
   exact d_ret hP hn hE [] (r_cell Tryz.results154)

end Go.Proofs.X
end

section
open Go Go.Bx Go.Proofs
namespace Go.Proofs.X
attribute [local irreducible] tk rr sumL ws ls dnI gI
theorem write_n (B : List Int) (n : Nat) (hn : B.length = n) (q : Run) (tot : Nat) (hq : RunOk q) (hl : tot + n < 4611686018427387904) : Con Tryz.prog 153 [.s (.ptr 0 0 0), .s (.fzi .u8 B)] [some (RQ q tot)] (.s (.int .i64 0)) [some (RQ (tk q B) (tot + n))] := by
 subst hn; exact write_c B q tot hq hl

set_option maxRecDepth 100000 in
set_option maxHeartbeats 4000000 in
theorem pad_c (K : List Int) (v : Int) (hK : K.length = 64) : Con Tryz.prog 151 [.s (.int .u8 v), .s (.ptr 0 0 0)] [some ⟨true, [.ints .u8 64 K]⟩] (.s (.fzi .u8 (xk K v 64))) [some ⟨true, [.ints .u8 64 K]⟩] := by
 refine con_in 18 Tryz.func151 rfl rfl (m := 1) rfl ?_
 intro E hP hn hE
 refine w_seq ?_
 refine g_reg hP hn ?_
 refine s_op k_as ?_
 refine s_nil trivial ?_
 refine n_wp ?_
 refine w_seq ?_
 refine g_reg hP hn ?_
 refine s_op k_ld ?_
 refine s_op k_al ?_
 refine s_st k_st ?_
 refine s_nil trivial ?_
 refine n_wp ?_
 refine w_seq ?_
 refine w_seq ?_
 refine g_reg hP hn ?_
 refine s_op k_mv ?_
 refine s_nil trivial ?_
 refine n_wp ?_
 refine w_block ?_
 refine c_loop (fun m T H => ∃ i, i ≤ 64 ∧ m = 64 - i ∧ T = [(0, .s (.int .u8 v)), (4, .s (.ptr 1 0 0)), (7, .s (.int .i64 ((i : Nat) : Int)))] ∧ H = [some ⟨true, [.ints .u8 64 K]⟩, some ⟨true, [.ints .u8 64 (xk K v i)]⟩]) (64) ⟨0, by omega, rfl, rfl, rfl⟩ (wk hE []) ?_
 rintro n_ T_ H_ ⟨i, hi, rfl, rfl, rfl⟩
 have hx := (xk_len K v i).trans hK
 refine w_seq ?_
 refine g_reg hP hn ?_
 refine s_op k_lss ?_
 refine s_nil trivial ?_
 refine n_wp ?_
 refine w_seq ?_
 refine w_if rfl (fun h_t8 => ?_) (fun h_t8 => ?_)
 · skip
   refine w_skip ?_
   refine n_wp ?_
   refine w_seq ?_
   refine w_block ?_
   refine w_seq ?_
   refine g_reg hP hn ?_
   refine s_op k_mv ?_
   refine s_op k_as ?_
   refine s_nil trivial ?_
   refine n_wp ?_
   refine g_reg hP hn ?_
   refine s_op k_mv ?_
   refine s_op k_ix ?_
   refine s_op k_ld ?_
   refine s_op k_mv ?_
   refine s_op k_xor ?_
   refine s_op k_ix ?_
   refine s_st k_st ?_
   refine s_nil trivial ?_
   refine n_blo ?_
   refine n_wp ?_
   refine g_reg hP hn ?_
   refine s_op k_add ?_
   refine s_op k_mv ?_
   refine s_nil trivial ?_
   exact n_round (64 - (i + 1)) (by omega) ⟨i + 1, by omega, rfl, rfl, rfl⟩ (wk hE [])
 · skip
   have hi : i = 64 := by omega
   subst hi
   refine w_exit ?_
   refine x_thn ?_
   refine x_thn ?_
   refine x_eq ?_
   refine n_wp ?_
   refine w_seq ?_
   refine g_reg hP hn ?_
   refine s_op k_sl ?_
   refine s_op k_as ?_
   refine s_nil trivial ?_
   refine n_wp ?_
   refine w_ret ?_
   exact d_retw hP hn (r_tmp Tryz.results151) ((frz_sl 0 (l' := xk K v 64) (hl := hx) (hl' := by rw [List.drop_zero]; exact List.take_of_length_le (Nat.le_of_eq hx))).trans (wk hE []))

set_option maxRecDepth 100000 in
set_option maxHeartbeats 4000000 in
theorem mac_c (K : List Int) (L : List (List Int)) (hK0 : 0 < K.length) (hK : K.length ≤ 64) (hL : L.length ≤ 1000000) (hl : L.flatten.length < 4611686018427380000) : Con Tryz.prog 93 [.s (.fzi .u8 K), .s (ROWS L)] [] (.agg [.ints .u8 32 (hmO K (tk (hmI K) L.flatten) (64 + L.flatten.length))]) [] := by
 refine con_in 50 Tryz.func93 rfl rfl (m := 0) rfl ?_
 intro E hP hn hE
 refine w_seq ?_
 refine g_reg hP hn ?_
 refine s_op k_al ?_
 refine s_nil trivial ?_
 refine n_wp ?_
 refine w_seq ?_
 refine g_reg hP hn ?_
 refine s_op k_al ?_
 refine s_nil trivial ?_
 refine n_wp ?_
 refine w_seq ?_
 refine w_seq ?_
 refine g_reg hP hn ?_
 refine s_op k_mv ?_
 refine s_op k_len ?_
 refine s_op k_gtr ?_
 refine s_nil trivial ?_
 refine n_wp ?_
 refine w_F rfl ?_ 
 refine w_skip ?_
 refine n_wp ?_
 refine w_seq ?_
 refine g_reg hP hn ?_
 refine s_op k_sl ?_
 refine s_op k_mv ?_
 refine s_op (k_cpn K.length) ?_
 refine s_nil trivial ?_
 refine n_wp ?_
 refine w_seq ?_
 refine g_reg hP hn ?_
 refine s_op (k_fn [.ptr 1 0 0]) ?_
 refine s_op k_as ?_
 refine s_nil trivial ?_
 refine n_wp ?_
 refine w_seq ?_
 refine g_reg hP hn ?_
 refine s_op (k_call [] (con := new_c) (v := .s (.ptr 2 0 0)) (hv := rfl) (H' := [some ⟨true, [.ints .u8 32 (z 32)]⟩, some ⟨true, [.ints .u8 64 (k64 K)]⟩, some (RQ run0 0)]) (hH := rfl)) ?_
 refine s_op (k_call [] (con := new_c) (v := .s (.ptr 3 0 0)) (hv := rfl) (H' := [some ⟨true, [.ints .u8 32 (z 32)]⟩, some ⟨true, [.ints .u8 64 (k64 K)]⟩, some (RQ run0 0), some (RQ run0 0)]) (hH := rfl)) ?_
 refine s_op k_as ?_
 refine s_op k_as ?_
 refine s_nil trivial ?_
 refine n_wp ?_
 refine w_seq ?_
 refine g_reg hP hn ?_
 refine s_op k_mv ?_
 refine s_op k_mv ?_
 refine s_op (k_callc [1] rfl (con := pad_c (k64 K) 54 (k64_len K)) (H' := [some ⟨true, [.ints .u8 32 (z 32)]⟩, some ⟨true, [.ints .u8 64 (k64 K)]⟩, some (RQ run0 0), some (RQ run0 0)]) (hH := rfl)) ?_
 refine s_op (k_call [2] (con := write_n (xk (k64 K) 54 64) 64 ((xk_len _ _ _).trans (k64_len K)) run0 0 run0_ok (by omega)) (H' := [some ⟨true, [.ints .u8 32 (z 32)]⟩, some ⟨true, [.ints .u8 64 (k64 K)]⟩, some (RQ (hmI K) 64), some (RQ run0 0)]) (hH := rfl)) ?_
 refine s_nil trivial ?_
 refine n_wp ?_
 refine w_seq ?_
 refine w_seq ?_
 refine g_reg hP hn ?_
 refine s_op k_mv ?_
 refine s_op k_len ?_
 refine s_op k_mv ?_
 refine s_nil trivial ?_
 refine n_wp ?_
 refine w_block ?_
 refine c_loop (fun m T H => ∃ i q t, i ≤ L.length ∧ m = L.length - i ∧ q = tk (hmI K) (L.take i).flatten ∧ t = 64 + (L.take i).flatten.length ∧ T = [(4, .s (.ptr 0 0 0)), (7, .s (.clo 151 1 (capF [.ptr 1 0 0]))), (8, .s (.ptr 2 0 0)), (9, .s (.ptr 3 0 0)), (29, .s (ROWS L)), (30, .s (.int .i64 ((L.length : Nat) : Int))), (31, .s (.int .i64 ((i : Nat) : Int)))] ∧ H = [some ⟨true, [.ints .u8 32 (z 32)]⟩, some ⟨true, [.ints .u8 64 (k64 K)]⟩, some (RQ q t), some (RQ run0 0)]) (L.length) ⟨0, hmI K, 64, by omega, rfl, (tk_nil (hmI K)).symm, rfl, rfl, rfl⟩ (wk hE []) ?_
 rintro n_ T_ H_ ⟨i, q, t, hi, rfl, hq, ht, rfl, rfl⟩
 have hok : RunOk q := hq ▸ tk_ok (hmI_ok K) _
 refine w_seq ?_
 refine g_reg hP hn ?_
 refine s_op k_lss ?_
 refine s_nil trivial ?_
 refine n_wp ?_
 refine w_seq ?_
 refine w_if rfl (fun h_t32 => ?_) (fun h_t32 => ?_)
 · skip
   have hfl := flat_s L h_t32
   have htot : (L.take (i + 1)).flatten.length = (L.take i).flatten.length + (L.getD i []).length := by rw [hfl, List.length_append]
   have hle : (L.take (i + 1)).flatten.length ≤ L.flatten.length := by
     have := congrArg (fun x => (List.flatten x).length) (List.take_append_drop (i + 1) L)
     simp only [List.flatten_append, List.length_append] at this
     omega
   refine w_skip ?_
   refine n_wp ?_
   refine w_seq ?_
   refine w_block ?_
   refine w_seq ?_
   refine g_reg hP hn ?_
   refine s_op k_ix ?_
   refine s_op (k_ld (by exact a_loadf (v := .fzi .u8 (L.getD i [])) rfl (by omega) (rows_at L h_t32))) ?_
   refine s_op k_as ?_
   refine s_nil trivial ?_
   refine n_wp ?_
   refine g_reg hP hn ?_
   refine s_op k_mv ?_
   refine s_op k_mv ?_
   refine s_op (k_call [2] (con := write_c (L.getD i []) q t hok (by omega)) (H' := [some ⟨true, [.ints .u8 32 (z 32)]⟩, some ⟨true, [.ints .u8 64 (k64 K)]⟩, some (RQ (tk q (L.getD i [])) (t + (L.getD i []).length)), some (RQ run0 0)]) (hH := rfl)) ?_
   refine s_nil trivial ?_
   refine n_blo ?_
   refine n_wp ?_
   refine g_reg hP hn ?_
   refine s_op k_add ?_
   refine s_op k_mv ?_
   refine s_nil trivial ?_
   exact n_round (L.length - (i + 1)) (by omega) ⟨i + 1, tk q (L.getD i []), t + (L.getD i []).length, by omega, rfl, by rw [hfl, tk_append, hq], by omega, rfl, rfl⟩ (wk hE [])
 · skip
   have hi : i = L.length := by omega
   subst hi
   rw [List.take_length] at hq ht
   subst hq; subst ht
   have hok := tk_ok (hmI_ok K) L.flatten
   refine w_exit ?_
   refine x_thn ?_
   refine x_thn ?_
   refine x_eq ?_
   refine n_wp ?_
   refine w_seq ?_
   refine g_reg hP hn ?_
   refine s_op k_mv ?_
   refine s_op (k_call [2] (con := sum_c _ _ hok (by omega)) (H' := [some ⟨true, [.ints .u8 32 (z 32)]⟩, some ⟨true, [.ints .u8 64 (k64 K)]⟩, some (RQ (tk (hmI K) L.flatten) (64 + L.flatten.length)), some (RQ run0 0)]) (hH := rfl)) ?_
   refine s_op k_al ?_
   refine s_st k_st ?_
   refine s_nil trivial ?_
   refine n_wp ?_
   refine w_seq ?_
   refine g_reg hP hn ?_
   refine s_op k_mv ?_
   refine s_op k_mv ?_
   refine s_op (k_callc [1] rfl (con := pad_c (k64 K) 92 (k64_len K)) (H' := [some ⟨true, [.ints .u8 32 (z 32)]⟩, some ⟨true, [.ints .u8 64 (k64 K)]⟩, some (RQ (tk (hmI K) L.flatten) (64 + L.flatten.length)), some (RQ run0 0), some ⟨true, [.ints .u8 32 (sumL (tk (hmI K) L.flatten) (64 + L.flatten.length))]⟩]) (hH := rfl)) ?_
   refine s_op (k_call [3] (con := write_n (xk (k64 K) 92 64) 64 ((xk_len _ _ _).trans (k64_len K)) run0 0 run0_ok (by omega)) (H' := [some ⟨true, [.ints .u8 32 (z 32)]⟩, some ⟨true, [.ints .u8 64 (k64 K)]⟩, some (RQ (tk (hmI K) L.flatten) (64 + L.flatten.length)), some (RQ (tk run0 (xk (k64 K) 92 64)) 64), some ⟨true, [.ints .u8 32 (sumL (tk (hmI K) L.flatten) (64 + L.flatten.length))]⟩]) (hH := rfl)) ?_
   refine s_nil trivial ?_
   refine n_wp ?_
   refine w_seq ?_
   refine w_weak (frz_ptr 12 32) ?_
   refine g_reg hP hn ?_
   refine s_op k_mv ?_
   refine s_op (k_slf (hl := sumL_len _ _)) ?_
   refine s_op (k_call [3] (con := write_n (sumL (tk (hmI K) L.flatten) (64 + L.flatten.length)) 32 (sumL_len _ _) (tk run0 (xk (k64 K) 92 64)) 64 (tk_ok run0_ok _) (by omega)) (H' := [some ⟨true, [.ints .u8 32 (z 32)]⟩, some ⟨true, [.ints .u8 64 (k64 K)]⟩, some (RQ (tk (hmI K) L.flatten) (64 + L.flatten.length)), some (RQ (tk (tk run0 (xk (k64 K) 92 64)) (sumL (tk (hmI K) L.flatten) (64 + L.flatten.length))) 96), none]) (hH := rfl)) ?_
   refine s_nil trivial ?_
   refine n_wp ?_
   refine w_seq ?_
   refine g_reg hP hn ?_
   refine s_op k_mv ?_
   refine s_op (k_call [3] (con := sum_c _ 96 (tk_ok (tk_ok run0_ok _) _) (by omega)) (H' := [some ⟨true, [.ints .u8 32 (z 32)]⟩, some ⟨true, [.ints .u8 64 (k64 K)]⟩, some (RQ (tk (hmI K) L.flatten) (64 + L.flatten.length)), some (RQ (tk (tk run0 (xk (k64 K) 92 64)) (sumL (tk (hmI K) L.flatten) (64 + L.flatten.length))) 96), none]) (hH := rfl)) ?_
   refine s_st k_st ?_
   refine s_nil trivial ?_
   refine n_wp ?_
   refine w_ret ?_
   exact d_ret hP hn hE [] (r_cell Tryz.results93)

end Go.Proofs.X
end

section
open Go Go.Bx Go.Proofs
namespace Go.Proofs.X
set_option maxRecDepth 100000
set_option maxHeartbeats 4000000
theorem k64_eq (K : List Int) (h : K.length ≤ 64) : k64 K = K ++ List.replicate (64 - K.length) 0 := by
  refine eqI_n 64 (k64_len _) (by rw [List.length_append, List.length_replicate]; omega) fun i hi => ?_
  rw [k64, spl_getD _ _ _ _ _ _ hi, getD_app, List.take_length]
  by_cases h1 : i < K.length
  · rw [if_pos (by omega), if_pos h1, Nat.sub_zero]
  · rw [if_neg (by omega), if_neg h1, getD_rep]; exact getD_rep 64 i
theorem kz_s (K : List Int) (k n : Nat) (hn : n = K.length + k) : (K ++ List.replicate k 0).take n ++ [0] = K ++ List.replicate (k + 1) 0 := by
  rw [List.take_of_length_le (by simp; omega), List.replicate_succ', ← List.append_assoc]
theorem xk_g (Q : List Int) (v : Int) (m i : Nat) (hQ : Q.length = 64) (hi : i < 64) (hm : m ≤ 64) : (xk Q v m).getD i 0 = if i < m then xorK .u8 (Q.getD i 0) v else Q.getD i 0 := by
  induction m with
  | zero => rw [if_neg (by omega)]; rfl
  | succ m ih =>
    rw [xk, setDI _ _ _ _ (by rw [xk_len]; omega)]
    by_cases h : m = i
    · subst h; rw [if_pos rfl, if_pos (by omega), ih (by omega), if_neg (by omega)]
    · rw [if_neg h, ih (by omega)]
      by_cases h2 : i < m
      · rw [if_pos h2, if_pos (by omega)]
      · rw [if_neg h2, if_neg (by omega)]
theorem xk_t (Q : List Int) (v : Int) (i : Nat) (hQ : Q.length = 64) (hi : i < 64) : ((xk Q v 64).take i).take i ++ [xorK .u8 (Q.getD i 0) v] = (xk Q v 64).take (i + 1) := by
  have hl : (xk Q v 64).length = 64 := (xk_len _ _ _).trans hQ
  have hg := xk_g Q v 64 i hQ hi (Nat.le_refl _)
  rw [if_pos hi] at hg
  rw [List.take_take, Nat.min_self, List.take_add_one, List.getElem?_eq_getElem (by omega), ← hg, List.getD_eq_getElem?_getD, List.getElem?_eq_getElem (by omega)]
  rfl
theorem flat_le (L : List (List Int)) (i : Nat) : (L.take i).flatten.length ≤ L.flatten.length := by
  have e : L.flatten = (L.take i).flatten ++ (L.drop i).flatten := by rw [← List.flatten_append, List.take_append_drop]
  rw [e, List.length_append]; omega
theorem rowput (A : List Int) (L : List (List Int)) {i n : Nat} (h : i < L.length) (hn : (A ++ (L.take i).flatten).length = n) : (A ++ (L.take i).flatten).take n ++ L.getD i [] = A ++ (L.take (i + 1)).flatten := by
  rw [List.take_of_length_le (by omega), List.append_assoc, ← flat_s L h]
theorem U8'_xk (Q : List Int) (v : Int) (hQ : Q.length = 64) : U8' (xk Q v 64) := fun i => by
  by_cases h : i < 64
  · rw [xk_g Q v 64 i hQ h (Nat.le_refl _), if_pos h]
    show 0 ≤ IntKind.u8.wrap _ ∧ IntKind.u8.wrap _ < 256
    show 0 ≤ _ % (256 : Int) ∧ _ % (256 : Int) < 256
    omega
  · rw [List.getD_eq_getElem?_getD, List.getElem?_eq_none (by rw [xk_len]; omega)]; exact ⟨Int.le_refl _, by decide⟩
theorem U8'_rsum (B : List Int) : U8' (rsumL B) := fun i => by
  by_cases h : i < 32
  · rw [rsumL, rob_get _ _ _ (Nat.le_refl _) h]
    show 0 ≤ _ % (256 : Int) ∧ _ % (256 : Int) < 256
    omega
  · rw [List.getD_eq_getElem?_getD, List.getElem?_eq_none (by rw [rsumL_len]; omega)]; exact ⟨Int.le_refl _, by decide⟩
attribute [local irreducible] rblk rfb rob be KS
attribute [local irreducible] rsumL xk k64
theorem rmac_c (K : List Int) (L : List (List Int)) (hK : K.length ≤ 64) (hL : L.length ≤ 1000) (hl : L.flatten.length ≤ 800000) (hu : U8' L.flatten) : Con Tryz.prog 95 [.s (.fzi .u8 K), .s (ROWS L)] [] (.agg [.ints .u8 32 (rmac K L.flatten)]) [] := by
 refine con_in 65 Tryz.func95 rfl rfl (m := 0) rfl ?_
 intro E hP hn hE
 refine w_seq ?_
 refine g_reg hP hn ?_
 refine s_op k_al ?_
 refine s_nil trivial ?_
 refine n_wp ?_
 refine w_seq ?_
 refine w_weak (H' := [some ⟨true, [.ints .u8 32 (z 32)]⟩, some ⟨true, [.ints .u8 0 []]⟩]) (weak_new (segs := [.ints .u8 0 []]) rfl) ?_
 refine g_reg hP hn ?_
 refine s_op k_mv ?_
 refine s_op (k_apn 1) ?_
 refine s_op k_as ?_
 refine s_nil trivial ?_
 refine n_wp ?_
 refine w_seq ?_
 refine w_seq ?_
 refine g_reg hP hn ?_
 refine s_op k_mv ?_
 refine s_op k_len ?_
 refine s_op k_gtr ?_
 refine s_nil trivial ?_
 refine n_wp ?_
 refine w_F rfl ?_ (decide_eq_false (by omega))
 refine w_skip ?_
 refine n_wp ?_
 refine w_seq ?_
 refine w_block ?_
 refine c_loop (fun m_ T H => ∃ k : Nat, k ≤ 64 - K.length ∧ m_ = 64 - K.length - k ∧ T = [(1, .s (ROWS L)), (4, .s (.ptr 0 0 0)), (5, .s (.gro 1 1 (K.length + k)))] ∧ H = [some ⟨true, [.ints .u8 32 (z 32)]⟩, some ⟨true, [.ints .u8 (K.length + k) (K ++ List.replicate k 0)]⟩]) (64 - K.length) ⟨0, by omega, rfl, rfl, by rw [List.replicate_zero, List.append_nil]⟩ (wk hE [0, 2]) ?_
 rintro n_ T_ H_ ⟨k, hk, rfl, rfl, rfl⟩
 refine w_seq ?_
 refine w_seq ?_
 refine g_reg hP hn ?_
 refine s_op k_mv ?_
 refine s_op k_len ?_
 refine s_op k_lss ?_
 refine s_nil trivial ?_
 refine n_wp ?_
 refine w_if rfl (fun h_t23 => ?_) (fun h_t23 => ?_)
 · skip
   refine w_skip ?_
   refine n_wp ?_
   refine w_block ?_
   refine g_reg hP hn ?_
   refine s_op k_mv ?_
   refine s_op k_bsf ?_
   refine s_op (k_apg (c := K.length + (k + 1)) (l' := K ++ List.replicate (k + 1) 0) (hc := by rfl) (hl' := by exact kz_s K k _ rfl) (hq := by exact Nat.le_refl _) (hl := by simp) (hbig := by show K.length + k + 1 ≤ 1000000; omega)) ?_
   refine s_op k_as ?_
   refine s_nil trivial ?_
   refine n_blo ?_
   exact n_round (64 - K.length - (k + 1)) (by omega) ⟨k + 1, by omega, rfl, rfl, rfl⟩ (wk hE [0, 3])
 · skip
   have hke : k = 64 - K.length := by omega
   subst hke
   have hkk : K ++ List.replicate (64 - K.length) 0 = k64 K := (k64_eq K hK).symm
   have h64 : (K ++ List.replicate (64 - K.length) 0).length = K.length + (64 - K.length) := by simp
   refine w_exit ?_
   refine x_thn ?_
   refine x_thn ?_
   refine x_eq ?_
   refine n_wp ?_
   refine w_seq ?_
   refine w_weak (frz_gro 5 (l' := k64 K) (hn := Nat.le_refl _) (hl := h64) (hl' := by rw [← hkk]; exact List.take_of_length_le (Nat.le_of_eq h64))) ?_
   refine g_reg hP hn ?_
   refine s_op k_as ?_
   refine s_op k_as ?_
   refine s_nil trivial ?_
   refine n_wp ?_
   refine w_seq ?_
   refine w_seq ?_
   refine w_weak (T' := [(8, .s (.gro 2 1 0)), (7, .s (.gro 1 1 0)), (1, .s (ROWS L)), (4, .s (.ptr 0 0 0)), (5, .s (.fzi .u8 (k64 K)))]) (H' := [some ⟨true, [.ints .u8 32 (z 32)]⟩, some ⟨true, [.ints .u8 (0) ([])]⟩, some ⟨true, [.ints .u8 (0) ([])]⟩]) ((wk (T' := [(7, .s .nils), (8, .s .nils), (1, .s (ROWS L)), (4, .s (.ptr 0 0 0)), (5, .s (.fzi .u8 (k64 K)))]) (H' := [some ⟨true, [.ints .u8 32 (z 32)]⟩]) hE [0]).trans ((weak_gro 7 1 1 (segs := [.ints .u8 0 []]) rfl rfl rfl).trans ((weak_gro 8 1 2 (segs := [.ints .u8 0 []]) rfl rfl rfl).trans (weak_tm)))) ?_
   refine g_reg hP hn ?_
   refine s_op k_as ?_
   refine s_nil trivial ?_
   refine n_wp ?_
   refine w_block ?_
   refine c_loop (fun m_ T H => ∃ i : Nat, i ≤ 64 ∧ m_ = 64 - i ∧ T = [(1, .s (ROWS L)), (4, .s (.ptr 0 0 0)), (5, .s (.fzi .u8 (k64 K))), (7, .s (.gro 1 1 i)), (8, .s (.gro 2 1 i)), (9, .s (.int .i64 ((i : Nat) : Int)))] ∧ H = [some ⟨true, [.ints .u8 32 (z 32)]⟩, some ⟨true, [.ints .u8 (i) ((xk (k64 K) 54 64).take i)]⟩, some ⟨true, [.ints .u8 (i) ((xk (k64 K) 92 64).take i)]⟩]) (64) ⟨0, by omega, rfl, rfl, by rw [List.take_zero, List.take_zero]⟩ (wk hE [0, 1, 2]) ?_
   rintro n_ T_ H_ ⟨i, hi, rfl, rfl, rfl⟩
   have hq64 := k64_len K
   refine w_seq ?_
   refine w_seq ?_
   refine g_reg hP hn ?_
   refine s_op k_mv ?_
   refine s_op k_lss ?_
   refine s_nil trivial ?_
   refine n_wp ?_
   refine w_if rfl (fun h_t28 => ?_) (fun h_t28 => ?_)
   · skip
     refine w_skip ?_
     refine n_wp ?_
     refine w_seq ?_
     refine w_block ?_
     refine w_seq ?_
     refine g_reg hP hn ?_
     refine s_op k_mv ?_
     refine s_op k_mv ?_
     refine s_op k_mv ?_
     refine s_op k_ix ?_
     refine s_op k_ld ?_
     refine s_op k_xor ?_
     refine s_op k_bsf ?_
     refine s_op (k_apg (c := i + 1) (l' := (xk (k64 K) 54 64).take (i + 1)) (hc := by rfl) (hl' := by exact xk_t _ _ i (k64_len K) h_t28) (hq := by exact Nat.le_refl _) (hl := by rw [List.length_take, xk64_len]; omega) (hbig := by show i + 1 ≤ 1000000; omega)) ?_
     refine s_op k_as ?_
     refine s_nil trivial ?_
     refine n_wp ?_
     refine g_reg hP hn ?_
     refine s_op k_mv ?_
     refine s_op k_mv ?_
     refine s_op k_mv ?_
     refine s_op k_ix ?_
     refine s_op k_ld ?_
     refine s_op k_xor ?_
     refine s_op k_bsf ?_
     refine s_op (k_apg (c := i + 1) (l' := (xk (k64 K) 92 64).take (i + 1)) (hc := by rfl) (hl' := by exact xk_t _ _ i (k64_len K) h_t28) (hq := by exact Nat.le_refl _) (hl := by rw [List.length_take, xk64_len]; omega) (hbig := by show i + 1 ≤ 1000000; omega)) ?_
     refine s_op k_as ?_
     refine s_nil trivial ?_
     refine n_blo ?_
     refine n_wp ?_
     refine g_reg hP hn ?_
     refine s_op k_mv ?_
     refine s_op k_add ?_
     refine s_op k_as ?_
     refine s_nil trivial ?_
     exact n_round (64 - (i + 1)) (by omega) ⟨i + 1, by omega, rfl, rfl, rfl⟩ (wk hE [0, 4, 6])
   · skip
     obtain rfl : i = 64 := by omega
     rw [List.take_of_length_le (Nat.le_of_eq (xk64_len K 54)), List.take_of_length_le (Nat.le_of_eq (xk64_len K 92))]
     unfold rmac
     have hXI := xk64_len K 54
     have hXO := xk64_len K 92
     have hUI := U8'_xk (k64 K) 54 (k64_len K)
     have hUO := U8'_xk (k64 K) 92 (k64_len K)
     generalize (xk (k64 K) 54 64) = XI at *
     generalize (xk (k64 K) 92 64) = XO at *
     refine w_exit ?_
     refine x_thn ?_
     refine x_thn ?_
     refine x_eq ?_
     refine n_wp ?_
     refine w_seq ?_
     refine w_seq ?_
     refine g_reg hP hn ?_
     refine s_op k_as ?_
     refine s_nil trivial ?_
     refine n_wp ?_
     refine w_block ?_
     refine c_loop (fun m_ T H => ∃ i : Nat, i ≤ L.length ∧ m_ = L.length - i ∧ T = [(1, .s (ROWS L)), (4, .s (.ptr 0 0 0)), (7, .s (.gro 1 1 (64 + (L.take i).flatten.length))), (8, .s (.gro 2 1 64)), (10, .s (.int .i64 ((i : Nat) : Int)))] ∧ H = [some ⟨true, [.ints .u8 32 (z 32)]⟩, some ⟨true, [.ints .u8 (64 + (L.take i).flatten.length) (XI ++ (L.take i).flatten)]⟩, some ⟨true, [.ints .u8 (64) (XO)]⟩]) (L.length) ⟨0, Nat.zero_le _, rfl, rfl, by rw [List.take_zero, List.flatten_nil, List.append_nil]⟩ (wk hE [0, 1, 2]) ?_
     rintro n_ T_ H_ ⟨i, hi, rfl, rfl, rfl⟩
     refine w_seq ?_
     refine w_seq ?_
     refine g_reg hP hn ?_
     refine s_op k_mv ?_
     refine s_op k_mv ?_
     refine s_op k_len ?_
     refine s_op k_lss ?_
     refine s_nil trivial ?_
     refine n_wp ?_
     refine w_if rfl (fun h_t50 => ?_) (fun h_t50 => ?_)
     · skip
       have hf1 := flat_le L i
       have hf2 := flat_le L (i + 1)
       have hf3 := flat_s L h_t50
       have hf4 : (L.take (i + 1)).flatten.length = (L.take i).flatten.length + (L.getD i []).length := by rw [hf3, List.length_append]
       refine w_skip ?_
       refine n_wp ?_
       refine w_seq ?_
       refine w_block ?_
       refine g_reg hP hn ?_
       refine s_op k_mv ?_
       refine s_op k_mv ?_
       refine s_op k_mv ?_
       refine s_op k_ix ?_
       refine s_op (k_ld (by exact a_loadf (v := .fzi .u8 (L.getD i [])) rfl (by omega) (rows_at L h_t50))) ?_
       refine s_op (k_apg (c := 64 + (L.take (i + 1)).flatten.length) (l' := XI ++ (L.take (i + 1)).flatten) (hc := by rw [flat_s L h_t50, List.length_append]; omega) (hl' := by exact rowput XI L h_t50 (by rw [List.length_append, hXI])) (hq := by exact Nat.le_refl _) (hl := by rw [List.length_append, hXI]) (hbig := by omega)) ?_
       refine s_op k_as ?_
       refine s_nil trivial ?_
       refine n_blo ?_
       refine n_wp ?_
       refine g_reg hP hn ?_
       refine s_op k_mv ?_
       refine s_op k_add ?_
       refine s_op k_as ?_
       refine s_nil trivial ?_
       exact n_round (L.length - (i + 1)) (by omega) ⟨i + 1, by omega, rfl, rfl, rfl⟩ (wk hE [0, 3, 2])
     · skip
       obtain rfl : i = L.length := Nat.le_antisymm hi (by omega)
       rw [show L.take L.length = L from List.take_length]
       have hu1 : U8' (XI ++ L.flatten) := U8'_app hUI hu
       refine w_exit ?_
       refine x_thn ?_
       refine x_thn ?_
       refine x_eq ?_
       refine n_wp ?_
       refine w_seq ?_
       refine w_weak (frz_gro 7 (l' := XI ++ L.flatten) (hn := Nat.le_refl _) (hl := by rw [List.length_append, hXI]) (hl' := List.take_of_length_le (by rw [List.length_append, hXI]; exact Nat.le_refl _))) ?_
       refine g_reg hP hn ?_
       refine s_op k_mv ?_
       refine s_op (k_call [] (con := rof_c _ hu1 (by rw [List.length_append, hXI]; omega))) ?_
       refine s_op k_al ?_
       refine s_st k_st ?_
       refine s_nil trivial ?_
       refine n_wp ?_
       refine w_seq ?_
       refine w_weak (T' := [(4, .s (.ptr 0 0 0)), (8, .s (.gro 1 1 64)), (11, .s (.fptr 32 (cellsF [.ints .u8 32 (rsumL (XI ++ L.flatten))]) 0 0))]) (H' := [some ⟨true, [.ints .u8 32 (z 32)]⟩, some ⟨true, [.ints .u8 (64) (XO)]⟩]) ((frz_ptr 11 32).trans (wk hE [0, 2])) ?_
       have hSI := rsumL_len (XI ++ L.flatten)
       have hUI := U8'_rsum (XI ++ L.flatten)
       generalize rsumL (XI ++ L.flatten) = SI at *
       have hu2 : U8' (XO ++ SI) := U8'_app hUO hUI
       refine g_reg hP hn ?_
       refine s_op k_mv ?_
       refine s_op (k_slf (hl := hSI)) ?_
       refine s_op (k_apg (c := 64 + 32) (l' := XO ++ SI) (hc := by rw [hSI]) (hl' := by rw [List.take_of_length_le (by omega)]) (hq := by exact Nat.le_refl _) (hl := hXO) (hbig := by rw [hSI]; exact Nat.le_of_ble_eq_true rfl)) ?_
       refine s_op (k_tmp 2 (h := k_call [] (con := rof_c (XO ++ SI) hu2 (by rw [List.length_append, hXO, hSI]; exact Nat.le_of_ble_eq_true rfl)) (hargs := by exact .cons rfl (conv_gro (id := 2) (n := 64 + 32) (kk := .u8) (l := XO ++ SI) (k := ⟨false, [.ints .u8 (64 + 32) (XO ++ SI)]⟩) rfl rfl rfl (Nat.le_refl _) (by rw [List.length_append, hXO, hSI]) (List.take_of_length_le (by rw [List.length_append, hXO, hSI]; exact Nat.le_refl _))) .nil))) ?_
       refine s_st k_st ?_
       refine s_nil trivial ?_
       refine n_wp ?_
       refine w_ret ?_
       exact d_ret hP hn hE [] (r_cell Tryz.results95)

end Go.Proofs.X
end

section
/- Types and functions of layer 10, as instances. -/
open Go Go.Bx Go.Proofs
namespace Go.Proofs.X
instance : Clb Tryz.prog 17 := ⟨_, Tryz.func17, by kernel_rfl, rfl⟩
instance : Clb Tryz.prog 19 := ⟨_, Tryz.func19, by kernel_rfl, rfl⟩
instance : Clb Tryz.prog 16 := ⟨_, Tryz.func16, by kernel_rfl, rfl⟩
instance : Clb Tryz.prog 18 := ⟨_, Tryz.func18, by kernel_rfl, rfl⟩
instance : Clb Tryz.prog 15 := ⟨_, Tryz.func15, by kernel_rfl, rfl⟩
instance : Clb Tryz.prog 4 := ⟨_, Tryz.func4, by kernel_rfl, rfl⟩
instance : NoEq Tryz.prog 58 := ⟨by kernel_rfl⟩
instance : Und Tryz.prog 53 (.struct #[{ name := "Shared", type := 49, offset := 0, embedded := false, tag := "", pkgPath := "", byteOffset := 0 }, { name := "ID", type := 51, offset := 4, embedded := false, tag := "", pkgPath := "", byteOffset := 32 }, { name := "Bytes", type := 3, offset := 36, embedded := false, tag := "", pkgPath := "", byteOffset := 64 }, { name := "Place", type := 3, offset := 37, embedded := false, tag := "", pkgPath := "", byteOffset := 72 }, { name := "B", type := 23, offset := 38, embedded := false, tag := "", pkgPath := "", byteOffset := 80 }]) := ⟨Tryz.underlying53⟩
instance : Sz Tryz.prog 53 39 := ⟨Tryz.sizeOf53⟩
instance : Ag Tryz.prog 53 true := ⟨Tryz.isAgg53⟩
instance : Zv Tryz.prog 53 [.ints .u64 4 (zs (List.replicate 4 0)), .ints .u8 32 (zs (List.replicate 32 0)), .one (.int .i64 0), .one (.int .i64 0), .one .nils] := ⟨_, Tryz.zeroValue53, by kernel_rfl⟩
instance : FldC Tryz.prog 53 0 0 := ⟨_, _, _, Tryz.underlying53, rfl, Tryz.sizeOf49, by decide, rfl⟩
instance : FldC Tryz.prog 53 1 4 := ⟨_, _, _, Tryz.underlying53, rfl, Tryz.sizeOf51, by decide, rfl⟩
instance : FldC Tryz.prog 53 2 36 := ⟨_, _, _, Tryz.underlying53, rfl, Tryz.sizeOf3, by decide, rfl⟩
instance : FldC Tryz.prog 53 3 37 := ⟨_, _, _, Tryz.underlying53, rfl, Tryz.sizeOf3, by decide, rfl⟩
instance : FldC Tryz.prog 53 4 38 := ⟨_, _, _, Tryz.underlying53, rfl, Tryz.sizeOf23, by decide, rfl⟩
instance : Pl Tryz.prog 53 #[(0, 4), (4, 32), (36, 1), (37, 1), (38, 1)] := ⟨_, Tryz.underlying53, fun w => by kernel_rfl⟩
instance : Inf Tryz.prog 53 Tryz.t53 := ⟨by kernel_rfl⟩
instance : Und Tryz.prog 54 (.int .i64) := ⟨Tryz.underlying54⟩
instance : Sz Tryz.prog 54 1 := ⟨Tryz.sizeOf54⟩
instance : Ag Tryz.prog 54 false := ⟨Tryz.isAgg54⟩
instance : Zv Tryz.prog 54 [.one (.int .i64 0)] := ⟨_, Tryz.zeroValue54, by kernel_rfl⟩
instance : Zi Tryz.prog 54 .i64 := ⟨Tryz.zeroValue54⟩
instance : Inf Tryz.prog 54 Tryz.t54 := ⟨by kernel_rfl⟩
end Go.Proofs.X
end
