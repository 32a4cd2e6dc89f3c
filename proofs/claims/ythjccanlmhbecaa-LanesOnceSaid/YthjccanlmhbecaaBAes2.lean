/- A part of the proofs of this claim: BAes2 (BAes2). No conditions. -/
import Derived.Test.YthjccanlmhbecaaBAes1
set_option linter.unusedVariables false
set_option linter.unusedSimpArgs false
open Go Go.Bx Go.Proofs
namespace Go.Proofs.X
attribute [local irreducible] SB BK
set_option maxRecDepth 100000 in
set_option maxHeartbeats 4000000 in
theorem boxes_c  : Con Try.prog 38 [] [] (.tup [.agg [.ints .u8 256 SB], .agg [.ints .u8 256 BK]]) [] := by
 refine con_in 62 Try.func38 rfl rfl (m := 0) rfl ?_
 intro E hP hn hE
 refine w_seq ?_
 refine g_reg hP hn ?_
 refine s_op k_al ?_
 refine s_op k_al ?_
 refine s_nil trivial ?_
 refine n_wp ?_
 refine w_seq ?_
 refine g_reg hP hn ?_
 refine s_op k_al ?_
 refine s_op k_al ?_
 refine s_nil trivial ?_
 refine n_wp ?_
 refine w_seq ?_
 refine g_reg hP hn ?_
 refine s_op k_as ?_
 refine s_nil trivial ?_
 refine n_wp ?_
 refine w_seq ?_
 refine w_seq ?_
 refine g_reg hP hn ?_
 refine s_op k_mv ?_
 refine s_nil trivial ?_
 refine n_wp ?_
 refine w_block ?_
 refine c_loop (fun m T H => ∃ k, k ≤ 255 ∧ m = 255 - k ∧ T = [(0, .s (.ptr 0 0 0)), (1, .s (.ptr 1 0 0)), (2, .s (.ptr 2 0 0)), (3, .s (.ptr 3 0 0)), (4, .s (.int .u8 (p1 k).1)), (10, .s (.int .i64 ((k : Nat) : Int)))] ∧ H = [some ⟨true, [.ints .u8 256 (z 256)]⟩, some ⟨true, [.ints .u8 256 (z 256)]⟩, some ⟨true, [.ints .u8 256 (p1 k).2.1]⟩, some ⟨true, [.ints .u8 256 (p1 k).2.2]⟩]) (255) ⟨0, by omega, rfl, rfl, rfl⟩ (wk hE []) ?_
 rintro n_ T_ H_ ⟨k, hk, rfl, rfl, rfl⟩
 have hr := p1_range k
 have hl1 := (p1_len k).1
 have hl2 := (p1_len k).2
 refine w_seq ?_
 refine g_reg hP hn ?_
 refine s_op k_lss ?_
 refine s_nil trivial ?_
 refine n_wp ?_
 refine w_seq ?_
 refine w_if rfl (fun h_t11 => ?_) (fun h_t11 => ?_)
 · skip
   refine w_skip ?_
   refine n_wp ?_
   refine w_seq ?_
   refine w_block ?_
   refine w_seq ?_
   refine g_reg hP hn ?_
   refine s_op k_mv ?_
   refine s_op k_as ?_
   refine s_nil trivial ?_
   refine n_wp ?_
   refine w_seq ?_
   refine g_reg hP hn ?_
   refine s_op k_mv ?_
   refine s_op k_mv ?_
   refine s_op k_mv ?_
   refine s_op k_mv ?_
   refine s_op k_cv ?_
   refine s_op k_ix ?_
   refine s_st k_st ?_
   refine s_op (k_ix (by exact a_ixp (hj := ⟨(Int.toNat_of_nonneg hr.1).symm⟩) rfl rfl (by have := hr; omega))) ?_
   refine s_st k_st ?_
   refine s_nil trivial ?_
   refine n_wp ?_
   refine g_reg hP hn ?_
   refine s_op k_mv ?_
   refine s_op k_mv ?_
   refine s_op (k_call [] (con := twice_c _)) ?_
   refine s_op k_xor ?_
   refine s_op k_as ?_
   refine s_nil trivial ?_
   refine n_blo ?_
   refine n_wp ?_
   refine g_reg hP hn ?_
   refine s_op k_add ?_
   refine s_op k_mv ?_
   refine s_nil trivial ?_
   exact n_round (255 - (k + 1)) (by omega) ⟨k + 1, by omega, rfl, rfl, rfl⟩ (wk hE [])
 · skip
   have hk5 : k = 255 := by omega
   obtain ⟨P, hPe⟩ : ∃ P, P = (p1 k).2.1 := ⟨_, rfl⟩
   obtain ⟨L, hLe⟩ : ∃ L, L = (p1 k).2.2 := ⟨_, rfl⟩
   rw [← hPe, ← hLe]
   rw [← hPe] at hl1
   rw [← hLe] at hl2
   have hLr : ∀ i, i < 256 → 0 ≤ L.getD i 0 ∧ L.getD i 0 ≤ 255 := fun i hi => by rw [hLe, hk5]; exact logsOk_at logs_ok hi
   have hPL : p2 P L 256 = (SB, BK) := by rw [hPe, hLe, hk5]; exact boxes_eq
   refine w_exit ?_
   refine x_thn ?_
   refine x_thn ?_
   refine x_eq ?_
   refine n_wp ?_
   refine w_seq ?_
   refine w_seq ?_
   refine g_reg hP hn ?_
   refine s_op k_mv ?_
   refine s_nil trivial ?_
   refine n_wp ?_
   refine w_block ?_
   refine c_loop (fun m T H => ∃ k, k ≤ 256 ∧ m = 256 - k ∧ T = [(0, .s (.ptr 0 0 0)), (1, .s (.ptr 1 0 0)), (2, .s (.ptr 2 0 0)), (3, .s (.ptr 3 0 0)), (25, .s (.int .i64 ((k : Nat) : Int)))] ∧ H = [some ⟨true, [.ints .u8 256 (p2 P L k).1]⟩, some ⟨true, [.ints .u8 256 (p2 P L k).2]⟩, some ⟨true, [.ints .u8 256 P]⟩, some ⟨true, [.ints .u8 256 L]⟩]) (256) ⟨0, by omega, rfl, rfl, rfl⟩ (wk hE []) ?_
   rintro n_ T_ H_ ⟨k, hk, rfl, rfl, rfl⟩
   have hm1 := (p2_len P L k).1
   have hm2 := (p2_len P L k).2
   refine w_seq ?_
   refine g_reg hP hn ?_
   refine s_op k_lss ?_
   refine s_nil trivial ?_
   refine n_wp ?_
   refine w_seq ?_
   refine w_if rfl (fun h_t26 => ?_) (fun h_t26 => ?_)
   · skip
     refine w_skip ?_
     refine n_wp ?_
     refine w_seq ?_
     refine w_block ?_
     refine w_seq ?_
     refine g_reg hP hn ?_
     refine s_op k_mv ?_
     refine s_op k_as ?_
     refine s_nil trivial ?_
     refine n_wp ?_
     refine w_seq ?_
     refine g_reg hP hn ?_
     refine s_op k_as ?_
     refine s_nil trivial ?_
     refine n_wp ?_
     refine w_seq ?_
     refine w_seq ?_
     refine g_reg hP hn ?_
     refine s_op k_mv ?_
     refine s_op k_gtr ?_
     refine s_nil trivial ?_
     refine n_wp ?_
     refine w_cut (fun T H => T = [(0, .s (.ptr 0 0 0)), (1, .s (.ptr 1 0 0)), (2, .s (.ptr 2 0 0)), (3, .s (.ptr 3 0 0)), (6, .s (.int .i64 ((k : Nat) : Int))), (7, .s (.int .u8 (boxY P L k))), (25, .s (.int .i64 ((k : Nat) : Int)))] ∧ H = [some ⟨true, [.ints .u8 256 (p2 P L k).1]⟩, some ⟨true, [.ints .u8 256 (p2 P L k).2]⟩, some ⟨true, [.ints .u8 256 P]⟩, some ⟨true, [.ints .u8 256 L]⟩]) ?_ ?_
     · skip
       refine w_if rfl (fun h_t29 => ?_) (fun h_t29 => ?_)
       · skip
         have hy : boxY P L k = P.getD ((255 - L.getD k 0) % 255).toNat 0 := if_pos h_t29
         have hlk := hLr k h_t26
         refine g_reg hP hn ?_
         refine s_op k_mv ?_
         refine s_op k_ix ?_
         refine s_op k_ld ?_
         refine s_op (k_cv (by exact a_conv rfl (wrap_i64 (by omega)))) ?_
         refine s_op (k_sub (by exact l_bin rfl rfl (b_sub (wrap_i64 (by omega))))) ?_
         refine s_op (k_rem (by exact l_bin rfl rfl (b_rem (by decide) (Int.tmod_eq_emod_of_nonneg (by omega))))) ?_
         refine s_op (k_ix (by exact a_ixp (hj := ⟨(Int.toNat_of_nonneg (Int.emod_nonneg _ (by decide))).symm⟩) rfl rfl (by omega))) ?_
         refine s_op k_ld ?_
         refine s_op k_as ?_
         refine s_nil trivial ?_
         rw [← hy]
         exact n_cut ⟨rfl, rfl⟩ (wk hE [])
       · skip
         have hy : boxY P L k = 0 := if_neg h_t29
         refine w_skip ?_
         rw [← hy]
         exact n_cut ⟨rfl, rfl⟩ (wk hE [])
     rintro T H ⟨rfl, rfl⟩
     refine w_seq ?_
     refine g_reg hP hn ?_
     refine s_op k_as ?_
     refine s_nil trivial ?_
     refine n_wp ?_
     refine w_seq ?_
     refine w_seq ?_
     refine g_reg hP hn ?_
     refine s_op k_mv ?_
     refine s_nil trivial ?_
     refine n_wp ?_
     refine w_block ?_
     refine c_loop (fun m T H => ∃ n, n ≤ 5 ∧ m = 5 - n ∧ T = [(0, .s (.ptr 0 0 0)), (1, .s (.ptr 1 0 0)), (2, .s (.ptr 2 0 0)), (3, .s (.ptr 3 0 0)), (6, .s (.int .i64 ((k : Nat) : Int))), (7, .s (.int .u8 (boxY P L k))), (8, .s (.int .u8 (boxO (boxY P L k) n))), (25, .s (.int .i64 ((k : Nat) : Int))), (38, .s (.int .i64 ((n : Nat) : Int)))] ∧ H = [some ⟨true, [.ints .u8 256 (p2 P L k).1]⟩, some ⟨true, [.ints .u8 256 (p2 P L k).2]⟩, some ⟨true, [.ints .u8 256 P]⟩, some ⟨true, [.ints .u8 256 L]⟩]) (5) ⟨0, by omega, rfl, rfl, rfl⟩ (wk hE []) ?_
     rintro n_ T_ H_ ⟨n, hn5, rfl, rfl, rfl⟩
     refine w_seq ?_
     refine g_reg hP hn ?_
     refine s_op k_lss ?_
     refine s_nil trivial ?_
     refine n_wp ?_
     refine w_seq ?_
     refine w_if rfl (fun h_t39 => ?_) (fun h_t39 => ?_)
     · skip
       refine w_skip ?_
       refine n_wp ?_
       refine w_seq ?_
       refine w_block ?_
       refine w_seq ?_
       refine g_reg hP hn ?_
       refine s_op k_mv ?_
       refine s_op k_as ?_
       refine s_nil trivial ?_
       refine n_wp ?_
       refine g_any hP hn ?_
       refine s_op k_mv ?_
       refine s_op k_mv ?_
       refine s_op k_mv ?_
       refine s_op k_shl ?_
       refine s_op k_mv ?_
       refine s_op k_mv ?_
       refine s_op (k_sub (by exact l_bin rfl rfl (b_sub (wrap_i64 (by omega))))) ?_
       refine s_op k_shr ?_
       refine s_op k_or ?_
       refine s_op k_xor ?_
       refine s_op k_as ?_
       refine s_nil (by kernel_rfl) ?_
       refine n_blo ?_
       refine n_wp ?_
       refine g_reg hP hn ?_
       refine s_op k_add ?_
       refine s_op k_mv ?_
       refine s_nil trivial ?_
       exact n_round (5 - (n + 1)) (by omega) ⟨n + 1, by omega, rfl, rfl, rfl⟩ (wk hE [])
     · skip
       have hn6 : n = 5 := by omega
       obtain ⟨BO, hbo⟩ : ∃ BO, BO = boxO (boxY P L k) n := ⟨_, rfl⟩
       have hbr : 0 ≤ BO ∧ BO < 256 := hbo ▸ boxO_range _ _
       rw [← hbo]
       rw [hn6] at hbo
       have hbo := hbo.symm
       refine w_exit ?_
       refine x_thn ?_
       refine x_thn ?_
       refine x_eq ?_
       refine n_wp ?_
       refine g_reg hP hn ?_
       refine s_op k_mv ?_
       refine s_op k_mv ?_
       refine s_op k_mv ?_
       refine s_op k_mv ?_
       refine s_op k_cv ?_
       refine s_op k_ix ?_
       refine s_st k_st ?_
       refine s_op (k_ix (by exact a_ixp (hj := ⟨(Int.toNat_of_nonneg hbr.1).symm⟩) rfl rfl (by have := hbr; omega))) ?_
       refine s_st k_st ?_
       refine s_nil trivial ?_
       refine n_blo ?_
       refine n_wp ?_
       refine g_reg hP hn ?_
       refine s_op k_add ?_
       refine s_op k_mv ?_
       refine s_nil trivial ?_
       exact n_round (256 - (k + 1)) (by omega) ⟨k + 1, by omega, rfl, rfl, by rw [p2, hbo]⟩ (wk hE [])
   · skip
     have hk6 : k = 256 := by omega
     rw [show p2 P L k = (SB, BK) by rw [hk6]; exact hPL]
     refine w_exit ?_
     refine x_thn ?_
     refine x_thn ?_
     refine x_eq ?_
     refine n_wp ?_
     refine w_seq ?_
     refine g_any hP hn ?_
     refine s_op k_ld ?_
     refine s_op k_ld ?_
     refine s_st k_st ?_
     refine s_st k_st ?_
     refine s_nil (by kernel_rfl) ?_
     refine n_wp ?_
     refine w_ret ?_
     exact d_ret hP hn hE [] (ret2 Try.results38 r_cella r_cella)

set_option maxRecDepth 100000 in
set_option maxHeartbeats 4000000 in
theorem machine_c (key : List Int) (hk8 : U8 key) : Con Try.prog 30 [.agg [.ints .u8 16 key]] [] (.s (.fptr 688 (cellsF [.ints .u8 256 SB, .ints .u8 256 BK, .ints .u8 176 (keysOf key)]) 0 0)) [] := by
 refine con_in 95 Try.func30 rfl rfl (m := 0) rfl ?_
 intro E hP hn hE
 refine w_seq ?_
 refine g_reg hP hn ?_
 refine s_op k_bx ?_
 refine s_op k_as ?_
 refine s_nil trivial ?_
 refine n_wp ?_
 refine w_seq ?_
 refine g_reg hP hn ?_
 refine s_op k_bd ?_
 refine s_op k_bx ?_
 refine s_op k_as ?_
 refine s_nil trivial ?_
 refine n_wp ?_
 refine w_seq ?_
 refine g_reg hP hn ?_
 refine s_op k_mv ?_
 refine s_op k_mv ?_
 refine s_op (k_call [] (con := boxes_c)) ?_
 refine s_op k_mv ?_
 refine s_op k_ex ?_
 refine s_op k_ex ?_
 refine s_op k_nc ?_
 refine s_op k_fa ?_
 refine s_st k_st ?_
 refine s_op k_nc ?_
 refine s_op k_fa ?_
 refine s_st k_st ?_
 refine s_nil trivial ?_
 refine n_wp ?_
 refine w_seq ?_
 refine g_any hP hn ?_
 refine s_op k_mv ?_
 refine s_op k_ld ?_
 refine s_op k_nc ?_
 refine s_op k_fa ?_
 refine s_op k_ix ?_
 refine s_st (k_st (by exact a_store_aggI rfl rfl rfl rfl (by exact Nat.le_of_ble_eq_true rfl) (by omega) (hset_seg (by first | exact sset_0 | exact sset_s _ rfl rfl sset_0 | exact sset_s _ rfl rfl (sset_s _ rfl rfl sset_0)) (by repeat (first | exact hset_0 | apply hset_s))))) ?_
 refine s_nil (by kernel_rfl) ?_
 refine n_wp ?_
 refine w_seq ?_
 refine g_reg hP hn ?_
 refine s_op k_as ?_
 refine s_nil trivial ?_
 refine n_wp ?_
 refine w_seq ?_
 refine w_seq ?_
 refine g_reg hP hn ?_
 refine s_op k_as ?_
 refine s_nil trivial ?_
 refine n_wp ?_
 refine w_block ?_
 refine c_loop (fun m T H => ∃ k, k ≤ 10 ∧ m = 10 - k ∧ T = [(1, .s (.ptr 0 0 0)), (3, .s (.ptr 1 0 0)), (4, .s (.int .u8 (ks SB key k).1)), (5, .s (.int .i64 ((k + 1 : Nat) : Int)))] ∧ H = [some ⟨true, [.ints .u8 16 key]⟩, some ⟨true, [.ints .u8 256 SB, .ints .u8 256 BK, .ints .u8 176 (ks SB key k).2]⟩]) (10) ⟨0, by omega, rfl, rfl, rfl⟩ (wk hE []) ?_
 rintro n_ T_ H_ ⟨k, hk, rfl, rfl, rfl⟩
 have hkl := ks_len SB key k
 have hU : U8 ((((ks SB key k).2).drop (k * 16)).take 16) := (U8_ks U8_SB hk8 k).cut _ _
 have u12 := hU 12
 have u13 := hU 13
 have u14 := hU 14
 have u15 := hU 15
 refine w_seq ?_
 refine w_seq ?_
 refine g_reg hP hn ?_
 refine s_op k_mv ?_
 refine s_op k_leq ?_
 refine s_nil trivial ?_
 refine n_wp ?_
 refine w_if rfl (fun h_t27 => ?_) (fun h_t27 => ?_)
 · skip
   refine w_skip ?_
   refine n_wp ?_
   refine w_seq ?_
   refine w_block ?_
   refine w_seq ?_
   refine g_reg hP hn ?_
   refine s_op k_mv ?_
   refine s_op k_mv ?_
   refine s_op k_sub ?_
   refine s_op k_nc ?_
   refine s_op k_fa ?_
   refine s_op k_ix ?_
   refine s_op k_ld ?_
   refine s_op k_al ?_
   refine s_st k_st ?_
   refine s_nil trivial ?_
   refine n_wp ?_
   refine w_seq ?_
   refine g_any hP hn ?_
   refine s_op k_mv ?_
   refine s_op k_ix ?_
   refine s_op k_ld ?_
   refine s_op k_nc ?_
   refine s_op k_fa ?_
   refine s_op (k_ix (by exact a_ixp (hj := ⟨(Int.toNat_of_nonneg (hU 13).1).symm⟩) rfl rfl (by have := hU 13; omega))) ?_
   refine s_op k_ld ?_
   refine s_op k_mv ?_
   refine s_op k_xor ?_
   refine s_op k_mv ?_
   refine s_op k_ix ?_
   refine s_op k_ld ?_
   refine s_op k_nc ?_
   refine s_op k_fa ?_
   refine s_op (k_ix (by exact a_ixp (hj := ⟨(Int.toNat_of_nonneg (hU 14).1).symm⟩) rfl rfl (by have := hU 14; omega))) ?_
   refine s_op k_ld ?_
   refine s_op k_mv ?_
   refine s_op k_ix ?_
   refine s_op k_ld ?_
   refine s_op k_nc ?_
   refine s_op k_fa ?_
   refine s_op (k_ix (by exact a_ixp (hj := ⟨(Int.toNat_of_nonneg (hU 15).1).symm⟩) rfl rfl (by have := hU 15; omega))) ?_
   refine s_op k_ld ?_
   refine s_op k_mv ?_
   refine s_op k_ix ?_
   refine s_op k_ld ?_
   refine s_op k_nc ?_
   refine s_op k_fa ?_
   refine s_op (k_ix (by exact a_ixp (hj := ⟨(Int.toNat_of_nonneg (hU 12).1).symm⟩) rfl rfl (by have := hU 12; omega))) ?_
   refine s_op k_ld ?_
   refine s_op (k_bd (by exact a_buildK (word SB (ks SB key k).2 k (ks SB key k).1) rfl rfl rfl)) ?_
   refine s_op k_al ?_
   refine s_st k_st ?_
   refine s_nil (by kernel_rfl) ?_
   refine n_wp ?_
   refine w_seq ?_
   refine g_reg hP hn ?_
   refine s_op k_mv ?_
   refine s_op (k_call [] (con := twice_c _)) ?_
   refine s_op k_as ?_
   refine s_nil trivial ?_
   refine n_wp ?_
   refine w_seq ?_
   refine g_reg hP hn ?_
   refine s_op k_mv ?_
   refine s_nil trivial ?_
   refine n_wp ?_
   refine w_block ?_
   refine c_loop (fun m T H => ∃ i, i ≤ 16 ∧ m = 16 - i ∧ T = [(1, .s (.ptr 0 0 0)), (3, .s (.ptr 1 0 0)), (4, .s (.int .u8 (twiceI (ks SB key k).1))), (5, .s (.int .i64 ((k + 1 : Nat) : Int))), (6, .s (.ptr 2 0 0)), (7, .s (.ptr 3 0 0)), (70, .s (.int .i64 ((i : Nat) : Int)))] ∧ H = [some ⟨true, [.ints .u8 16 key]⟩, some ⟨true, [.ints .u8 256 SB, .ints .u8 256 BK, .ints .u8 176 (kw (kwas (ks SB key k).2 k) (word SB (ks SB key k).2 k (ks SB key k).1) (ks SB key k).2 (k + 1) i).2]⟩, some ⟨true, [.ints .u8 16 (kwas (ks SB key k).2 k)]⟩, some ⟨true, [.ints .u8 4 (kw (kwas (ks SB key k).2 k) (word SB (ks SB key k).2 k (ks SB key k).1) (ks SB key k).2 (k + 1) i).1]⟩]) (16) ⟨0, by omega, rfl, rfl, rfl⟩ (wk hE []) ?_
   rintro n_ T_ H_ ⟨i, hi, rfl, rfl, rfl⟩
   have hw1 : (kw (kwas (ks SB key k).2 k) (word SB (ks SB key k).2 k (ks SB key k).1) (ks SB key k).2 (k + 1) i).1.length = 4 := (kw_len _ _ _ _ _).1
   have hw2 : (kw (kwas (ks SB key k).2 k) (word SB (ks SB key k).2 k (ks SB key k).1) (ks SB key k).2 (k + 1) i).2.length = 176 := (kw_len _ _ _ _ _).2.trans hkl
   refine w_seq ?_
   refine g_reg hP hn ?_
   refine s_op k_lss ?_
   refine s_nil trivial ?_
   refine n_wp ?_
   refine w_seq ?_
   refine w_if rfl (fun h_t71 => ?_) (fun h_t71 => ?_)
   · skip
     refine w_skip ?_
     refine n_wp ?_
     refine w_seq ?_
     refine w_block ?_
     refine w_seq ?_
     refine g_reg hP hn ?_
     refine s_op k_mv ?_
     refine s_op k_as ?_
     refine s_nil trivial ?_
     refine n_wp ?_
     refine w_seq ?_
     refine g_any hP hn ?_
     refine s_op k_mv ?_
     refine s_op k_rem ?_
     refine s_op k_ix ?_
     refine s_op k_ld ?_
     refine s_op k_mv ?_
     refine s_op k_ix ?_
     refine s_op k_ld ?_
     refine s_op k_xor ?_
     refine s_op k_ix ?_
     refine s_st k_st ?_
     refine s_nil (by kernel_rfl) ?_
     refine n_wp ?_
     refine g_any hP hn ?_
     refine s_op k_mv ?_
     refine s_op k_mv ?_
     refine s_op k_mv ?_
     refine s_op k_mv ?_
     refine s_op k_rem ?_
     refine s_op k_ix ?_
     refine s_op k_ld ?_
     refine s_op k_nc ?_
     refine s_op k_fa ?_
     refine s_op k_ix ?_
     refine s_op k_ix ?_
     refine s_st k_st ?_
     refine s_nil (by kernel_rfl) ?_
     refine n_blo ?_
     refine n_wp ?_
     refine g_reg hP hn ?_
     refine s_op k_add ?_
     refine s_op k_mv ?_
     refine s_nil trivial ?_
     exact n_round (16 - (i + 1)) (by omega) ⟨i + 1, by omega, rfl, rfl, rfl⟩ (wk hE [])
   · skip
     have hi16 : i = 16 := by omega
     rw [show (kw (kwas (ks SB key k).2 k) (word SB (ks SB key k).2 k (ks SB key k).1) (ks SB key k).2 (k + 1) i).2 = (ks SB key (k + 1)).2 by rw [hi16]; simp only [ks]]
     refine w_exit ?_
     refine x_thn ?_
     refine x_thn ?_
     refine x_eq ?_
     refine n_blo ?_
     refine n_wp ?_
     refine g_reg hP hn ?_
     refine s_op k_mv ?_
     refine s_op k_add ?_
     refine s_op k_as ?_
     refine s_nil trivial ?_
     exact n_round (10 - (k + 1)) (by omega) ⟨k + 1, by omega, rfl, rfl, rfl⟩ (wk hE [])
 · skip
   have hk10 : k = 10 := by omega
   rw [show (ks SB key k).2 = keysOf key by subst hk10; unfold keysOf; exact Eq.refl _]
   refine w_exit ?_
   refine x_thn ?_
   refine x_thn ?_
   refine x_eq ?_
   refine n_wp ?_
   refine w_seq ?_
   refine g_reg hP hn ?_
   refine s_op k_mv ?_
   refine s_op k_as ?_
   refine s_nil trivial ?_
   refine n_wp ?_
   refine w_ret ?_
   exact d_retw hP hn (r_tmp Try.results30) ((frz_ptr 0 688 (hn := by simp [sizeS, Seg.size])).trans (wk hE []))

end Go.Proofs.X
