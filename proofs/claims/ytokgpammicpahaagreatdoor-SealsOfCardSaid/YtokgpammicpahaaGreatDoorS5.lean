/- A part of the proofs of this claim: BAes2, BAes3, BAes4, BNumS, BByteS, BSealS, BRefS, Bx24, Bx25, Bx26. No conditions. -/
import Derived.Test.YtokgpammicpahaaGreatDoorS4
set_option linter.unusedVariables false
set_option linter.unusedSimpArgs false
section
set_option maxRecDepth 100000
set_option maxHeartbeats 4000000
open Go Go.Bx Go.Proofs
namespace Go.Proofs.X
attribute [local irreducible] SB BK
theorem boxes_c  : Con Tryz.prog 112 [] [] (.tup [.agg [.ints .u8 256 SB], .agg [.ints .u8 256 BK]]) [] := by
 refine con_in 62 Tryz.func112 rfl rfl (m := 0) rfl ?_
 intro E hP hn hE
 refine qz hP hn ?_
 refine o2 ?_
 refine qx hP hn ?_
 refine o2 ?_
 refine qx hP hn ?_
 refine s_op k_as ?_
 refine s_nil trivial (n_wp (w_seq (qz hP hn ?_)))
 refine s_op k_mv ?_
 refine s_nil trivial (n_wp (w_block ?_))
 refine c_loop (fun m T H => ∃ k, k ≤ 255 ∧ m = 255 - k ∧ T = [(0, .s (.ptr 0 0 0)), (1, .s (.ptr 1 0 0)), (2, .s (.ptr 2 0 0)), (3, .s (.ptr 3 0 0)), (4, .s (.int .u8 (p1 k).1)), (10, .s (.int .i64 ((k : Nat) : Int)))] ∧ H = [some ⟨true, [.ints .u8 256 (z 256)]⟩, some ⟨true, [.ints .u8 256 (z 256)]⟩, some ⟨true, [.ints .u8 256 (p1 k).2.1]⟩, some ⟨true, [.ints .u8 256 (p1 k).2.2]⟩]) (255) ⟨0, by omega, rfl, rfl, rfl⟩ (wk hE []) ?_
 rintro n_ T_ H_ ⟨k, hk, rfl, rfl, rfl⟩
 have hr := p1_range k
 have hl1 := (p1_len k).1
 have hl2 := (p1_len k).2
 refine qz hP hn ?_
 refine s_op k_lss ?_
 refine s_nil trivial (n_wp (w_seq ?_))
 refine w_if rfl (fun h_t11 => ?_) (fun h_t11 => ?_)
 · refine w_skip (n_wp (w_seq (w_block (qz hP hn ?_))))
   refine o2 ?_
   refine qx hP hn ?_
   refine o4 ?_
   refine o2 ?_
   refine s_st k_st ?_
   refine s_op (k_ix (by exact a_ixp (hj := ⟨(Int.toNat_of_nonneg hr.1).symm⟩) rfl rfl (by have := hr; omega))) ?_
   refine s_st k_st ?_
   refine qy hP hn ?_
   refine o2 ?_
   refine s_op (k_call [] (con := twice_c _)) ?_
   refine o2 ?_
   refine s_nil trivial (n_blo (n_wp (g_reg hP hn ?_)))
   refine o2 ?_
   refine s_nil trivial ?_
   exact n_round (255 - (k + 1)) (by omega) ⟨k + 1, by omega, rfl, rfl, rfl⟩ (wk hE [])
 · have hk5 : k = 255 := by omega
   obtain ⟨P, hPe⟩ : ∃ P, P = (p1 k).2.1 := ⟨_, rfl⟩
   obtain ⟨L, hLe⟩ : ∃ L, L = (p1 k).2.2 := ⟨_, rfl⟩
   rw [← hPe, ← hLe]
   rw [← hPe] at hl1
   rw [← hLe] at hl2
   have hLr : ∀ i, i < 256 → 0 ≤ L.getD i 0 ∧ L.getD i 0 ≤ 255 := fun i hi => by rw [hLe, hk5]; exact logsOk_at logs_ok hi
   have hPL : p2 P L 256 = (SB, BK) := by rw [hPe, hLe, hk5]; exact boxes_eq
   refine w_exit (x_thn (x_thn (x_eq (n_wp (w_seq (qz hP hn ?_))))))
   refine s_op k_mv ?_
   refine s_nil trivial (n_wp (w_block ?_))
   refine c_loop (fun m T H => ∃ k, k ≤ 256 ∧ m = 256 - k ∧ T = [(0, .s (.ptr 0 0 0)), (1, .s (.ptr 1 0 0)), (2, .s (.ptr 2 0 0)), (3, .s (.ptr 3 0 0)), (25, .s (.int .i64 ((k : Nat) : Int)))] ∧ H = [some ⟨true, [.ints .u8 256 (p2 P L k).1]⟩, some ⟨true, [.ints .u8 256 (p2 P L k).2]⟩, some ⟨true, [.ints .u8 256 P]⟩, some ⟨true, [.ints .u8 256 L]⟩]) (256) ⟨0, by omega, rfl, rfl, rfl⟩ (wk hE []) ?_
   rintro n_ T_ H_ ⟨k, hk, rfl, rfl, rfl⟩
   have hm1 := (p2_len P L k).1
   have hm2 := (p2_len P L k).2
   refine qz hP hn ?_
   refine s_op k_lss ?_
   refine s_nil trivial (n_wp (w_seq ?_))
   refine w_if rfl (fun h_t26 => ?_) (fun h_t26 => ?_)
   · refine w_skip (n_wp (w_seq (w_block (qz hP hn ?_))))
     refine o2 ?_
     refine qx hP hn ?_
     refine s_op k_as ?_
     refine s_nil trivial (n_wp (w_seq (qz hP hn ?_)))
     refine o2 ?_
     refine s_nil trivial (n_wp ?_)
     refine w_cut (fun T H => T = [(0, .s (.ptr 0 0 0)), (1, .s (.ptr 1 0 0)), (2, .s (.ptr 2 0 0)), (3, .s (.ptr 3 0 0)), (6, .s (.int .i64 ((k : Nat) : Int))), (7, .s (.int .u8 (boxY P L k))), (25, .s (.int .i64 ((k : Nat) : Int)))] ∧ H = [some ⟨true, [.ints .u8 256 (p2 P L k).1]⟩, some ⟨true, [.ints .u8 256 (p2 P L k).2]⟩, some ⟨true, [.ints .u8 256 P]⟩, some ⟨true, [.ints .u8 256 L]⟩]) ?_ ?_
     · refine w_if rfl (fun h_t29 => ?_) (fun h_t29 => ?_)
       · have hy : boxY P L k = P.getD ((255 - L.getD k 0) % 255).toNat 0 := if_pos h_t29
         have hlk := hLr k h_t26
         refine g_reg hP hn ?_
         refine o3 ?_
         refine s_op (k_cv (by exact a_conv rfl (wrap_i64 (by omega)))) ?_
         refine s_op (k_sub (by exact l_bin rfl rfl (b_sub (wrap_i64 (by omega))))) ?_
         refine s_op (k_rem (by exact l_bin rfl rfl (b_rem (by decide) (Int.tmod_eq_emod_of_nonneg (by omega))))) ?_
         refine s_op (k_ix (by exact a_ixp (hj := ⟨(Int.toNat_of_nonneg (Int.emod_nonneg _ (by decide))).symm⟩) rfl rfl (by omega))) ?_
         refine o2 ?_
         refine s_nil trivial ?_
         rw [← hy]
         exact n_cut ⟨rfl, rfl⟩ (wk hE [])
       · have hy : boxY P L k = 0 := if_neg h_t29
         refine w_skip ?_
         rw [← hy]
         exact n_cut ⟨rfl, rfl⟩ (wk hE [])
     rintro T H ⟨rfl, rfl⟩
     refine qz hP hn ?_
     refine s_op k_as ?_
     refine s_nil trivial (n_wp (w_seq (qz hP hn ?_)))
     refine s_op k_mv ?_
     refine s_nil trivial (n_wp (w_block ?_))
     refine c_loop (fun m T H => ∃ n, n ≤ 5 ∧ m = 5 - n ∧ T = [(0, .s (.ptr 0 0 0)), (1, .s (.ptr 1 0 0)), (2, .s (.ptr 2 0 0)), (3, .s (.ptr 3 0 0)), (6, .s (.int .i64 ((k : Nat) : Int))), (7, .s (.int .u8 (boxY P L k))), (8, .s (.int .u8 (boxO (boxY P L k) n))), (25, .s (.int .i64 ((k : Nat) : Int))), (38, .s (.int .i64 ((n : Nat) : Int)))] ∧ H = [some ⟨true, [.ints .u8 256 (p2 P L k).1]⟩, some ⟨true, [.ints .u8 256 (p2 P L k).2]⟩, some ⟨true, [.ints .u8 256 P]⟩, some ⟨true, [.ints .u8 256 L]⟩]) (5) ⟨0, by omega, rfl, rfl, rfl⟩ (wk hE []) ?_
     rintro n_ T_ H_ ⟨n, hn5, rfl, rfl, rfl⟩
     refine qz hP hn ?_
     refine s_op k_lss ?_
     refine s_nil trivial (n_wp (w_seq ?_))
     refine w_if rfl (fun h_t39 => ?_) (fun h_t39 => ?_)
     · refine w_skip (n_wp (w_seq (w_block (qz hP hn ?_))))
       refine o2 ?_
       refine s_nil trivial (n_wp ?_)
       refine g_any hP hn ?_
       refine o4 ?_
       refine o2 ?_
       refine s_op (k_sub (by exact l_bin rfl rfl (b_sub (wrap_i64 (by omega))))) ?_
       refine o4 ?_
       refine s_nil (by kernel_rfl) ?_
       refine n_blo (n_wp (g_reg hP hn ?_))
       refine o2 ?_
       refine s_nil trivial ?_
       exact n_round (5 - (n + 1)) (by omega) ⟨n + 1, by omega, rfl, rfl, rfl⟩ (wk hE [])
     · have hn6 : n = 5 := by omega
       obtain ⟨BO, hbo⟩ : ∃ BO, BO = boxO (boxY P L k) n := ⟨_, rfl⟩
       have hbr : 0 ≤ BO ∧ BO < 256 := hbo ▸ boxO_range _ _
       rw [← hbo]
       rw [hn6] at hbo
       have hbo := hbo.symm
       refine w_exit (x_thn (x_thn (x_eq (n_wp (g_reg hP hn ?_)))))
       refine o4 ?_
       refine o2 ?_
       refine s_st k_st ?_
       refine s_op (k_ix (by exact a_ixp (hj := ⟨(Int.toNat_of_nonneg hbr.1).symm⟩) rfl rfl (by have := hbr; omega))) ?_
       refine s_st k_st ?_
       refine s_nil trivial (n_blo (n_wp (g_reg hP hn ?_)))
       refine o2 ?_
       refine s_nil trivial ?_
       exact n_round (256 - (k + 1)) (by omega) ⟨k + 1, by omega, rfl, rfl, by rw [p2, hbo]⟩ (wk hE [])
   · have hk6 : k = 256 := by omega
     rw [show p2 P L k = (SB, BK) by rw [hk6]; exact hPL]
     refine w_exit (x_thn (x_thn (x_eq (n_wp (w_seq ?_)))))
     refine g_any hP hn ?_
     refine o2 ?_
     refine s_st k_st ?_
     refine s_st k_st ?_
     refine s_nil (by kernel_rfl) ?_
     refine n_wp (w_ret ?_)
     exact d_ret hP hn hE [] (ret2 Tryz.results112 r_cella r_cella)

theorem machine_c (key : List Int) (hk8 : U8 key) : Con Tryz.prog 43 [.agg [.ints .u8 16 key]] [] (.s (.fptr 688 (cellsF [.ints .u8 256 SB, .ints .u8 256 BK, .ints .u8 176 (keysOf key)]) 0 0)) [] := by
 refine con_in 95 Tryz.func43 rfl rfl (m := 0) rfl ?_
 intro E hP hn hE
 refine qz hP hn ?_
 refine s_op k_bx ?_
 refine s_op k_as ?_
 refine qx hP hn ?_
 refine s_op k_bd ?_
 refine s_op k_bx ?_
 refine s_op k_as ?_
 refine qx hP hn ?_
 refine o2 ?_
 refine s_op (k_call [] (con := boxes_c)) ?_
 refine o3 ?_
 refine o2 ?_
 refine s_st k_st ?_
 refine o2 ?_
 refine s_st k_st ?_
 refine s_nil trivial (n_wp (w_seq ?_))
 refine g_any hP hn ?_
 refine o3 ?_
 refine o2 ?_
 refine s_st (k_st (by exact a_store_aggI rfl rfl rfl rfl (by exact Nat.le_of_ble_eq_true rfl) (by omega) (hset_seg (by first | exact sset_0 | exact sset_s _ rfl rfl sset_0 | exact sset_s _ rfl rfl (sset_s _ rfl rfl sset_0)) (by repeat (first | exact hset_0 | apply hset_s))))) ?_
 refine s_nil (by kernel_rfl) ?_
 refine n_wp (qz hP hn ?_)
 refine s_op k_as ?_
 refine s_nil trivial (n_wp (w_seq (qz hP hn ?_)))
 refine s_op k_as ?_
 refine s_nil trivial (n_wp (w_block ?_))
 refine c_loop (fun m T H => ∃ k, k ≤ 10 ∧ m = 10 - k ∧ T = [(1, .s (.ptr 0 0 0)), (3, .s (.ptr 1 0 0)), (4, .s (.int .u8 (ks SB key k).1)), (5, .s (.int .i64 ((k + 1 : Nat) : Int)))] ∧ H = [some ⟨true, [.ints .u8 16 key]⟩, some ⟨true, [.ints .u8 256 SB, .ints .u8 256 BK, .ints .u8 176 (ks SB key k).2]⟩]) (10) ⟨0, by omega, rfl, rfl, rfl⟩ (wk hE []) ?_
 rintro n_ T_ H_ ⟨k, hk, rfl, rfl, rfl⟩
 have hkl := ks_len SB key k
 have hU : U8 ((((ks SB key k).2).drop (k * 16)).take 16) := (U8_ks U8_SB hk8 k).cut _ _
 have u12 := hU 12
 have u13 := hU 13
 have u14 := hU 14
 have u15 := hU 15
 refine w_seq (qz hP hn ?_)
 refine o2 ?_
 refine s_nil trivial (n_wp ?_)
 refine w_if rfl (fun h_t27 => ?_) (fun h_t27 => ?_)
 · refine w_skip (n_wp (w_seq (w_block (qz hP hn ?_))))
   refine o4 ?_
   refine o4 ?_
   refine s_st k_st ?_
   refine s_nil trivial (n_wp (w_seq ?_))
   refine g_any hP hn ?_
   refine o3 ?_
   refine o2 ?_
   refine s_op (k_ix (by exact a_ixp (hj := ⟨(Int.toNat_of_nonneg (hU 13).1).symm⟩) rfl rfl (by have := hU 13; omega))) ?_
   refine o4 ?_
   refine o4 ?_
   refine s_op (k_ix (by exact a_ixp (hj := ⟨(Int.toNat_of_nonneg (hU 14).1).symm⟩) rfl rfl (by have := hU 14; omega))) ?_
   refine o4 ?_
   refine o2 ?_
   refine s_op (k_ix (by exact a_ixp (hj := ⟨(Int.toNat_of_nonneg (hU 15).1).symm⟩) rfl rfl (by have := hU 15; omega))) ?_
   refine o4 ?_
   refine o2 ?_
   refine s_op (k_ix (by exact a_ixp (hj := ⟨(Int.toNat_of_nonneg (hU 12).1).symm⟩) rfl rfl (by have := hU 12; omega))) ?_
   refine s_op k_ld ?_
   refine s_op (k_bd (by exact a_buildK (word SB (ks SB key k).2 k (ks SB key k).1) rfl rfl rfl)) ?_
   refine s_op k_al ?_
   refine s_st k_st ?_
   refine s_nil (by kernel_rfl) ?_
   refine n_wp (qz hP hn ?_)
   refine s_op k_mv ?_
   refine s_op (k_call [] (con := twice_c _)) ?_
   refine s_op k_as ?_
   refine qx hP hn ?_
   refine s_op k_mv ?_
   refine s_nil trivial (n_wp (w_block ?_))
   refine c_loop (fun m T H => ∃ i, i ≤ 16 ∧ m = 16 - i ∧ T = [(1, .s (.ptr 0 0 0)), (3, .s (.ptr 1 0 0)), (4, .s (.int .u8 (twiceI (ks SB key k).1))), (5, .s (.int .i64 ((k + 1 : Nat) : Int))), (6, .s (.ptr 2 0 0)), (7, .s (.ptr 3 0 0)), (70, .s (.int .i64 ((i : Nat) : Int)))] ∧ H = [some ⟨true, [.ints .u8 16 key]⟩, some ⟨true, [.ints .u8 256 SB, .ints .u8 256 BK, .ints .u8 176 (kw (kwas (ks SB key k).2 k) (word SB (ks SB key k).2 k (ks SB key k).1) (ks SB key k).2 (k + 1) i).2]⟩, some ⟨true, [.ints .u8 16 (kwas (ks SB key k).2 k)]⟩, some ⟨true, [.ints .u8 4 (kw (kwas (ks SB key k).2 k) (word SB (ks SB key k).2 k (ks SB key k).1) (ks SB key k).2 (k + 1) i).1]⟩]) (16) ⟨0, by omega, rfl, rfl, rfl⟩ (wk hE []) ?_
   rintro n_ T_ H_ ⟨i, hi, rfl, rfl, rfl⟩
   have hw1 : (kw (kwas (ks SB key k).2 k) (word SB (ks SB key k).2 k (ks SB key k).1) (ks SB key k).2 (k + 1) i).1.length = 4 := (kw_len _ _ _ _ _).1
   have hw2 : (kw (kwas (ks SB key k).2 k) (word SB (ks SB key k).2 k (ks SB key k).1) (ks SB key k).2 (k + 1) i).2.length = 176 := (kw_len _ _ _ _ _).2.trans hkl
   refine qz hP hn ?_
   refine s_op k_lss ?_
   refine s_nil trivial (n_wp (w_seq ?_))
   refine w_if rfl (fun h_t71 => ?_) (fun h_t71 => ?_)
   · refine w_skip (n_wp (w_seq (w_block (qz hP hn ?_))))
     refine o2 ?_
     refine s_nil trivial (n_wp (w_seq ?_))
     refine g_any hP hn ?_
     refine o4 ?_
     refine o3 ?_
     refine o2 ?_
     refine s_st k_st ?_
     refine s_nil (by kernel_rfl) ?_
     refine n_wp ?_
     refine g_any hP hn ?_
     refine o4 ?_
     refine o4 ?_
     refine o3 ?_
     refine s_st k_st ?_
     refine s_nil (by kernel_rfl) ?_
     refine n_blo (n_wp (g_reg hP hn ?_))
     refine o2 ?_
     refine s_nil trivial ?_
     exact n_round (16 - (i + 1)) (by omega) ⟨i + 1, by omega, rfl, rfl, rfl⟩ (wk hE [])
   · have hi16 : i = 16 := by omega
     rw [show (kw (kwas (ks SB key k).2 k) (word SB (ks SB key k).2 k (ks SB key k).1) (ks SB key k).2 (k + 1) i).2 = (ks SB key (k + 1)).2 by rw [hi16]; simp only [ks]]
     refine w_exit (x_thn (x_thn (x_eq (n_blo (n_wp (g_reg hP hn ?_))))))
     refine o3 ?_
     refine s_nil trivial ?_
     exact n_round (10 - (k + 1)) (by omega) ⟨k + 1, by omega, rfl, rfl, rfl⟩ (wk hE [])
 · have hk10 : k = 10 := by omega
   rw [show (ks SB key k).2 = keysOf key by subst hk10; unfold keysOf; exact Eq.refl _]
   refine w_exit (x_thn (x_thn (x_eq (n_wp (qz hP hn ?_)))))
   refine o2 ?_
   refine s_nil trivial (n_wp (w_ret ?_))
   exact d_retw hP hn (r_tmp Tryz.results43) ((frz_ptr 0 688 (hn := by simp [sizeS, Seg.size])).trans (wk hE []))

end Go.Proofs.X
end

section
set_option maxRecDepth 100000
set_option maxHeartbeats 4000000
open Go Go.Bx Go.Proofs
namespace Go.Proofs.X
attribute [local irreducible] SB BK ks
theorem block_c (key b : List Int) (hb : b.length = 16) (hb8 : U8 b) : Con Tryz.prog 44 [.s (.fptr 688 (cellsF [.ints .u8 256 SB, .ints .u8 256 BK, .ints .u8 176 (keysOf key)]) 0 0), .agg [.ints .u8 16 b]] [] (.agg [.ints .u8 16 (blockI key b)]) [] := by
 refine con_in 52 Tryz.func44 rfl rfl (m := 0) rfl ?_
 intro E hP hn hE
 refine qz hP hn ?_
 refine s_op k_bx ?_
 refine s_op k_al ?_
 refine s_nil trivial (n_wp (w_scope (w_seq ?_)))
 refine g_any hP hn ?_
 refine o3 ?_
 refine o2 ?_
 refine s_op (k_ld (by exact a_loadf_aggI rfl rfl (by omega) (by omega))) ?_
 refine s_op (k_call [] (con := against_c _ _ hb)) ?_
 refine s_st k_st ?_
 refine s_nil (by kernel_rfl) ?_
 refine n_wp (qz hP hn ?_)
 refine s_op k_as ?_
 refine s_nil trivial (n_wp (w_seq ?_))
 refine w_label ?_
 refine n_wp (w_seq (w_block ?_))
 refine c_loop (fun m T H => ∃ k, k ≤ 9 ∧ m = 9 - k ∧ T = [(0, .s (.fptr 688 (cellsF [.ints .u8 256 SB, .ints .u8 256 BK, .ints .u8 176 (keysOf key)]) 0 0)), (3, .s (.ptr 0 0 0)), (4, .s (.ptr 1 0 0)), (5, .s (.int .i64 ((k + 1 : Nat) : Int)))] ∧ H = [some ⟨true, [.ints .u8 16 (enc SB (keysOf key) b k)]⟩, some ⟨true, [.ints .u8 16 (z 16)]⟩]) (9) ⟨0, by omega, rfl, rfl, rfl⟩ (wk hE []) ?_
 rintro n_ T_ H_ ⟨k, hk, rfl, rfl, rfl⟩
 have hel := enc_len SB (keysOf key) b hb k
 have hEn : U8 (enc SB (keysOf key) b k) := U8_enc U8_SB hb8 k
 refine w_block (qz hP hn ?_)
 refine s_op k_al ?_
 refine s_nil trivial (n_wp (w_seq (qz hP hn ?_)))
 refine s_op k_mv ?_
 refine s_nil trivial (n_wp (w_block ?_))
 refine c_loop (fun m T H => ∃ i, i ≤ 16 ∧ m = 16 - i ∧ T = [(0, .s (.fptr 688 (cellsF [.ints .u8 256 SB, .ints .u8 256 BK, .ints .u8 176 (keysOf key)]) 0 0)), (3, .s (.ptr 0 0 0)), (4, .s (.ptr 1 0 0)), (5, .s (.int .i64 ((k + 1 : Nat) : Int))), (6, .s (.ptr 2 0 0)), (15, .s (.int .i64 ((i : Nat) : Int)))] ∧ H = [some ⟨true, [.ints .u8 16 (enc SB (keysOf key) b k)]⟩, some ⟨true, [.ints .u8 16 (z 16)]⟩, some ⟨true, [.ints .u8 16 (subTo SB (enc SB (keysOf key) b k) i)]⟩]) (16) ⟨0, by omega, rfl, rfl, rfl⟩ (wk hE []) ?_
 rintro n_ T_ H_ ⟨i, hi, rfl, rfl, rfl⟩
 have hsu := subTo_len SB (enc SB (keysOf key) b k) i
 have ue := hEn ((i + 4 * (i % 4)) % 16)
 refine qz hP hn ?_
 refine s_op k_lss ?_
 refine s_nil trivial (n_wp (w_seq ?_))
 refine w_if rfl (fun h_t16 => ?_) (fun h_t16 => ?_)
 · refine w_skip (n_wp (w_seq (w_block (qz hP hn ?_))))
   refine o2 ?_
   refine s_nil trivial (n_wp ?_)
   refine g_any hP hn ?_
   refine o3 ?_
   refine s_op (k_call [] (con := place_c i (by omega))) ?_
   refine o4 ?_
   refine s_op (k_ix (by exact a_ixf (hj := ⟨(Int.toNat_of_nonneg ue.1).symm⟩) rfl rfl (by omega))) ?_
   refine o2 ?_
   refine s_st k_st ?_
   refine s_nil (by kernel_rfl) ?_
   refine n_blo (n_wp (g_reg hP hn ?_))
   refine o2 ?_
   refine s_nil trivial ?_
   exact n_round (16 - (i + 1)) (by omega) ⟨i + 1, by omega, rfl, rfl, rfl⟩ (wk hE [])
 · have hi16 : i = 16 := by omega
   obtain ⟨SX, hSX⟩ : ∃ SX, SX = subTo SB (enc SB (keysOf key) b k) i := ⟨_, rfl⟩
   have hsl : SX.length = 16 := hSX ▸ hsu
   rw [← hSX]
   rw [hi16] at hSX
   refine w_exit (x_thn (x_thn (x_eq (n_wp (w_seq (qz hP hn ?_))))))
   refine o2 ?_
   refine s_nil trivial (n_wp ?_)
   refine w_if rfl (fun h_t31 => ?_) (fun h_t31 => ?_)
   · have hk9 : k = 9 := by omega
     refine w_seq ?_
     refine g_any hP hn ?_
     refine o4 ?_
     refine o2 ?_
     refine s_op (k_ld (by exact a_loadf_aggI rfl rfl (by omega) (by omega))) ?_
     refine s_op (k_call [] (con := against_c _ _ hsl)) ?_
     refine s_st k_st ?_
     refine s_nil (by kernel_rfl) ?_
     refine n_wp (w_exit (x_thn (x_ne rfl (x_thn (x_eq (n_wp (w_seq ?_)))))))
     rw [show xor16 SX ((((keysOf key)).drop ((k + 1) * 16)).take 16) = blockI key b by subst hk9; rw [hSX]; simp only [blockI, blockL_def, kwas, Nat.reduceAdd, Nat.reduceMul]]
     refine g_reg hP hn ?_
     refine s_op k_ld ?_
     refine s_st k_st ?_
     refine s_nil trivial (n_wp (w_ret (r_sco ?_)))
     exact d_ret hP hn hE [] (r_cell Tryz.results44)
   · refine w_skip (n_wp (w_seq ?_))
     refine g_any hP hn ?_
     refine s_op k_ld ?_
     refine s_op (k_call [] (con := mixed_c _ hsl)) ?_
     refine o3 ?_
     refine o2 ?_
     refine s_op (k_ld (by exact a_loadf_aggI rfl rfl (by omega) (by omega))) ?_
     refine s_op (k_call [] (con := against_c _ _ ((mixI_len _).trans hsl))) ?_
     refine s_st k_st ?_
     refine s_nil (by kernel_rfl) ?_
     refine n_wp (g_reg hP hn ?_)
     refine o3 ?_
     refine s_nil trivial (n_blo ?_)
     exact n_round (9 - (k + 1)) (by omega) ⟨k + 1, by omega, rfl, rfl, by rw [enc, ← hSX, rk, kwas]⟩ (wk hE [])

end Go.Proofs.X
end

section
set_option maxRecDepth 100000
set_option maxHeartbeats 4000000
open Go Go.Bx Go.Proofs
namespace Go.Proofs.X
attribute [local irreducible] SB BK ks
theorem stream1_c (key first B : List Int) (hk8 : U8 key) (hf : first.length = 16) (hf8 : U8 first) (h0 : 0 < B.length) (hB : B.length ≤ 140737488355000) : Con Tryz.prog 9 [.agg [.ints .u8 16 key], .agg [.ints .u8 16 first], .s (.fzi .u8 B)] [] (.s (.fzi .u8 (streamI key first B))) [] := by
 refine con_in 67 Tryz.func9 rfl rfl (m := 0) rfl ?_
 intro E hP hn hE
 refine qz hP hn ?_
 refine s_op k_bx ?_
 refine s_op k_bx ?_
 refine s_op k_as ?_
 refine s_nil trivial (n_wp (w_seq (qz hP hn ?_)))
 refine o3 ?_
 refine s_nil trivial (n_wp ?_)
 refine w_F rfl ?_ 
 refine w_skip (n_wp (qz hP hn ?_))
 refine s_op k_ld ?_
 refine s_op (k_call [] (con := machine_c key hk8)) ?_
 refine s_op k_as ?_
 refine qx hP hn ?_
 refine o2 ?_
 refine s_op k_mk ?_
 refine s_op k_as ?_
 refine s_nil trivial (n_wp (w_seq (qz hP hn ?_)))
 refine s_op k_as ?_
 refine s_nil trivial (n_wp (w_block ?_))
 refine c_loop (fun m T H => ∃ q, m = B.length + 16 - 16 * q ∧ 16 * q < B.length + 16 ∧ T = [(2, .s (.fzi .u8 B)), (4, .s (.ptr 1 0 0)), (7, .s (.fptr 688 (cellsF [.ints .u8 256 SB, .ints .u8 256 BK, .ints .u8 176 (keysOf key)]) 0 0)), (8, .s (.slice 2 0 0 B.length B.length)), (9, .s (.int .i64 ((16 * q : Nat) : Int)))] ∧ H = [some ⟨true, [.ints .u8 16 key]⟩, some ⟨true, [.ints .u8 16 (ctr first q)]⟩, some ⟨true, [.ints .u8 B.length (strN key first B B.length q)]⟩]) (B.length + 16) ⟨0, by omega, by omega, rfl, rfl⟩ (wk hE []) ?_
 rintro n_ T_ H_ ⟨q, rfl, hq, rfl, rfl⟩
 have hcl := (ctr_len first q).trans hf
 have hc8 := U8_ctr hf8 q
 have hol := strN_len key first B B.length q
 refine w_seq (qz hP hn ?_)
 refine o4 ?_
 refine s_nil trivial (n_wp ?_)
 refine w_if rfl (fun h_t24 => ?_) (fun h_t24 => ?_)
 · have hq1 : 16 * q < B.length := h_t24
   refine w_skip (n_wp (w_seq (w_block (qz hP hn ?_))))
   refine o2 ?_
   refine s_op (k_call [] (con := block_c key (ctr first q) hcl hc8)) ?_
   refine s_op k_al ?_
   refine s_st k_st ?_
   refine s_nil trivial (n_wp (w_seq (qz hP hn ?_)))
   refine o2 ?_
   refine s_nil trivial (n_wp (w_block ?_))
   refine c_loop (fun m T H => ∃ r, r ≤ min 16 (B.length - 16 * q) ∧ m = min 16 (B.length - 16 * q) - r ∧ T = [(2, .s (.fzi .u8 B)), (4, .s (.ptr 1 0 0)), (7, .s (.fptr 688 (cellsF [.ints .u8 256 SB, .ints .u8 256 BK, .ints .u8 176 (keysOf key)]) 0 0)), (8, .s (.slice 2 0 0 B.length B.length)), (9, .s (.int .i64 ((16 * q : Nat) : Int))), (10, .s (.ptr 3 0 0)), (11, .s (.int .i64 ((16 * q + r : Nat) : Int)))] ∧ H = [some ⟨true, [.ints .u8 16 key]⟩, some ⟨true, [.ints .u8 16 (ctr first q)]⟩, some ⟨true, [.ints .u8 B.length (str1 B (blockI key (ctr first q)) (strN key first B B.length q) (16 * q) r)]⟩, some ⟨true, [.ints .u8 16 (blockI key (ctr first q))]⟩]) (min 16 (B.length - 16 * q)) ⟨0, by omega, rfl, rfl, rfl⟩ (wk hE []) ?_
   rintro n_ T_ H_ ⟨r, hr, rfl, rfl, rfl⟩
   have hs1 := (str1_len B (blockI key (ctr first q)) (strN key first B B.length q) (16 * q) r).trans hol
   refine w_seq (qz hP hn ?_)
   refine o3 ?_
   refine o2 ?_
   refine s_op (k_min (by exact l_min (r := ((min (16 * q + 16) B.length : Nat) : Int)) rfl rfl (by split <;> omega))) ?_
   refine s_op k_lss ?_
   refine s_nil trivial (n_wp ?_)
   refine w_if rfl (fun h_t37 => ?_) (fun h_t37 => ?_)
   · refine w_skip (n_wp (w_seq (w_block ?_)))
     refine g_any hP hn ?_
     refine o4 ?_
     refine o4 ?_
     refine o3 ?_
     refine o2 ?_
     refine s_st k_st ?_
     refine s_nil (by kernel_rfl) ?_
     refine n_blo (n_wp (g_reg hP hn ?_))
     refine o3 ?_
     refine s_nil trivial ?_
     exact n_round (min 16 (B.length - 16 * q) - (r + 1)) (by omega) ⟨r + 1, by omega, rfl, rfl, rfl⟩ (wk hE [])
   · have hrm : r = min 16 (B.length - 16 * q) := by omega
     rw [show str1 B (blockI key (ctr first q)) (strN key first B B.length q) (16 * q) r = (strN key first B B.length (q + 1)) by rw [hrm, strN]]
     have hcn : incF (ctr first q) 16 = ctr first (q + 1) := rfl
     refine w_exit (x_thn (x_thn (x_eq (n_wp (qz hP hn ?_)))))
     refine s_op k_as ?_
     refine s_nil trivial (n_wp (w_block ?_))
     refine c_loop (fun m T H => ∃ (t : Nat) (l : List Int) (z : Int), t ≤ 16 ∧ m = t ∧ l.length = 16 ∧ incF l t = ctr first (q + 1) ∧ z = (t : Int) - 1 ∧ T = [(2, .s (.fzi .u8 B)), (4, .s (.ptr 1 0 0)), (7, .s (.fptr 688 (cellsF [.ints .u8 256 SB, .ints .u8 256 BK, .ints .u8 176 (keysOf key)]) 0 0)), (8, .s (.slice 2 0 0 B.length B.length)), (9, .s (.int .i64 ((16 * q : Nat) : Int))), (12, .s (.int .i64 z))] ∧ H = [some ⟨true, [.ints .u8 16 key]⟩, some ⟨true, [.ints .u8 16 l]⟩, some ⟨true, [.ints .u8 B.length (strN key first B B.length (q + 1))]⟩]) (16) ⟨16, (ctr first q), 15, by omega, rfl, hcl, hcn, by omega, rfl, rfl⟩ (wk hE []) ?_
     rintro n_ T_ H_ ⟨t, l, z, ht, hmt, hll, hinc, hz, rfl, rfl⟩
     refine w_seq (qz hP hn ?_)
     refine o2 ?_
     refine s_nil trivial (n_wp ?_)
     refine w_if rfl (fun h_t54 => ?_) (fun h_t54 => ?_)
     · obtain ⟨i, rfl⟩ : ∃ i, t = i + 1 := ⟨t - 1, by omega⟩
       have hzi : z = ((i : Nat) : Int) := by omega
       subst hzi
       refine w_skip (n_wp (w_seq (w_block (qz hP hn ?_))))
       refine s_op k_mv ?_
       refine s_op (k_ix (by exact a_ixp (hj := ⟨rfl⟩) rfl rfl (by omega))) ?_
       refine o3 ?_
       refine s_st k_st ?_
       refine qx hP hn ?_
       refine o4 ?_
       refine s_nil trivial (n_wp ?_)
       refine w_if rfl (fun h_t65 => ?_) (fun h_t65 => ?_)
       · have hfin : l.set i (IntKind.u8.wrap (l.getD i 0 + 1)) = ctr first (q + 1) := by rw [← hinc, incF, if_neg h_t65]
         rw [hfin]
         refine w_exit (x_ne rfl (x_thn (x_thn (x_eq (n_blo (n_wp (g_reg hP hn ?_)))))))
         refine o3 ?_
         refine s_nil trivial ?_
         exact n_round (B.length + 16 - 16 * (q + 1)) (by omega) ⟨q + 1, rfl, by omega, rfl, rfl⟩ (wk hE [])
       · have hinc2 : incF (l.set i (IntKind.u8.wrap (l.getD i 0 + 1))) i = ctr first (q + 1) := by rw [← hinc, incF, if_pos (Decidable.not_not.1 h_t65)]
         refine w_skip (n_blo (n_wp (g_reg hP hn ?_)))
         refine s_op k_mv ?_
         refine s_op (k_sub (by exact l_bin rfl rfl (b_sub (wrap_i64 (by omega))))) ?_
         refine s_op k_as ?_
         refine s_nil trivial ?_
         exact n_round i (by omega) ⟨i, _, (i : Int) - 1, by omega, rfl, (by simp [hll] : (l.set i (IntKind.u8.wrap (l.getD i 0 + 1))).length = 16), hinc2, rfl, rfl, rfl⟩ (wk hE [])
     · have ht0 : t = 0 := by omega
       subst ht0
       have hfin : l = ctr first (q + 1) := hinc
       rw [hfin]
       refine w_exit (x_thn (x_thn (x_eq (n_blo (n_wp (g_reg hP hn ?_))))))
       refine o3 ?_
       refine s_nil trivial ?_
       exact n_round (B.length + 16 - 16 * (q + 1)) (by omega) ⟨q + 1, rfl, by omega, rfl, rfl⟩ (wk hE [])
 · have hqe : q = (B.length + 15) / 16 := by omega
   rw [show strN key first B B.length q = streamI key first B by rw [hqe, streamI]]
   have hsl : (streamI key first B).length = B.length := strN_len _ _ _ _ _
   refine w_exit (x_thn (x_thn (x_eq (n_wp (qz hP hn ?_)))))
   refine o2 ?_
   refine s_nil trivial (n_wp (w_ret ?_))
   exact d_retw hP hn (r_tmp Tryz.results9) ((frz_sl 0 (l' := streamI key first B) (hl := hsl) (hl' := by rw [List.drop_zero]; exact List.take_of_length_le (Nat.le_of_eq hsl))).trans (wk hE []))

theorem stream0_c (key first : List Int) : Con Tryz.prog 9 [.agg [.ints .u8 16 key], .agg [.ints .u8 16 first], .s (.fzi .u8 [])] [] (.s (.fzi .u8 (streamI key first []))) [] := by
 refine con_in 67 Tryz.func9 rfl rfl (m := 0) rfl ?_
 intro E hP hn hE
 refine qz hP hn ?_
 refine s_op k_bx ?_
 refine s_op k_bx ?_
 refine s_op k_as ?_
 refine s_nil trivial (n_wp (w_seq (qz hP hn ?_)))
 refine o3 ?_
 refine s_nil trivial (n_wp ?_)
 refine w_T rfl ?_ 
 refine qz hP hn ?_
 refine s_op k_as ?_
 refine s_nil trivial (n_wp (w_ret (r_thn ?_)))
 exact d_retw hP hn (r_tmp Tryz.results9) ((weak_conv 0 rfl conv_nil).trans (wk hE []))

theorem stream_c (key first B : List Int) (hk8 : U8 key) (hf : first.length = 16) (hf8 : U8 first) (hB : B.length ≤ 140737488355000) : Con Tryz.prog 9 [.agg [.ints .u8 16 key], .agg [.ints .u8 16 first], .s (.fzi .u8 B)] [] (.s (.fzi .u8 (streamI key first B))) [] := by
 by_cases h : B.length = 0
 · have h0 : B = [] := List.length_eq_zero_iff.1 h
   subst h0; exact stream0_c key first
 · exact stream1_c key first B hk8 hf hf8 (by omega) hB

end Go.Proofs.X
end

section
/- Numbers of 256 bits, told by what they are: words, halves, sums, differences, products. No program. -/
open Go Go.Bx
namespace Go.Proofs.X
theorem map_getD (f : Nat → Nat) (m j : Nat) (h : j < m) : ((List.range m).map f).getD j 0 = f j := by
  simp [List.getD_eq_getElem?_getD, h]
def pf2 (f g : Nat → Nat) (m i : Nat) : List Nat := (List.range m).map fun j => if j < i then f j else g j
def dg (B n i : Nat) : Nat := n / B ^ i % B
def wd (n : Nat) : List Nat := (List.range 4).map (dg 18446744073709551616 n)
def hv (n : Nat) : List Nat := (List.range 8).map (dg 4294967296 n)
def hw (n : Nat) : List Nat := (List.range 16).map (dg 4294967296 n)
def val (l : List Nat) : Nat := l.getD 0 0 + 18446744073709551616 * (l.getD 1 0 + 18446744073709551616 * (l.getD 2 0 + 18446744073709551616 * l.getD 3 0))
def B64 (x : List Nat) : Prop := ∀ i, x.getD i 0 < 18446744073709551616
def cmpI (a b : Nat) : Int := if a = b then 0 else if a < b then -1 else 1
def cy (B a b c i : Nat) : Nat := (a % B ^ i + b % B ^ i + c) / B ^ i
def my (B v n at_ p : Nat) : Nat := (v % B ^ p + n * B ^ at_) / B ^ p
end Go.Proofs.X
end

section
/- Numbers as bytes, the highest first: what is put, what is read. No program. -/
open Go Go.Bx
namespace Go.Proofs.X
theorem eqI {l k : List Int} (hl : l.length = k.length) (h : ∀ i, i < l.length → l.getD i 0 = k.getD i 0) : l = k := by
  apply List.ext_getElem hl
  intro i h1 h2
  have := h i h1
  simpa [List.getD_eq_getElem?_getD, h1, h2] using this
theorem getD_app (A B : List Int) (i : Nat) : (A ++ B).getD i 0 = if i < A.length then A.getD i 0 else B.getD (i - A.length) 0 := by
  by_cases h : i < A.length
  · simp [List.getD_eq_getElem?_getD, List.getElem?_append_left h, h]
  · simp [List.getD_eq_getElem?_getD, List.getElem?_append_right (Nat.le_of_not_lt h), h]
theorem getD_rep (n i : Nat) : (List.replicate n (0 : Int)).getD i 0 = 0 := by
  by_cases h : i < n
  · simp [List.getD_eq_getElem?_getD, h]
  · simp [List.getD_eq_getElem?_getD, h]
theorem getD_take' (l : List Int) (n i : Nat) (h : i < n) : (l.take n).getD i 0 = l.getD i 0 := by
  simp [List.getD_eq_getElem?_getD, List.getElem?_take, h]
theorem getD_drop' (l : List Int) (n i : Nat) : (l.drop n).getD i 0 = l.getD (n + i) 0 := by
  simp [List.getD_eq_getElem?_getD, List.getElem?_drop]
theorem setDI (l : List Int) (i : Nat) (v : Int) (j : Nat) (hi : i < l.length) : (l.set i v).getD j 0 = if i = j then v else l.getD j 0 := by
  by_cases h : i = j
  · subst h; simp [List.getD_eq_getElem?_getD, hi]
  · simp [List.getD_eq_getElem?_getD, List.getElem?_set_ne h, h]
theorem eqI_n {l k : List Int} (n : Nat) (hl : l.length = n) (hk : k.length = n) (h : ∀ i, i < n → l.getD i 0 = k.getD i 0) : l = k := eqI (hl.trans hk.symm) fun i hi => h i (hl ▸ hi)
theorem spl_app (A Y Z : List Int) (a n m : Nat) (ha : A.length = a) (hn : Y.length = n) (hm : a + n ≤ m) (hz : A.length + Z.length = m) : spl (A ++ Z) Y a n m = A ++ Y ++ Z.drop n := by
  refine eqI_n m (Bx.spl_len _ _ _ _ _) (by simp; omega) fun i hi => ?_
  rw [spl_getD _ _ _ _ _ _ hi, getD_app, getD_app, getD_app, getD_drop', List.length_append]
  by_cases h1 : i < a
  · rw [if_neg (by omega), if_pos (by omega), if_pos (by omega), if_pos (by omega)]
  · by_cases h2 : i < a + n
    · rw [if_pos (by omega), if_pos (by omega), if_neg (by omega), ha]
    · rw [if_neg (by omega), if_neg (by omega), if_neg (by omega), ha, hn]
      congr 1; omega
def beN (n v : Nat) : List Nat := (List.range n).map fun i => v / 256 ^ (n - 1 - i) % 256
def be (n v : Nat) : List Int := zs (beN n v)
theorem be_len (n v : Nat) : (be n v).length = n := by simp [be, beN, zs]
theorem be_get (n v i : Nat) (h : i < n) : (be n v).getD i 0 = ((v / 256 ^ (n - 1 - i) % 256 : Nat) : Int) := by
  unfold be beN
  rw [zs_getD, map_getD _ _ _ h]
theorem wrap8 (v : Nat) : IntKind.u8.wrap (v : Int) = ((v % 256 : Nat) : Int) := by
  unfold IntKind.wrap; simp [IntKind.bits, IntKind.signed]
theorem wrap64' {v : Nat} (h : v < 18446744073709551616) : IntKind.u64.wrap (v : Int) = (v : Int) := by
  unfold IntKind.wrap; simp [IntKind.bits, IntKind.signed]; omega
theorem rb_n (out : List Int) (at_ v : Nat) (hv : v < 18446744073709551616) (ha : at_ ≤ out.length) (j : Nat) (hj : j ≤ at_) : (rb out at_ (v : Int) j).2 = ((v / 256 ^ j : Nat) : Int) ∧ ∀ i, (rb out at_ (v : Int) j).1.getD i 0 = if at_ - j ≤ i ∧ i < at_ then ((v / 256 ^ (at_ - 1 - i) % 256 : Nat) : Int) else out.getD i 0 := by
  induction j with
  | zero => exact ⟨by simp [rb], fun i => by rw [if_neg (by omega)]; rfl⟩
  | succ j ih =>
    obtain ⟨h1, h2⟩ := ih (by omega)
    constructor
    · rw [rb, h1]
      show IntKind.u64.wrap ((((v / 256 ^ j : Nat) : Int)).tdiv ((256 : Nat) : Int)) = _
      rw [show (((v / 256 ^ j : Nat) : Int)).tdiv ((256 : Nat) : Int) = ((v / 256 ^ j / 256 : Nat) : Int) from rfl, Nat.div_div_eq_div_mul, ← Nat.pow_succ, wrap64' (Nat.lt_of_le_of_lt (Nat.div_le_self _ _) hv)]
    · intro i
      rw [rb, h1, wrap8]
      show ((rb out at_ (v : Int) j).1.set (at_ - (j + 1)) _).getD i 0 = _
      rw [setDI _ _ _ _ (by rw [rb_len]; omega), h2]
      by_cases h : at_ - (j + 1) = i
      · rw [if_pos h, if_pos (by omega), show at_ - 1 - i = j by omega]
      · rw [if_neg h]
        by_cases h3 : at_ - j ≤ i ∧ i < at_
        · rw [if_pos h3, if_pos (by omega)]
        · rw [if_neg h3, if_neg (by omega)]
theorem rr_n (tot each N : Nat) (ws : List Nat) (h64 : B64 ws) (he : 0 < each) (k : Nat) (hk : each * k ≤ tot) (i : Nat) (hi : i < tot) : (rr tot each N (zs ws) k).getD i 0 = if tot - 1 - i < each * k then ((ws.getD (N - 1 - (tot - 1 - i) / each) 0 / 256 ^ ((tot - 1 - i) % each) % 256 : Nat) : Int) else 0 := by
  induction k with
  | zero => rw [if_neg (by omega), rr, getD_rep]
  | succ k ih =>
    rw [Nat.mul_succ] at hk
    rw [rr, zs_getD, (rb_n _ _ _ (h64 _) (by rw [rr_len]; omega) each (by omega)).2, ih (by omega), Nat.mul_succ]
    by_cases h1 : tot - 1 - i < each * k
    · rw [if_neg (by omega), if_pos h1, if_pos (by omega)]
    · rw [if_neg h1]
      by_cases h2 : tot - each * k - each ≤ i ∧ i < tot - each * k
      · rw [if_pos h2, if_pos (by omega)]
        have e1 : (tot - 1 - i) / each = k := by
          rw [Nat.div_eq_iff he]
          rw [Nat.mul_comm] at h1 h2
          omega
        have e2 : (tot - 1 - i) % each = tot - each * k - 1 - i := by
          have := Nat.div_add_mod (tot - 1 - i) each
          rw [e1] at this
          omega
        rw [e1, e2]
      · rw [if_neg h2, if_neg (by omega)]
theorem rowL_1 (B : List Int) (n v : Nat) (hn : 0 < n) (hv : v < 18446744073709551616) : rowL (B.length + n) B B.length n 1 [(v : Int)] = B ++ be n v := by
  have h64 : B64 [v] := fun i => by
    match i with
    | 0 => simpa using hv
    | i + 1 => simp
  have hr : ∀ i, i < B.length + n → (rr (B.length + n) n 1 [(v : Int)] 1).getD i 0 = if i < B.length then 0 else (be n v).getD (i - B.length) 0 := fun i hi => by
    have := rr_n (B.length + n) n 1 [v] h64 hn 1 (by omega) i hi
    rw [show zs [v] = [(v : Int)] from rfl] at this
    rw [this]
    by_cases h : i < B.length
    · rw [if_pos h, if_neg (by omega)]
    · rw [if_neg h, if_pos (by omega), be_get _ _ _ (by omega), show (B.length + n - 1 - i) / n = 0 from Nat.div_eq_of_lt (by omega), show (B.length + n - 1 - i) % n = n - 1 - (i - B.length) by rw [Nat.mod_eq_of_lt (by omega)]; omega]
      rfl
  refine eqI_n (B.length + n) (rowL_len _ _ _ _ _ _) (by simp [be_len]) fun i hi => ?_
  unfold rowL
  rw [getD_app]
  by_cases h0 : B.length = 0
  · rw [if_pos h0, hr i hi, if_neg (by omega), if_neg (by omega)]
  · rw [if_neg h0, spl_getD _ _ _ _ _ _ hi, hr i hi, List.take_length]
    by_cases h : i < B.length
    · rw [if_pos (by omega), if_pos h]; rfl
    · rw [if_neg (by omega), if_neg h, if_neg h]
def U8' (l : List Int) : Prop := ∀ i, 0 ≤ l.getD i 0 ∧ l.getD i 0 < 256
def gN (w : List Int) : Nat → Nat
  | 0 => 0
  | i + 1 => 256 * gN w i + (w.getD i 0).toNat
theorem gN_lt {w : List Int} (h : U8' w) (i : Nat) : gN w i < 256 ^ i := by
  induction i with
  | zero => simp [gN]
  | succ i ih => have := h i; rw [gN, Nat.pow_succ]; omega
theorem gI_gN {w : List Int} (h : U8' w) (i : Nat) (hi : i ≤ 8) : gI w i = (gN w i : Int) := by
  induction i with
  | zero => rfl
  | succ i ih =>
    have h1 := gN_lt h i
    have h2 := h i
    have hp : (256 : Nat) ^ i ≤ 256 ^ 7 := Nat.pow_le_pow_right (by omega) (by omega)
    rw [gI, ih (by omega), gN]
    obtain ⟨b, hb⟩ : ∃ b : Nat, w.getD i 0 = (b : Int) := ⟨(w.getD i 0).toNat, by omega⟩
    rw [hb] at h2 ⊢
    have e1 : (256 : Int) * (gN w i : Int) = ((256 * gN w i : Nat) : Int) := by simp
    rw [e1, wrap64' (by omega), wrap64' (by omega), ← Int.natCast_add, wrap64' (by omega)]
    simp
theorem gN_app (A B : List Int) (i : Nat) (h : i ≤ A.length) : gN (A ++ B) i = gN A i := by
  induction i with
  | zero => rfl
  | succ i ih => rw [gN, gN, ih (by omega), getD_app, if_pos (by omega)]
theorem gN_take (A : List Int) (n i : Nat) (h : i ≤ n) : gN (A.take n) i = gN A i := by
  induction i with
  | zero => rfl
  | succ i ih => rw [gN, gN, ih (by omega), getD_take' _ _ _ (by omega)]
theorem gN_rep (k : Nat) (B : List Int) (i : Nat) : gN (List.replicate k 0 ++ B) (k + i) = gN B i := by
  induction i with
  | zero =>
    rw [Nat.add_zero, gN_app _ _ _ (by simp)]
    show _ = 0
    induction k with
    | zero => rfl
    | succ k ih =>
      rw [gN, getD_rep]
      have : gN (List.replicate (k + 1) 0) k = gN (List.replicate k 0) k := by
        rw [← gN_take _ k k (Nat.le_refl _)]; simp
      rw [this, ih]; rfl
  | succ i ih =>
    rw [← Nat.add_assoc, gN, ih, gN, getD_app, if_neg (by simp)]
    simp
theorem U8'_app {A B : List Int} (ha : U8' A) (hb : U8' B) : U8' (A ++ B) := fun i => by
  rw [getD_app]; split
  · exact ha i
  · exact hb _
theorem U8'_take {A : List Int} (ha : U8' A) (n : Nat) : U8' (A.take n) := fun i => by
  by_cases h : i < n
  · rw [getD_take' _ _ _ h]; exact ha i
  · rw [List.getD_eq_getElem?_getD, List.getElem?_eq_none (by simp; omega)]; simp
theorem U8'_drop {A : List Int} (ha : U8' A) (n : Nat) : U8' (A.drop n) := fun i => by rw [getD_drop']; exact ha _
theorem U8'_rep (n : Nat) : U8' (List.replicate n 0) := fun i => by rw [getD_rep]; omega
theorem U8'_be (n v : Nat) : U8' (be n v) := fun i => by
  by_cases h : i < n
  · rw [be_get _ _ _ h]; omega
  · rw [List.getD_eq_getElem?_getD, List.getElem?_eq_none (by rw [be_len]; omega)]; simp
theorem getI_n {B : List Int} (h : U8' B) (m : Nat) (h8 : m ≤ 8) (hm : m ≤ B.length) : getI B m = (gN B m : Int) := by
  unfold getI
  have e : spl (z 8) (B.take m) (8 - m) m 8 = List.replicate (8 - m) 0 ++ B.take m := by
    have hz : z 8 = List.replicate (8 - m) 0 ++ List.replicate m 0 := by rw [List.replicate_append_replicate, show 8 - m + m = 8 by omega]; rfl
    rw [hz]
    have := spl_app (List.replicate (8 - m) 0) (B.take m) (List.replicate m 0) (8 - m) m 8 (by simp) (by simp; omega) (by omega) (by simp; omega)
    rw [this]
    simp
  rw [e, gI_gN (U8'_app (U8'_rep _) (U8'_take h _)) 8 (Nat.le_refl _)]
  have := gN_rep (8 - m) (B.take m) m
  rw [show 8 - m + m = 8 by omega] at this
  rw [this, gN_take _ _ _ (Nat.le_refl _)]
end Go.Proofs.X
end

section
/- What seals compute, on lists. No program. -/
open Go Go.Bx
namespace Go.Proofs.X
def mo (A B : List Int) : Nat → Int
  | 0 => 0
  | i + 1 => orK .u8 (mo A B i) (xorK .u8 (A.getD i 0) (B.getD i 0))
def fiB (B : List Int) : List Int := spl (z 16) (((B.drop 1).take 12).take 12) 0 12 16
def hmB (K X : List Int) : List Int := hmO K (tk (hmI K) X) (64 + X.length)
theorem hmB_len (K X : List Int) : (hmB K X).length = 32 := hmO_len _ _ _
theorem xorK_self (x : Int) : xorK .u8 x x = 0 := by
  show IntKind.u8.wrap ((BitVec.ofInt 8 x ^^^ BitVec.ofInt 8 x).toNat : Int) = 0
  rw [BitVec.xor_self]; rfl
theorem mo_self (A : List Int) (n : Nat) : mo A A n = 0 := by
  induction n with
  | zero => rfl
  | succ n ih => rw [mo, ih, xorK_self]; rfl
theorem fiB_len (B : List Int) : (fiB B).length = 16 := Bx.spl_len _ _ _ _ _
def ahB (l n : Nat) : List Int := [9] ++ be 4 l ++ be 8 n
theorem ahB_len (l n : Nat) : (ahB l n).length = 13 := by simp [ahB, be_len]
theorem U8_be (n v : Nat) : U8 (be n v) := U8'_be n v
theorem U8_app {A B : List Int} (ha : U8 A) (hb : U8 B) : U8 (A ++ B) := U8'_app ha hb
theorem U8_take {A : List Int} (ha : U8 A) (n : Nat) : U8 (A.take n) := U8'_take ha n
theorem U8_drop {A : List Int} (ha : U8 A) (n : Nat) : U8 (A.drop n) := U8'_drop ha n
theorem U8_9 : U8 [9] := fun i => by match i with | 0 => exact ⟨by decide, by decide⟩ | i + 1 => simp
theorem U8_ahB (l n : Nat) : U8 (ahB l n) := U8_app (U8_app U8_9 (U8_be _ _)) (U8_be _ _)
theorem U8_fiB {B : List Int} (h : U8 B) : U8 (fiB B) := U8_spl (U8_z 16) (U8_take (U8_take (U8_drop h 1) 12) 12) 0 12 16
def seal1 (C : List Int) (l n : Nat) (B : List Int) : List Int := ahB l n ++ streamI C (fiB (ahB l n)) B
theorem streamI_len (key first B : List Int) : (streamI key first B).length = B.length := strN_len _ _ _ _ _
theorem seal1_len (C : List Int) (l n : Nat) (B : List Int) : (seal1 C l n B).length = 13 + B.length := by rw [seal1, List.length_append, ahB_len, streamI_len]
def sealB (M C : List Int) (l n : Nat) (B : List Int) : List Int := seal1 C l n B ++ (hmB M (seal1 C l n B)).take 16
theorem sealB_len (M C : List Int) (l n : Nat) (B : List Int) : (sealB M C l n B).length = 29 + B.length := by rw [sealB, List.length_append, seal1_len, List.length_take, hmB_len]; omega
theorem ahB_def (l n : Nat) : [9] ++ be 4 l ++ be 8 n = ahB l n := rfl
theorem sealB_def (M C : List Int) (l n : Nat) (B : List Int) : sealB M C l n B = seal1 C l n B ++ (hmB M (seal1 C l n B)).take 16 := rfl
theorem so1_eq (l n : Nat) (B : List Int) : spl (List.replicate (29 + B.length) 0) ((ahB l n).take 13) 0 13 (29 + B.length) = ahB l n ++ List.replicate (16 + B.length) 0 := by
  have h := spl_app [] ((ahB l n).take 13) (List.replicate (29 + B.length) 0) 0 13 (29 + B.length) rfl (by rw [List.length_take, ahB_len]; rfl) (by omega) (by simp)
  rw [List.nil_append] at h
  rw [h, List.nil_append, List.take_of_length_le (by rw [ahB_len]; omega), List.drop_replicate]
  congr 2; omega
theorem so2_eq (C : List Int) (l n : Nat) (B : List Int) : spl (ahB l n ++ List.replicate (16 + B.length) 0) ((streamI C (fiB (ahB l n)) B).take B.length) 13 B.length (29 + B.length) = seal1 C l n B ++ List.replicate 16 0 := by
  rw [spl_app _ _ _ 13 B.length (29 + B.length) (ahB_len _ _) (by rw [List.length_take, streamI_len]; omega) (by omega) (by simp [ahB_len]; omega), List.take_of_length_le (by rw [streamI_len]; omega), List.drop_replicate]
  rw [seal1]
  congr 2; omega
theorem so3_eq (C : List Int) (l n : Nat) (B X : List Int) (hX : X.length = 32) : spl (seal1 C l n B ++ List.replicate 16 0) (X.take 16) (13 + B.length) 16 (29 + B.length) = seal1 C l n B ++ X.take 16 := by
  rw [spl_app _ _ _ (13 + B.length) 16 (29 + B.length) (seal1_len _ _ _ _) (by simp [hX]) (by omega) (by simp [seal1_len]; omega)]
  simp
def laneB (B : List Int) : Nat := gN (B.drop 1) 4
def numB (B : List Int) : Nat := gN (B.drop 5) 8
def bodyB (B : List Int) : List Int := (B.drop 13).take (B.length - 16 - 13)
theorem mac_form (M B : List Int) (hmac : (hmB M (B.take (B.length - 16))).take 16 = B.drop (B.length - 16)) : (hmB M ((B.drop 0).take (B.length - 16))).take 16 = (B.drop (B.length - 16)).take (B.length - (B.length - 16)) := by
  rw [List.drop_zero, hmac, List.take_of_length_le (by simp)]
theorem laneB_lt {B : List Int} (h : U8' B) : laneB B < 4294967296 := gN_lt (U8'_drop h 1) 4
theorem numB_lt {B : List Int} (h : U8' B) : numB B < 18446744073709551616 := gN_lt (U8'_drop h 5) 8
theorem lane_form {B : List Int} (h : U8' B) (h29 : 29 ≤ B.length) : IntKind.u32.wrap (getI ((B.drop 1).take (B.length - 1)) 4) = ((laneB B : Nat) : Int) := by
  rw [List.take_of_length_le (by simp), getI_n (U8'_drop h 1) 4 (by omega) (by simp; omega)]
  have := laneB_lt h
  show IntKind.u32.wrap ((laneB B : Nat) : Int) = _
  unfold IntKind.wrap; simp [IntKind.bits, IntKind.signed]; omega
theorem so_take (C : List Int) (l n : Nat) (B : List Int) : ((seal1 C l n B ++ List.replicate 16 0).drop 0).take (13 + B.length) = seal1 C l n B := by
  rw [List.drop_zero, ← seal1_len C l n B, List.take_left]
end Go.Proofs.X
end

section
/- What the document's answer of layer 9 computes, on lists; and that it is what the program's computes. No program. -/
open Go Go.Bx
namespace Go.Proofs.X
theorem wrap_u8 {x : Int} (h0 : 0 ≤ x) (h1 : x < 256) : IntKind.u8.wrap x = x := by
  show x % 256 = x
  omega
theorem str1_get (B s out : List Int) (at_ r k : Nat) (hk : k < out.length) : (str1 B s out at_ r).getD k 0 = if at_ ≤ k ∧ k < at_ + r then xorK .u8 (B.getD k 0) (s.getD (k - at_) 0) else out.getD k 0 := by
  induction r with
  | zero => rw [if_neg (by omega)]; rfl
  | succ r ih =>
    simp only [str1, List.getD_eq_getElem?_getD, List.getElem?_set] at ih ⊢
    by_cases h : at_ + r = k
    · subst h
      rw [if_pos rfl, if_pos (by rw [str1_len]; exact hk), if_pos (by omega)]
      simp
    · rw [if_neg h, ih]
      by_cases h2 : at_ ≤ k ∧ k < at_ + r
      · rw [if_pos h2, if_pos (by omega)]
      · rw [if_neg h2, if_neg (by omega)]
def pad (key first : List Int) (k : Nat) : Int := (blockI key (ctr first (k / 16))).getD (k % 16) 0
theorem strN_get (key first B : List Int) (n q k : Nat) (hn : k < n) (hq : k < 16 * q) : (strN key first B n q).getD k 0 = xorK .u8 (B.getD k 0) (pad key first k) := by
  induction q with
  | zero => omega
  | succ q ih =>
    rw [strN, str1_get _ _ _ _ _ _ (by rw [strN_len]; exact hn)]
    by_cases h : 16 * q ≤ k
    · rw [if_pos (by omega), pad, show k / 16 = q by omega, show k % 16 = k - 16 * q by omega]
    · rw [if_neg (by omega)]; exact ih (by omega)
def e8 (x : BitVec 8) : Int := (x.toNat : Int)
def tw (x : BitVec 8) : BitVec 8 := if x >>> 7 = 1 then (x <<< 1) ^^^ 27 else x <<< 1
theorem ofInt_e8 (x : BitVec 8) : BitVec.ofInt 8 (e8 x) = x := by simp [e8]
theorem wrap_e8 (x : BitVec 8) : IntKind.u8.wrap ((x.toNat : Nat) : Int) = e8 x := wrap_u8 (by omega) (by have := x.isLt; omega)
theorem xor_e (x y : BitVec 8) : xorK .u8 (e8 x) (e8 y) = e8 (x ^^^ y) := by
  show IntKind.u8.wrap ((BitVec.ofInt 8 (e8 x) ^^^ BitVec.ofInt 8 (e8 y)).toNat : Int) = _
  rw [ofInt_e8, ofInt_e8, wrap_e8]
theorem twice_e0 : ∀ n, n < 256 → twiceI (n : Nat) = e8 (tw (BitVec.ofNat 8 n)) := by decide +kernel
theorem twice_e (x : BitVec 8) : twiceI (e8 x) = e8 (tw x) := by
  have := twice_e0 x.toNat x.isLt
  rwa [BitVec.ofNat_toNat, BitVec.setWidth_eq] at this
theorem tw_form0 : ∀ n, n < 256 → tw (BitVec.ofNat 8 n) = (BitVec.ofNat 8 n <<< 1) ^^^ (if (BitVec.ofNat 8 n).getLsbD 7 then 27 else 0) := by decide +kernel
theorem tw_form (x : BitVec 8) : tw x = (x <<< 1) ^^^ (if x.getLsbD 7 then 27 else 0) := by
  have := tw_form0 x.toNat x.isLt
  rwa [BitVec.ofNat_toNat, BitVec.setWidth_eq] at this
theorem b_lc (x y z : BitVec 8) : x ^^^ (y ^^^ z) = y ^^^ (x ^^^ z) := by rw [← BitVec.xor_assoc, BitVec.xor_comm x, BitVec.xor_assoc]
theorem b_sl (x y : BitVec 8) : x ^^^ (x ^^^ y) = y := by rw [← BitVec.xor_assoc, BitVec.xor_self, BitVec.zero_xor]
theorem tw_xor (x y : BitVec 8) : tw (x ^^^ y) = tw x ^^^ tw y := by
  rw [tw_form, tw_form, tw_form, BitVec.shiftLeft_xor_distrib, BitVec.getLsbD_xor]
  cases x.getLsbD 7 <;> cases y.getLsbD 7 <;> simp [BitVec.xor_assoc, b_lc, b_sl]
  all_goals (rw [BitVec.xor_comm])
def mx (x all y : Int) : Int := xorK .u8 x (xorK .u8 all (twiceI (xorK .u8 x y)))
theorem mixC_0 (a0 a1 a2 a3 a4 a5 a6 a7 a8 a9 a10 a11 a12 a13 a14 a15 : Int) : mixC [a0, a1, a2, a3, a4, a5, a6, a7, a8, a9, a10, a11, a12, a13, a14, a15] 0 = [mx a0 (xorK .u8 (xorK .u8 (xorK .u8 a0 a1) a2) a3) a1, mx a1 (xorK .u8 (xorK .u8 (xorK .u8 a0 a1) a2) a3) a2, mx a2 (xorK .u8 (xorK .u8 (xorK .u8 a0 a1) a2) a3) a3, mx a3 (xorK .u8 (xorK .u8 (xorK .u8 a0 a1) a2) a3) a0, a4, a5, a6, a7, a8, a9, a10, a11, a12, a13, a14, a15] := by simp [mixC, mixR, mx]
theorem mixC_1 (a0 a1 a2 a3 a4 a5 a6 a7 a8 a9 a10 a11 a12 a13 a14 a15 : Int) : mixC [a0, a1, a2, a3, a4, a5, a6, a7, a8, a9, a10, a11, a12, a13, a14, a15] 4 = [a0, a1, a2, a3, mx a4 (xorK .u8 (xorK .u8 (xorK .u8 a4 a5) a6) a7) a5, mx a5 (xorK .u8 (xorK .u8 (xorK .u8 a4 a5) a6) a7) a6, mx a6 (xorK .u8 (xorK .u8 (xorK .u8 a4 a5) a6) a7) a7, mx a7 (xorK .u8 (xorK .u8 (xorK .u8 a4 a5) a6) a7) a4, a8, a9, a10, a11, a12, a13, a14, a15] := by simp [mixC, mixR, mx]
theorem mixC_2 (a0 a1 a2 a3 a4 a5 a6 a7 a8 a9 a10 a11 a12 a13 a14 a15 : Int) : mixC [a0, a1, a2, a3, a4, a5, a6, a7, a8, a9, a10, a11, a12, a13, a14, a15] 8 = [a0, a1, a2, a3, a4, a5, a6, a7, mx a8 (xorK .u8 (xorK .u8 (xorK .u8 a8 a9) a10) a11) a9, mx a9 (xorK .u8 (xorK .u8 (xorK .u8 a8 a9) a10) a11) a10, mx a10 (xorK .u8 (xorK .u8 (xorK .u8 a8 a9) a10) a11) a11, mx a11 (xorK .u8 (xorK .u8 (xorK .u8 a8 a9) a10) a11) a8, a12, a13, a14, a15] := by simp [mixC, mixR, mx]
theorem mixC_3 (a0 a1 a2 a3 a4 a5 a6 a7 a8 a9 a10 a11 a12 a13 a14 a15 : Int) : mixC [a0, a1, a2, a3, a4, a5, a6, a7, a8, a9, a10, a11, a12, a13, a14, a15] 12 = [a0, a1, a2, a3, a4, a5, a6, a7, a8, a9, a10, a11, mx a12 (xorK .u8 (xorK .u8 (xorK .u8 a12 a13) a14) a15) a13, mx a13 (xorK .u8 (xorK .u8 (xorK .u8 a12 a13) a14) a15) a14, mx a14 (xorK .u8 (xorK .u8 (xorK .u8 a12 a13) a14) a15) a15, mx a15 (xorK .u8 (xorK .u8 (xorK .u8 a12 a13) a14) a15) a12] := by simp [mixC, mixR, mx]
theorem mixI_16 (a0 a1 a2 a3 a4 a5 a6 a7 a8 a9 a10 a11 a12 a13 a14 a15 : Int) : mixI [a0, a1, a2, a3, a4, a5, a6, a7, a8, a9, a10, a11, a12, a13, a14, a15] = [mx a0 (xorK .u8 (xorK .u8 (xorK .u8 a0 a1) a2) a3) a1, mx a1 (xorK .u8 (xorK .u8 (xorK .u8 a0 a1) a2) a3) a2, mx a2 (xorK .u8 (xorK .u8 (xorK .u8 a0 a1) a2) a3) a3, mx a3 (xorK .u8 (xorK .u8 (xorK .u8 a0 a1) a2) a3) a0, mx a4 (xorK .u8 (xorK .u8 (xorK .u8 a4 a5) a6) a7) a5, mx a5 (xorK .u8 (xorK .u8 (xorK .u8 a4 a5) a6) a7) a6, mx a6 (xorK .u8 (xorK .u8 (xorK .u8 a4 a5) a6) a7) a7, mx a7 (xorK .u8 (xorK .u8 (xorK .u8 a4 a5) a6) a7) a4, mx a8 (xorK .u8 (xorK .u8 (xorK .u8 a8 a9) a10) a11) a9, mx a9 (xorK .u8 (xorK .u8 (xorK .u8 a8 a9) a10) a11) a10, mx a10 (xorK .u8 (xorK .u8 (xorK .u8 a8 a9) a10) a11) a11, mx a11 (xorK .u8 (xorK .u8 (xorK .u8 a8 a9) a10) a11) a8, mx a12 (xorK .u8 (xorK .u8 (xorK .u8 a12 a13) a14) a15) a13, mx a13 (xorK .u8 (xorK .u8 (xorK .u8 a12 a13) a14) a15) a14, mx a14 (xorK .u8 (xorK .u8 (xorK .u8 a12 a13) a14) a15) a15, mx a15 (xorK .u8 (xorK .u8 (xorK .u8 a12 a13) a14) a15) a12] := by
  unfold mixI
  show mixC (mixC (mixC (mixC [a0, a1, a2, a3, a4, a5, a6, a7, a8, a9, a10, a11, a12, a13, a14, a15] 0) 4) 8) 12 = _
  rw [mixC_0, mixC_1, mixC_2, mixC_3]
theorem mx_e (x al y : BitVec 8) : mx (e8 x) (e8 al) (e8 y) = e8 (x ^^^ (al ^^^ tw (x ^^^ y))) := by simp only [mx, xor_e, twice_e]
theorem V_of {l : List Int} (h : l.length = 16) (hu : U8 l) : ∃ x0 x1 x2 x3 x4 x5 x6 x7 x8 x9 x10 x11 x12 x13 x14 x15 : BitVec 8, l = [e8 x0, e8 x1, e8 x2, e8 x3, e8 x4, e8 x5, e8 x6, e8 x7, e8 x8, e8 x9, e8 x10, e8 x11, e8 x12, e8 x13, e8 x14, e8 x15] := by
  obtain ⟨a0, a1, a2, a3, a4, a5, a6, a7, a8, a9, a10, a11, a12, a13, a14, a15, rfl⟩ : ∃ a0 a1 a2 a3 a4 a5 a6 a7 a8 a9 a10 a11 a12 a13 a14 a15 : Int, l = [a0, a1, a2, a3, a4, a5, a6, a7, a8, a9, a10, a11, a12, a13, a14, a15] := by
    rcases l with _ | ⟨a0, l⟩; simp at h; rcases l with _ | ⟨a1, l⟩; simp at h; rcases l with _ | ⟨a2, l⟩; simp at h; rcases l with _ | ⟨a3, l⟩; simp at h; rcases l with _ | ⟨a4, l⟩; simp at h; rcases l with _ | ⟨a5, l⟩; simp at h; rcases l with _ | ⟨a6, l⟩; simp at h; rcases l with _ | ⟨a7, l⟩; simp at h; rcases l with _ | ⟨a8, l⟩; simp at h; rcases l with _ | ⟨a9, l⟩; simp at h; rcases l with _ | ⟨a10, l⟩; simp at h; rcases l with _ | ⟨a11, l⟩; simp at h; rcases l with _ | ⟨a12, l⟩; simp at h; rcases l with _ | ⟨a13, l⟩; simp at h; rcases l with _ | ⟨a14, l⟩; simp at h; rcases l with _ | ⟨a15, l⟩; simp at h; rcases l with _ | ⟨b, l⟩; exact ⟨_, _, _, _, _, _, _, _, _, _, _, _, _, _, _, _, rfl⟩; simp at h
  have key : ∀ a : Int, 0 ≤ a ∧ a < 256 → a = e8 (BitVec.ofInt 8 a) := fun a ha => by
    obtain ⟨m, rfl⟩ := Int.eq_ofNat_of_zero_le ha.1
    simp [e8]
    omega
  exact ⟨BitVec.ofInt 8 a0, BitVec.ofInt 8 a1, BitVec.ofInt 8 a2, BitVec.ofInt 8 a3, BitVec.ofInt 8 a4, BitVec.ofInt 8 a5, BitVec.ofInt 8 a6, BitVec.ofInt 8 a7, BitVec.ofInt 8 a8, BitVec.ofInt 8 a9, BitVec.ofInt 8 a10, BitVec.ofInt 8 a11, BitVec.ofInt 8 a12, BitVec.ofInt 8 a13, BitVec.ofInt 8 a14, BitVec.ofInt 8 a15, by rw [← key a0 (hu 0), ← key a1 (hu 1), ← key a2 (hu 2), ← key a3 (hu 3), ← key a4 (hu 4), ← key a5 (hu 5), ← key a6 (hu 6), ← key a7 (hu 7), ← key a8 (hu 8), ← key a9 (hu 9), ← key a10 (hu 10), ← key a11 (hu 11), ← key a12 (hu 12), ← key a13 (hu 13), ← key a14 (hu 14), ← key a15 (hu 15)]⟩
theorem xorTo_get (a b : List Int) (k i : Nat) : (xorTo a b k).getD i 0 = if i < k ∧ i < a.length then xorK .u8 (a.getD i 0) (b.getD i 0) else a.getD i 0 := by
  induction k with
  | zero => rw [if_neg (by omega)]; rfl
  | succ k ih =>
    rw [xorTo, getD_set, xorTo_len]
    by_cases h : k = i ∧ k < a.length
    · obtain ⟨rfl, h2⟩ := h
      rw [if_pos ⟨rfl, h2⟩, if_pos ⟨by omega, h2⟩, ih, if_neg (by omega)]
    · rw [if_neg h, ih]
      by_cases h2 : i < k ∧ i < a.length
      · rw [if_pos h2, if_pos ⟨by omega, h2.2⟩]
      · rw [if_neg h2, if_neg (by omega)]
theorem xor16_get (a b : List Int) (i : Nat) (h : a.length = 16) (hi : i < 16) : (xor16 a b).getD i 0 = xorK .u8 (a.getD i 0) (b.getD i 0) := by
  unfold xor16; rw [xorTo_get, if_pos ⟨hi, by omega⟩]
theorem list_get {a b : List Int} {n : Nat} (ha : a.length = n) (hb : b.length = n) (h : ∀ k, k < n → a.getD k 0 = b.getD k 0) : a = b := by
  apply List.ext_getElem (by omega)
  intro i h1 h2
  have := h i (by omega)
  simpa [List.getD_eq_getElem?_getD, h1, h2] using this
theorem take_getD (l : List Int) (m k : Nat) (h : k < m) : (l.take m).getD k 0 = l.getD k 0 := by
  simp [List.getD_eq_getElem?_getD, List.getElem?_take, h]
theorem drop_getD (l : List Int) (m k : Nat) : (l.drop m).getD k 0 = l.getD (m + k) 0 := by
  simp [List.getD_eq_getElem?_getD, List.getElem?_drop]
def timS (a b : Int) : Nat → Int × Int
  | 0 => (0, a)
  | i + 1 => (if andK .u8 (shrK .u8 b i) 1 = 1 then xorK .u8 (timS a b i).1 (timS a b i).2 else (timS a b i).1,
      if andK .u8 (timS a b i).2 128 ≠ 0 then xorK .u8 (shlK .u8 (timS a b i).2 1) 27 else shlK .u8 (timS a b i).2 1)
def timI (a b : Int) : Int := (timS a b 8).1
def turnI (y : Int) (n : Nat) : Int := orK .u8 (shlK .u8 y n) (shrK .u8 y ((8 - n : Nat) : Int))
def fK (i : Nat) : Nat → Nat → Int
  | 0, _ => 0
  | f + 1, k => if timI i k = 1 then k else fK i f (k + 1)
def yI (i : Nat) : Int := if 0 < i then fK i 255 1 else 0
def boxV (y : Int) : Int := xorK .u8 (xorK .u8 (xorK .u8 (xorK .u8 (xorK .u8 y (turnI y 1)) (turnI y 2)) (turnI y 3)) (turnI y 4)) 99
def rbox : Nat → List Int
  | 0 => z 256
  | i + 1 => (rbox i).set i (boxV (yI i))
theorem rbox_len (i : Nat) : (rbox i).length = 256 := by
  induction i with
  | zero => exact z_len _
  | succ i ih => simp [rbox, ih]
theorem wrap_n {n : Nat} (h : n < 256) : IntKind.u8.wrap (n : Int) = (n : Int) := wrap_u8 (by omega) (by omega)
theorem xorK_n {m n : Nat} (hm : m < 256) (hn : n < 256) : xorK .u8 (m : Int) (n : Int) = ((m ^^^ n : Nat) : Int) := by
  have := xor_e (BitVec.ofNat 8 m) (BitVec.ofNat 8 n)
  simpa [e8, Nat.mod_eq_of_lt hm, Nat.mod_eq_of_lt hn] using this
theorem xor_lt {m n : Nat} (hm : m < 256) (hn : n < 256) : m ^^^ n < 256 := Nat.xor_lt_two_pow (n := 8) hm hn
def twN (a : Nat) : Nat := bif Nat.ble 128 a then (a * 2 % 256) ^^^ 27 else a * 2 % 256
theorem twN_ok : ∀ a, a < 256 → twN a < 256 ∧ (if andK .u8 (a : Nat) 128 ≠ 0 then xorK .u8 (shlK .u8 (a : Nat) 1) 27 else shlK .u8 (a : Nat) 1) = ((twN a : Nat) : Int) := by decide +kernel
theorem bit_ok : ∀ i, i < 8 → ∀ b, b < 256 → (andK .u8 (shrK .u8 (b : Nat) (i : Nat)) 1 = 1 ↔ (b >>> i) % 2 = 1) := by decide +kernel
def tG : Nat → Nat → Nat → Nat → Nat
  | 0, o, _, _ => o
  | f + 1, o, a, b => tG f (bif Nat.beq (b % 2) 1 then o ^^^ a else o) (twN a) (b >>> 1)
theorem timS_tG (a b : Nat) (ha : a < 256) (hb : b < 256) (i : Nat) (hi : i ≤ 8) : ∃ o c : Nat, o < 256 ∧ c < 256 ∧ timS a b i = ((o : Int), (c : Int)) ∧ tG (8 - i) o c (b >>> i) = tG 8 0 a b := by
  induction i with
  | zero => exact ⟨0, a, by omega, ha, rfl, rfl⟩
  | succ i ih =>
    obtain ⟨o, c, ho, hc, e1, e2⟩ := ih (by omega)
    obtain ⟨h1, h2⟩ := twN_ok c hc
    refine ⟨bif Nat.beq ((b >>> i) % 2) 1 then o ^^^ c else o, twN c, ?_, h1, ?_, ?_⟩
    · cases Nat.beq ((b >>> i) % 2) 1
      · exact ho
      · exact xor_lt ho hc
    · rw [timS, e1]
      congr 1
      by_cases h : (b >>> i) % 2 = 1
      · rw [if_pos ((bit_ok i (by omega) b hb).2 h), h]
        exact xorK_n ho hc
      · rw [if_neg fun x => h ((bit_ok i (by omega) b hb).1 x)]
        have : Nat.beq ((b >>> i) % 2) 1 = false := by
          cases hq : Nat.beq ((b >>> i) % 2) 1 with
          | false => rfl
          | true => exact absurd (Nat.eq_of_beq_eq_true hq) h
        rw [this]; rfl
    · rw [← e2, show 8 - i = (8 - (i + 1)) + 1 by omega, tG, Nat.shiftRight_succ, Nat.shiftRight_eq_div_pow _ 1]
theorem timI_tG {a b : Nat} (ha : a < 256) (hb : b < 256) : timI (a : Nat) (b : Nat) = (tG 8 0 a b : Nat) := by
  obtain ⟨o, c, _, _, e1, e2⟩ := timS_tG a b ha hb 8 (by omega)
  rw [timI, e1, ← e2]; rfl
def fN (i : Nat) : Nat → Nat → Nat
  | 0, _ => 0
  | f + 1, k => bif Nat.beq (tG 8 0 i k) 1 then k else fN i f (k + 1)
theorem fK_fN (i : Nat) (hi : i < 256) (f k : Nat) (h : k + f ≤ 256) : fK i f k = (fN i f k : Nat) := by
  induction f generalizing k with
  | zero => rfl
  | succ f ih =>
    rw [fK, fN, timI_tG hi (by omega), ih (k + 1) (by omega)]
    by_cases h1 : tG 8 0 i k = 1
    · rw [h1]; rfl
    · have : Nat.beq (tG 8 0 i k) 1 = false := by
        cases hq : Nat.beq (tG 8 0 i k) 1 with
        | false => rfl
        | true => exact absurd (Nat.eq_of_beq_eq_true hq) h1
      rw [if_neg (by omega), this]; rfl
def INV : List Nat := [0, 1, 141, 246, 203, 82, 123, 209, 232, 79, 41, 192, 176, 225, 229, 199, 116, 180, 170, 75, 153, 43, 96, 95, 88, 63, 253, 204, 255, 64, 238, 178, 58, 110, 90, 241, 85, 77, 168, 201, 193, 10, 152, 21, 48, 68, 162, 194, 44, 69, 146, 108, 243, 57, 102, 66, 242, 53, 32, 111, 119, 187, 89, 25, 29, 254, 55, 103, 45, 49, 245, 105, 167, 100, 171, 19, 84, 37, 233, 9, 237, 92, 5, 202, 76, 36, 135, 191, 24, 62, 34, 240, 81, 236, 97, 23, 22, 94, 175, 211, 73, 166, 54, 67, 244, 71, 145, 223, 51, 147, 33, 59, 121, 183, 151, 133, 16, 181, 186, 60, 182, 112, 208, 6, 161, 250, 129, 130, 131, 126, 127, 128, 150, 115, 190, 86, 155, 158, 149, 217, 247, 2, 185, 164, 222, 106, 50, 109, 216, 138, 132, 114, 42, 20, 159, 136, 249, 220, 137, 154, 251, 124, 46, 195, 143, 184, 101, 72, 38, 200, 18, 74, 206, 231, 210, 98, 12, 224, 31, 239, 17, 117, 120, 113, 165, 142, 118, 61, 189, 188, 134, 87, 11, 40, 47, 163, 218, 212, 228, 15, 169, 39, 83, 4, 27, 252, 172, 230, 122, 7, 174, 99, 197, 219, 226, 234, 148, 139, 196, 213, 157, 248, 144, 107, 177, 13, 214, 235, 198, 14, 207, 173, 8, 78, 215, 227, 93, 80, 30, 179, 91, 35, 56, 52, 104, 70, 3, 140, 221, 156, 125, 160, 205, 26, 65, 28]
theorem inv_ok : ∀ i, i < 256 → fN i 255 1 = INV.getD i 0 := by decide +kernel
theorem box_ok : ∀ i, i < 256 → boxV (if 0 < i then ((INV.getD i 0 : Nat) : Int) else 0) = SB.getD i 0 := by decide +kernel
theorem z_get (n i : Nat) : (z n).getD i 0 = 0 := by
  simp only [z, List.getD_eq_getElem?_getD, List.getElem?_replicate]
  split <;> rfl
theorem rbox_get (n i : Nat) (hi : i < 256) (hn : n ≤ 256) : (rbox n).getD i 0 = if i < n then boxV (yI i) else 0 := by
  induction n with
  | zero => rw [if_neg (by omega)]; exact z_get _ _
  | succ n ih =>
    rw [rbox, getD_set, rbox_len, ih (by omega)]
    by_cases h : n = i
    · subst h; rw [if_pos ⟨rfl, hi⟩, if_pos (by omega)]
    · rw [if_neg (fun x => h x.1)]
      by_cases h2 : i < n
      · rw [if_pos h2, if_pos (by omega)]
      · rw [if_neg h2, if_neg (by omega)]
set_option maxRecDepth 100000 in
theorem rbox_eq : rbox 256 = SB := list_get (rbox_len _) rfl fun i hi => by
  rw [rbox_get _ _ hi (by omega), if_pos hi, yI, fK_fN i hi 255 1 (by omega), inv_ok i hi]
  exact box_ok i hi
def rback : Nat → List Int
  | 0 => z 256
  | i + 1 => (rback i).set (SB.getD i 0).toNat i
theorem rback_len (i : Nat) : (rback i).length = 256 := by
  induction i with
  | zero => exact z_len _
  | succ i ih => simp [rback, ih]
set_option maxRecDepth 100000 in
theorem rback_eq : rback 256 = BK := by decide +kernel
theorem tim_e (m : Nat) (hm : m < 256) (f : BitVec 8 → BitVec 8) (h : ∀ n, n < 256 → timI (n : Nat) (m : Nat) = e8 (f (BitVec.ofNat 8 n))) (x : BitVec 8) : timI (e8 x) (m : Nat) = e8 (f x) := by
  have := h x.toNat x.isLt
  rwa [BitVec.ofNat_toNat, BitVec.setWidth_eq] at this
theorem tim2 (x : BitVec 8) : timI (e8 x) 2 = e8 (tw x) := tim_e 2 (by omega) tw (by decide +kernel) x
theorem tim3 (x : BitVec 8) : timI (e8 x) 3 = e8 (tw x ^^^ x) := tim_e 3 (by omega) (fun x => tw x ^^^ x) (by decide +kernel) x
def rrow (W : List Int) (j : Nat) : List Int := (W.drop ((j + 3) * 4)).take 4
def rkS (W x : List Int) (j : Nat) : Nat → List Int
  | 0 => W
  | k + 1 => (rkS W x j k).set ((j + 4) * 4 + k) (xorK .u8 ((rkS W x j k).getD (j * 4 + k) 0) (x.getD k 0))
theorem rkS_len (W x : List Int) (j k : Nat) : (rkS W x j k).length = W.length := by
  induction k with
  | zero => rfl
  | succ k ih => simp [rkS, ih]
def rsub (S x : List Int) (b : Int) : List Int := [xorK .u8 (S.getD (x.getD 1 0).toNat 0) b, S.getD (x.getD 2 0).toNat 0, S.getD (x.getD 3 0).toNat 0, S.getD (x.getD 0 0).toNat 0]
def rxx (S W : List Int) (j : Nat) (b : Int) : Int × List Int := if (j + 4) % 4 = 0 then (timI b 2, rsub S (rrow W j) b) else (b, rrow W j)
def rkey (key : List Int) (i : Nat) : List Int := [key.getD (4 * i) 0, key.getD (4 * i + 1) 0, key.getD (4 * i + 2) 0, key.getD (4 * i + 3) 0]
def rows (S key : List Int) : Nat → Int × List Int
  | 0 => (1, z 176)
  | i + 1 => if i < 4 then ((rows S key i).1, spl (rows S key i).2 (rkey key i) (i * 4) 4 176)
      else ((rxx S (rows S key i).2 (i - 4) (rows S key i).1).1, rkS (rows S key i).2 (rxx S (rows S key i).2 (i - 4) (rows S key i).1).2 (i - 4) 4)
theorem rows_len (S key : List Int) (i : Nat) : (rows S key i).2.length = 176 := by
  induction i with
  | zero => exact z_len _
  | succ i ih =>
    simp only [rows]
    split
    · simp [spl]
    · rw [rkS_len, ih]
theorem U8_rkS {W x : List Int} (h : U8 W) (j k : Nat) : U8 (rkS W x j k) := by
  induction k with
  | zero => exact h
  | succ k ih => exact ih.set _ (xorK_u8_range _ _)
theorem U8_rkey {key : List Int} (h : U8 key) (i : Nat) : U8 (rkey key i) := U8_mem fun x hx => by
  simp only [rkey, List.mem_cons, List.not_mem_nil, or_false] at hx
  rcases hx with rfl | rfl | rfl | rfl <;> exact h _
theorem U8_rows {S key : List Int} (hk : U8 key) (i : Nat) : U8 (rows S key i).2 := by
  induction i with
  | zero => exact U8_z _
  | succ i ih =>
    simp only [rows]
    split
    · exact U8_spl ih (U8_rkey hk _) _ _ _
    · exact U8_rkS ih _ _
theorem rows_s1 (S key : List Int) (i : Nat) (h : i < 4) : rows S key (i + 1) = ((rows S key i).1, spl (rows S key i).2 (rkey key i) (i * 4) 4 176) := by simp only [rows]; rw [if_pos h]
theorem rows_s2 (S key : List Int) (j : Nat) : rows S key (j + 4 + 1) = ((rxx S (rows S key (j + 4)).2 j (rows S key (j + 4)).1).1, rkS (rows S key (j + 4)).2 (rxx S (rows S key (j + 4)).2 j (rows S key (j + 4)).1).2 j 4) := by
  rw [rows]; rw [if_neg (by omega), Nat.add_sub_cancel]
theorem xorK_comm (a b : Int) : xorK .u8 a b = xorK .u8 b a := by
  have e : ∀ m n : Int, xorK .u8 m n = IntKind.u8.wrap ((BitVec.ofInt 8 m ^^^ BitVec.ofInt 8 n).toNat : Int) := fun _ _ => rfl
  rw [e, e, BitVec.xor_comm]
theorem rkS_get (W x : List Int) (j k m : Nat) (hk : k ≤ 4) (hl : (j + 4) * 4 + 4 ≤ W.length) : (rkS W x j k).getD m 0 = if (j + 4) * 4 ≤ m ∧ m < (j + 4) * 4 + k then xorK .u8 (W.getD (j * 4 + (m - (j + 4) * 4)) 0) (x.getD (m - (j + 4) * 4) 0) else W.getD m 0 := by
  induction k generalizing m with
  | zero => rw [if_neg (by omega)]; rfl
  | succ k ih =>
    rw [rkS, getD_set, rkS_len, ih _ (by omega), ih _ (by omega), if_neg (show ¬ ((j + 4) * 4 ≤ j * 4 + k ∧ j * 4 + k < (j + 4) * 4 + k) by omega)]
    by_cases h : (j + 4) * 4 + k = m
    · subst h
      rw [if_pos ⟨rfl, by omega⟩, if_pos (by omega), Nat.add_sub_cancel_left]
    · rw [if_neg (fun e => h e.1)]
      by_cases h2 : (j + 4) * 4 ≤ m ∧ m < (j + 4) * 4 + k
      · rw [if_pos h2, if_pos (by omega)]
      · rw [if_neg h2, if_neg (by omega)]
theorem kw_inv (was wd K : List Int) (n' i : Nat) (hw : wd.length = 4) (hK : n' * 16 + 16 ≤ K.length) (hi : i ≤ 16) :
    (∀ m, (m < n' * 16 ∨ n' * 16 + i ≤ m) → (kw was wd K n' i).2.getD m 0 = K.getD m 0) ∧
    (∀ c, c < i → (kw was wd K n' i).2.getD (n' * 16 + c) 0 = xorK .u8 (if c < 4 then wd.getD c 0 else (kw was wd K n' i).2.getD (n' * 16 + c - 4) 0) (was.getD c 0)) ∧
    (∀ j, j < 4 → (kw was wd K n' i).1.getD j 0 = if i ≤ j then wd.getD j 0 else (kw was wd K n' i).2.getD (n' * 16 + (i - 1 - (i - 1 - j) % 4)) 0) := by
  induction i with
  | zero => exact ⟨fun _ _ => rfl, fun c hc => by omega, fun j _ => by rw [if_pos (by omega)]; rfl⟩
  | succ i ih =>
    obtain ⟨h1, h2, h3⟩ := ih (by omega)
    have lD := (kw_len was wd K n' i).1
    have lL := (kw_len was wd K n' i).2
    simp only [kw]
    generalize (kw was wd K n' i).1 = D at *
    generalize (kw was wd K n' i).2 = L at *
    have e1 : (D.set (i % 4) (xorK .u8 (D.getD (i % 4) 0) (was.getD i 0))).getD (i % 4) 0 = xorK .u8 (D.getD (i % 4) 0) (was.getD i 0) := by rw [getD_set, if_pos ⟨rfl, by omega⟩]
    rw [e1]
    have hv : D.getD (i % 4) 0 = if i < 4 then wd.getD i 0 else L.getD (n' * 16 + i - 4) 0 := by
      rw [h3 _ (by omega)]
      by_cases h4 : i < 4
      · rw [if_pos (by omega), if_pos h4, Nat.mod_eq_of_lt h4]
      · rw [if_neg (by omega), if_neg h4, show n' * 16 + (i - 1 - (i - 1 - i % 4) % 4) = n' * 16 + i - 4 by omega]
    generalize hvv : xorK .u8 (D.getD (i % 4) 0) (was.getD i 0) = v at *
    refine ⟨fun m hm => ?_, fun c hc => ?_, fun j hj => ?_⟩
    · rw [getD_set, if_neg (by omega), h1 m (by omega)]
    · have hin : (if c < 4 then wd.getD c 0 else (L.set (n' * 16 + i) v).getD (n' * 16 + c - 4) 0) = if c < 4 then wd.getD c 0 else L.getD (n' * 16 + c - 4) 0 := by
        split
        · rfl
        · rw [getD_set, if_neg (by omega)]
      rw [hin, getD_set]
      by_cases h5 : c = i
      · subst h5
        rw [if_pos ⟨rfl, by omega⟩, ← hvv, hv]
      · rw [if_neg (by omega), h2 c (by omega)]
    · rw [getD_set, getD_set]
      by_cases h5 : i % 4 = j
      · rw [if_pos ⟨h5, by omega⟩, if_neg (by omega), if_pos ⟨by omega, by omega⟩]
      · rw [if_neg (fun e => h5 e.1), h3 j hj]
        by_cases h6 : i ≤ j
        · rw [if_pos h6, if_pos (by omega)]
        · rw [if_neg h6, if_neg (by omega), if_neg (by omega), show n' * 16 + (i + 1 - 1 - (i + 1 - 1 - j) % 4) = n' * 16 + (i - 1 - (i - 1 - j) % 4) by omega]
theorem spl_get (xs ys : List Int) (i n m k : Nat) (hk : k < m) : (spl xs ys i n m).getD k 0 = if i ≤ k ∧ k < i + n then ys.getD (k - i) 0 else xs.getD k 0 := by
  simp [spl, List.getD_eq_getElem?_getD, hk]
theorem rkey_get (key : List Int) (i k : Nat) (hk : k < 4) : (rkey key i).getD k 0 = key.getD (4 * i + k) 0 := by
  match k, hk with
  | 0, _ => rfl
  | 1, _ => rfl
  | 2, _ => rfl
  | 3, _ => rfl
theorem rows_4 (S key : List Int) : rows S key 4 = ks S key 0 := by
  rw [rows_s1 S key 3 (by omega), rows_s1 S key 2 (by omega), rows_s1 S key 1 (by omega), rows_s1 S key 0 (by omega)]
  refine Prod.ext rfl (list_get (n := 176) (by simp [spl]) (by simp [ks, spl]) fun m hm => ?_)
  show (spl (spl (spl (spl (z 176) (rkey key 0) (0 * 4) 4 176) (rkey key 1) (1 * 4) 4 176) (rkey key 2) (2 * 4) 4 176) (rkey key 3) (3 * 4) 4 176).getD m 0 = (spl (z 176) key 0 16 176).getD m 0
  rw [spl_get _ _ _ _ _ _ hm, spl_get _ _ _ _ _ _ hm, spl_get _ _ _ _ _ _ hm, spl_get _ _ _ _ _ _ hm, spl_get _ _ _ _ _ _ hm]
  by_cases h3 : 3 * 4 ≤ m ∧ m < 3 * 4 + 4
  · rw [if_pos h3, if_pos (by omega), rkey_get _ _ _ (by omega), show 4 * 3 + (m - 3 * 4) = m - 0 by omega]
  rw [if_neg h3]
  by_cases h2 : 2 * 4 ≤ m ∧ m < 2 * 4 + 4
  · rw [if_pos h2, if_pos (by omega), rkey_get _ _ _ (by omega), show 4 * 2 + (m - 2 * 4) = m - 0 by omega]
  rw [if_neg h2]
  by_cases h1 : 1 * 4 ≤ m ∧ m < 1 * 4 + 4
  · rw [if_pos h1, if_pos (by omega), rkey_get _ _ _ (by omega), show 4 * 1 + (m - 1 * 4) = m - 0 by omega]
  rw [if_neg h1]
  by_cases h0 : 0 * 4 ≤ m ∧ m < 0 * 4 + 4
  · rw [if_pos h0, if_pos (by omega), rkey_get _ _ _ (by omega), show 4 * 0 + (m - 0 * 4) = m - 0 by omega]
  rw [if_neg h0, if_neg (by omega)]
theorem rrow_get (W : List Int) (j k : Nat) (hk : k < 4) : (rrow W j).getD k 0 = W.getD ((j + 3) * 4 + k) 0 := by
  rw [rrow, take_getD _ _ _ hk, drop_getD]
theorem kwas_get (K : List Int) (n i : Nat) (hi : i < 16) : (kwas K n).getD i 0 = K.getD (n * 16 + i) 0 := by
  rw [kwas, take_getD _ _ _ hi, drop_getD]
theorem rsub_word (S K : List Int) (n : Nat) (b : Int) (c : Nat) (hc : c < 4) : (rsub S (rrow K (4 * n)) b).getD c 0 = (word S K n b).getD c 0 := by
  have e : ∀ k, k < 4 → (rrow K (4 * n)).getD k 0 = (kwas K n).getD (12 + k) 0 := fun k hk => by
    rw [rrow_get _ _ _ hk, kwas_get _ _ _ (by omega), show (4 * n + 3) * 4 + k = n * 16 + (12 + k) by omega]
  match c, hc with
  | 0, _ => show xorK .u8 (S.getD ((rrow K (4 * n)).getD 1 0).toNat 0) b = xorK .u8 (S.getD ((kwas K n).getD 13 0).toNat 0) b; rw [e 1 (by omega)]
  | 1, _ => show S.getD ((rrow K (4 * n)).getD 2 0).toNat 0 = S.getD ((kwas K n).getD 14 0).toNat 0; rw [e 2 (by omega)]
  | 2, _ => show S.getD ((rrow K (4 * n)).getD 3 0).toNat 0 = S.getD ((kwas K n).getD 15 0).toNat 0; rw [e 3 (by omega)]
  | 3, _ => show S.getD ((rrow K (4 * n)).getD 0 0).toNat 0 = S.getD ((kwas K n).getD 12 0).toNat 0; rw [e 0 (by omega)]
theorem rxx_0 (S W : List Int) (j : Nat) (b : Int) (h : (j + 4) % 4 = 0) : rxx S W j b = (timI b 2, rsub S (rrow W j) b) := if_pos h
theorem rxx_1 (S W : List Int) (j : Nat) (b : Int) (h : ¬ (j + 4) % 4 = 0) : rxx S W j b = (b, rrow W j) := if_neg h
theorem rows_round (S K : List Int) (n : Nat) (b : Int) (hK : K.length = 176) (hn : n < 10) (x0 : List Int) (hx : ∀ c, c < 4 → x0.getD c 0 = (word S K n b).getD c 0) (W1 W2 W3 W4 : List Int)
    (e1 : W1 = rkS K x0 (4 * n) 4) (e2 : W2 = rkS W1 (rrow W1 (4 * n + 1)) (4 * n + 1) 4) (e3 : W3 = rkS W2 (rrow W2 (4 * n + 2)) (4 * n + 2) 4) (e4 : W4 = rkS W3 (rrow W3 (4 * n + 3)) (4 * n + 3) 4) :
    W4 = (kw (kwas K n) (word S K n b) K (n + 1) 16).2 := by
  have l1 : W1.length = 176 := by rw [e1, rkS_len, hK]
  have l2 : W2.length = 176 := by rw [e2, rkS_len, l1]
  have l3 : W3.length = 176 := by rw [e3, rkS_len, l2]
  have l4 : W4.length = 176 := by rw [e4, rkS_len, l3]
  obtain ⟨k1, k2, _⟩ := kw_inv (kwas K n) (word S K n b) K (n + 1) 16 rfl (by omega) (by omega)
  have lk : (kw (kwas K n) (word S K n b) K (n + 1) 16).2.length = 176 := by rw [(kw_len _ _ _ _ _).2, hK]
  generalize (kw (kwas K n) (word S K n b) K (n + 1) 16).2 = L at *
  have g1 := fun m => rkS_get K x0 (4 * n) 4 m (by omega) (by omega)
  have g2 := fun m => rkS_get W1 (rrow W1 (4 * n + 1)) (4 * n + 1) 4 m (by omega) (by omega)
  have g3 := fun m => rkS_get W2 (rrow W2 (4 * n + 2)) (4 * n + 2) 4 m (by omega) (by omega)
  have g4 := fun m => rkS_get W3 (rrow W3 (4 * n + 3)) (4 * n + 3) 4 m (by omega) (by omega)
  rw [← e1] at g1
  rw [← e2] at g2
  rw [← e3] at g3
  rw [← e4] at g4
  have old1 : ∀ m, m < (n + 1) * 16 → W1.getD m 0 = K.getD m 0 := fun m h => by rw [g1, if_neg (by omega)]
  have old2 : ∀ m, m < (n + 1) * 16 → W2.getD m 0 = K.getD m 0 := fun m h => by rw [g2, if_neg (by omega), old1 m h]
  have old3 : ∀ m, m < (n + 1) * 16 → W3.getD m 0 = K.getD m 0 := fun m h => by rw [g3, if_neg (by omega), old2 m h]
  have r1 : ∀ c, c < 4 → W1.getD ((n + 1) * 16 + c) 0 = L.getD ((n + 1) * 16 + c) 0 := fun c hc => by
    rw [g1, if_pos (by omega), k2 c (by omega), if_pos hc, show (n + 1) * 16 + c - (4 * n + 4) * 4 = c by omega, hx c hc, kwas_get _ _ _ (by omega), xorK_comm, show 4 * n * 4 + c = n * 16 + c by omega]
  have r2 : ∀ c, c < 4 → W2.getD ((n + 1) * 16 + 4 + c) 0 = L.getD ((n + 1) * 16 + 4 + c) 0 := fun c hc => by
    rw [g2, if_pos (by omega), show (n + 1) * 16 + 4 + c = (n + 1) * 16 + (4 + c) by omega, k2 (4 + c) (by omega), if_neg (by omega), show (n + 1) * 16 + (4 + c) - (4 * n + 1 + 4) * 4 = c by omega, rrow_get _ _ _ hc, show (4 * n + 1 + 3) * 4 + c = (n + 1) * 16 + c by omega, r1 c hc, old1 _ (by omega), kwas_get _ _ _ (by omega), xorK_comm, show (4 * n + 1) * 4 + c = n * 16 + (4 + c) by omega, show (n + 1) * 16 + (4 + c) - 4 = (n + 1) * 16 + c by omega]
  have r3 : ∀ c, c < 4 → W3.getD ((n + 1) * 16 + 8 + c) 0 = L.getD ((n + 1) * 16 + 8 + c) 0 := fun c hc => by
    rw [g3, if_pos (by omega), show (n + 1) * 16 + 8 + c = (n + 1) * 16 + (8 + c) by omega, k2 (8 + c) (by omega), if_neg (by omega), show (n + 1) * 16 + (8 + c) - (4 * n + 2 + 4) * 4 = c by omega, rrow_get _ _ _ hc, show (4 * n + 2 + 3) * 4 + c = (n + 1) * 16 + 4 + c by omega, r2 c hc, old2 _ (by omega), kwas_get _ _ _ (by omega), xorK_comm, show (4 * n + 2) * 4 + c = n * 16 + (8 + c) by omega, show (n + 1) * 16 + (8 + c) - 4 = (n + 1) * 16 + 4 + c by omega]
  have r4 : ∀ c, c < 4 → W4.getD ((n + 1) * 16 + 12 + c) 0 = L.getD ((n + 1) * 16 + 12 + c) 0 := fun c hc => by
    rw [g4, if_pos (by omega), show (n + 1) * 16 + 12 + c = (n + 1) * 16 + (12 + c) by omega, k2 (12 + c) (by omega), if_neg (by omega), show (n + 1) * 16 + (12 + c) - (4 * n + 3 + 4) * 4 = c by omega, rrow_get _ _ _ hc, show (4 * n + 3 + 3) * 4 + c = (n + 1) * 16 + 8 + c by omega, r3 c hc, old3 _ (by omega), kwas_get _ _ _ (by omega), xorK_comm, show (4 * n + 3) * 4 + c = n * 16 + (12 + c) by omega, show (n + 1) * 16 + (12 + c) - 4 = (n + 1) * 16 + 8 + c by omega]
  refine list_get l4 lk fun m hm => ?_
  by_cases ha : m < (n + 1) * 16 ∨ (n + 1) * 16 + 16 ≤ m
  · rw [k1 m ha, g4, if_neg (by omega), g3, if_neg (by omega), g2, if_neg (by omega), g1, if_neg (by omega)]
  · by_cases h1 : m < (n + 1) * 16 + 4
    · have := r1 (m - (n + 1) * 16) (by omega)
      rw [show (n + 1) * 16 + (m - (n + 1) * 16) = m by omega] at this
      rw [← this, g4, if_neg (by omega), g3, if_neg (by omega), g2, if_neg (by omega)]
    · by_cases h2 : m < (n + 1) * 16 + 8
      · have := r2 (m - ((n + 1) * 16 + 4)) (by omega)
        rw [show (n + 1) * 16 + 4 + (m - ((n + 1) * 16 + 4)) = m by omega] at this
        rw [← this, g4, if_neg (by omega), g3, if_neg (by omega)]
      · by_cases h3 : m < (n + 1) * 16 + 12
        · have := r3 (m - ((n + 1) * 16 + 8)) (by omega)
          rw [show (n + 1) * 16 + 8 + (m - ((n + 1) * 16 + 8)) = m by omega] at this
          rw [← this, g4, if_neg (by omega)]
        · have := r4 (m - ((n + 1) * 16 + 12)) (by omega)
          rw [show (n + 1) * 16 + 12 + (m - ((n + 1) * 16 + 12)) = m by omega] at this
          rw [this]
theorem ks_by (S key : List Int) (n : Nat) : ∃ x, (ks S key n).1 = e8 x := by
  induction n with
  | zero => exact ⟨1, rfl⟩
  | succ n ih =>
    obtain ⟨x, hx⟩ := ih
    exact ⟨tw x, by rw [show (ks S key (n + 1)).1 = twiceI (ks S key n).1 from rfl, hx, twice_e]⟩
theorem rows_ks (S key : List Int) (n : Nat) (hn : n ≤ 10) : rows S key (4 * n + 4) = ks S key n := by
  induction n with
  | zero => exact rows_4 S key
  | succ n ih =>
    have ih := ih (by omega)
    obtain ⟨x, hx⟩ := ks_by S key n
    have s1 := rows_s2 S key (4 * n)
    have s2 := rows_s2 S key (4 * n + 1)
    have s3 := rows_s2 S key (4 * n + 2)
    have s4 := rows_s2 S key (4 * n + 3)
    rw [ih, rxx_0 _ _ _ _ (by omega)] at s1
    rw [rxx_1 _ _ _ _ (by omega), show 4 * n + 1 + 4 = 4 * n + 4 + 1 by omega] at s2
    rw [rxx_1 _ _ _ _ (by omega), show 4 * n + 2 + 4 = 4 * n + 4 + 1 + 1 by omega] at s3
    rw [rxx_1 _ _ _ _ (by omega), show 4 * n + 3 + 4 = 4 * n + 4 + 1 + 1 + 1 by omega] at s4
    rw [show 4 * (n + 1) + 4 = 4 * n + 4 + 1 + 1 + 1 + 1 by omega]
    have hr := rows_round S (ks S key n).2 n (ks S key n).1 (ks_len S key n) (by omega) (rsub S (rrow (ks S key n).2 (4 * n)) (ks S key n).1) (fun c hc => rsub_word _ _ _ _ c hc) _ _ _ _ rfl rfl rfl rfl
    have hb : timI (ks S key n).1 2 = twiceI (ks S key n).1 := by rw [hx, tim2, twice_e]
    rw [s4, s3, s2, s1]
    show (_, _) = (twiceI (ks S key n).1, _)
    rw [← hr, hb]
theorem rows_eq (key : List Int) : (rows SB key 44).2 = keysOf key := by
  unfold keysOf
  rw [← rows_ks SB key 10 (by omega)]
def rx0 (b W : List Int) : Nat → List Int
  | 0 => b
  | i + 1 => (rx0 b W i).set i (xorK .u8 ((rx0 b W i).getD i 0) (W.getD (i / 4 * 4 + i % 4) 0))
def rxn (b W : List Int) (n : Nat) : Nat → List Int
  | 0 => b
  | i + 1 => (rxn b W n i).set i (xorK .u8 ((rxn b W n i).getD i 0) (W.getD ((4 * n + i / 4) * 4 + i % 4) 0))
def rset (b c W : List Int) (n : Nat) : Nat → List Int
  | 0 => b
  | i + 1 => (rset b c W n i).set i (xorK .u8 (c.getD i 0) (W.getD ((4 * n + i / 4) * 4 + i % 4) 0))
theorem rx0_len (b W : List Int) (i : Nat) : (rx0 b W i).length = b.length := by
  induction i with
  | zero => rfl
  | succ i ih => simp [rx0, ih]
theorem rset_len (b c W : List Int) (n i : Nat) : (rset b c W n i).length = b.length := by
  induction i with
  | zero => rfl
  | succ i ih => simp [rset, ih]
theorem rx0_to (b W : List Int) (i : Nat) (hi : i ≤ 16) : rx0 b W i = xorTo b (kwas W 0) i := by
  induction i with
  | zero => rfl
  | succ i ih => rw [rx0, xorTo, ih (by omega), kwas_get _ _ _ (by omega), show i / 4 * 4 + i % 4 = 0 * 16 + i by omega]
theorem rx0_eq (b W : List Int) : rx0 b W 16 = xor16 b (kwas W 0) := by rw [rx0_to _ _ _ (by omega)]; unfold xor16; rfl
theorem rset_get (b c W : List Int) (n i m : Nat) (hb : b.length = 16) (hi : i ≤ 16) : (rset b c W n i).getD m 0 = if m < i then xorK .u8 (c.getD m 0) ((kwas W n).getD m 0) else b.getD m 0 := by
  induction i with
  | zero => rw [if_neg (by omega)]; rfl
  | succ i ih =>
    rw [rset, getD_set, rset_len, ih (by omega)]
    by_cases h : i = m
    · subst h
      rw [if_pos ⟨rfl, by omega⟩, if_pos (by omega), kwas_get _ _ _ (by omega), show (4 * n + i / 4) * 4 + i % 4 = n * 16 + i by omega]
    · rw [if_neg (fun e => h e.1)]
      by_cases h2 : m < i
      · rw [if_pos h2, if_pos (by omega)]
      · rw [if_neg h2, if_neg (by omega)]
theorem rset_eq (b c W : List Int) (n : Nat) (hb : b.length = 16) (hc : c.length = 16) : rset b c W n 16 = xor16 c (kwas W n) :=
  list_get ((rset_len _ _ _ _ _).trans hb) ((xor16_len _ _).trans hc) fun m hm => by
    rw [rset_get _ _ _ _ _ _ hb (by omega), if_pos hm, xor16_get _ _ _ hc hm]
def rmix1 (b : List Int) (k : Nat) (p q r t : Int) : List Int := (((b.set (4 * k) (xorK .u8 (xorK .u8 (xorK .u8 (timI p 2) (timI q 3)) r) t)).set (4 * k + 1) (xorK .u8 (xorK .u8 (xorK .u8 p (timI q 2)) (timI r 3)) t)).set (4 * k + 2) (xorK .u8 (xorK .u8 (xorK .u8 p q) (timI r 2)) (timI t 3))).set (4 * k + 3) (xorK .u8 (xorK .u8 (xorK .u8 (timI p 3) q) r) (timI t 2))
def rmixN (b : List Int) : Nat → List Int
  | 0 => b
  | k + 1 => rmix1 (rmixN b k) k ((rmixN b k).getD (4 * k) 0) ((rmixN b k).getD (4 * k + 1) 0) ((rmixN b k).getD (4 * k + 2) 0) ((rmixN b k).getD (4 * k + 3) 0)
theorem rmixN_len (b : List Int) (k : Nat) : (rmixN b k).length = b.length := by
  induction k with
  | zero => rfl
  | succ k ih => simp [rmixN, rmix1, ih]
theorem rmixN_16 (a0 a1 a2 a3 a4 a5 a6 a7 a8 a9 a10 a11 a12 a13 a14 a15 : Int) : rmixN [a0, a1, a2, a3, a4, a5, a6, a7, a8, a9, a10, a11, a12, a13, a14, a15] 4 = [xorK .u8 (xorK .u8 (xorK .u8 (timI a0 2) (timI a1 3)) a2) a3, xorK .u8 (xorK .u8 (xorK .u8 a0 (timI a1 2)) (timI a2 3)) a3, xorK .u8 (xorK .u8 (xorK .u8 a0 a1) (timI a2 2)) (timI a3 3), xorK .u8 (xorK .u8 (xorK .u8 (timI a0 3) a1) a2) (timI a3 2), xorK .u8 (xorK .u8 (xorK .u8 (timI a4 2) (timI a5 3)) a6) a7, xorK .u8 (xorK .u8 (xorK .u8 a4 (timI a5 2)) (timI a6 3)) a7, xorK .u8 (xorK .u8 (xorK .u8 a4 a5) (timI a6 2)) (timI a7 3), xorK .u8 (xorK .u8 (xorK .u8 (timI a4 3) a5) a6) (timI a7 2), xorK .u8 (xorK .u8 (xorK .u8 (timI a8 2) (timI a9 3)) a10) a11, xorK .u8 (xorK .u8 (xorK .u8 a8 (timI a9 2)) (timI a10 3)) a11, xorK .u8 (xorK .u8 (xorK .u8 a8 a9) (timI a10 2)) (timI a11 3), xorK .u8 (xorK .u8 (xorK .u8 (timI a8 3) a9) a10) (timI a11 2), xorK .u8 (xorK .u8 (xorK .u8 (timI a12 2) (timI a13 3)) a14) a15, xorK .u8 (xorK .u8 (xorK .u8 a12 (timI a13 2)) (timI a14 3)) a15, xorK .u8 (xorK .u8 (xorK .u8 a12 a13) (timI a14 2)) (timI a15 3), xorK .u8 (xorK .u8 (xorK .u8 (timI a12 3) a13) a14) (timI a15 2)] := by
  have s := fun b k => show rmixN b (k + 1) = rmix1 (rmixN b k) k ((rmixN b k).getD (4 * k) 0) ((rmixN b k).getD (4 * k + 1) 0) ((rmixN b k).getD (4 * k + 2) 0) ((rmixN b k).getD (4 * k + 3) 0) from rfl
  have h0 : rmixN [a0, a1, a2, a3, a4, a5, a6, a7, a8, a9, a10, a11, a12, a13, a14, a15] 1 = [xorK .u8 (xorK .u8 (xorK .u8 (timI a0 2) (timI a1 3)) a2) a3, xorK .u8 (xorK .u8 (xorK .u8 a0 (timI a1 2)) (timI a2 3)) a3, xorK .u8 (xorK .u8 (xorK .u8 a0 a1) (timI a2 2)) (timI a3 3), xorK .u8 (xorK .u8 (xorK .u8 (timI a0 3) a1) a2) (timI a3 2), a4, a5, a6, a7, a8, a9, a10, a11, a12, a13, a14, a15] := by
    rw [s]
    rw [show rmixN [a0, a1, a2, a3, a4, a5, a6, a7, a8, a9, a10, a11, a12, a13, a14, a15] 0 = [a0, a1, a2, a3, a4, a5, a6, a7, a8, a9, a10, a11, a12, a13, a14, a15] from rfl]
    rfl
  have h1 : rmixN [a0, a1, a2, a3, a4, a5, a6, a7, a8, a9, a10, a11, a12, a13, a14, a15] 2 = [xorK .u8 (xorK .u8 (xorK .u8 (timI a0 2) (timI a1 3)) a2) a3, xorK .u8 (xorK .u8 (xorK .u8 a0 (timI a1 2)) (timI a2 3)) a3, xorK .u8 (xorK .u8 (xorK .u8 a0 a1) (timI a2 2)) (timI a3 3), xorK .u8 (xorK .u8 (xorK .u8 (timI a0 3) a1) a2) (timI a3 2), xorK .u8 (xorK .u8 (xorK .u8 (timI a4 2) (timI a5 3)) a6) a7, xorK .u8 (xorK .u8 (xorK .u8 a4 (timI a5 2)) (timI a6 3)) a7, xorK .u8 (xorK .u8 (xorK .u8 a4 a5) (timI a6 2)) (timI a7 3), xorK .u8 (xorK .u8 (xorK .u8 (timI a4 3) a5) a6) (timI a7 2), a8, a9, a10, a11, a12, a13, a14, a15] := by
    rw [s]
    rw [h0]
    rfl
  have h2 : rmixN [a0, a1, a2, a3, a4, a5, a6, a7, a8, a9, a10, a11, a12, a13, a14, a15] 3 = [xorK .u8 (xorK .u8 (xorK .u8 (timI a0 2) (timI a1 3)) a2) a3, xorK .u8 (xorK .u8 (xorK .u8 a0 (timI a1 2)) (timI a2 3)) a3, xorK .u8 (xorK .u8 (xorK .u8 a0 a1) (timI a2 2)) (timI a3 3), xorK .u8 (xorK .u8 (xorK .u8 (timI a0 3) a1) a2) (timI a3 2), xorK .u8 (xorK .u8 (xorK .u8 (timI a4 2) (timI a5 3)) a6) a7, xorK .u8 (xorK .u8 (xorK .u8 a4 (timI a5 2)) (timI a6 3)) a7, xorK .u8 (xorK .u8 (xorK .u8 a4 a5) (timI a6 2)) (timI a7 3), xorK .u8 (xorK .u8 (xorK .u8 (timI a4 3) a5) a6) (timI a7 2), xorK .u8 (xorK .u8 (xorK .u8 (timI a8 2) (timI a9 3)) a10) a11, xorK .u8 (xorK .u8 (xorK .u8 a8 (timI a9 2)) (timI a10 3)) a11, xorK .u8 (xorK .u8 (xorK .u8 a8 a9) (timI a10 2)) (timI a11 3), xorK .u8 (xorK .u8 (xorK .u8 (timI a8 3) a9) a10) (timI a11 2), a12, a13, a14, a15] := by
    rw [s]
    rw [h1]
    rfl
  have h3 : rmixN [a0, a1, a2, a3, a4, a5, a6, a7, a8, a9, a10, a11, a12, a13, a14, a15] 4 = [xorK .u8 (xorK .u8 (xorK .u8 (timI a0 2) (timI a1 3)) a2) a3, xorK .u8 (xorK .u8 (xorK .u8 a0 (timI a1 2)) (timI a2 3)) a3, xorK .u8 (xorK .u8 (xorK .u8 a0 a1) (timI a2 2)) (timI a3 3), xorK .u8 (xorK .u8 (xorK .u8 (timI a0 3) a1) a2) (timI a3 2), xorK .u8 (xorK .u8 (xorK .u8 (timI a4 2) (timI a5 3)) a6) a7, xorK .u8 (xorK .u8 (xorK .u8 a4 (timI a5 2)) (timI a6 3)) a7, xorK .u8 (xorK .u8 (xorK .u8 a4 a5) (timI a6 2)) (timI a7 3), xorK .u8 (xorK .u8 (xorK .u8 (timI a4 3) a5) a6) (timI a7 2), xorK .u8 (xorK .u8 (xorK .u8 (timI a8 2) (timI a9 3)) a10) a11, xorK .u8 (xorK .u8 (xorK .u8 a8 (timI a9 2)) (timI a10 3)) a11, xorK .u8 (xorK .u8 (xorK .u8 a8 a9) (timI a10 2)) (timI a11 3), xorK .u8 (xorK .u8 (xorK .u8 (timI a8 3) a9) a10) (timI a11 2), xorK .u8 (xorK .u8 (xorK .u8 (timI a12 2) (timI a13 3)) a14) a15, xorK .u8 (xorK .u8 (xorK .u8 a12 (timI a13 2)) (timI a14 3)) a15, xorK .u8 (xorK .u8 (xorK .u8 a12 a13) (timI a14 2)) (timI a15 3), xorK .u8 (xorK .u8 (xorK .u8 (timI a12 3) a13) a14) (timI a15 2)] := by
    rw [s]
    rw [h2]
    rfl
  exact h3
def rimix1 (b : List Int) (k : Nat) (p q r t : Int) : List Int := (((b.set (4 * k) (xorK .u8 (xorK .u8 (xorK .u8 (timI p 14) (timI q 11)) (timI r 13)) (timI t 9))).set (4 * k + 1) (xorK .u8 (xorK .u8 (xorK .u8 (timI p 9) (timI q 14)) (timI r 11)) (timI t 13))).set (4 * k + 2) (xorK .u8 (xorK .u8 (xorK .u8 (timI p 13) (timI q 9)) (timI r 14)) (timI t 11))).set (4 * k + 3) (xorK .u8 (xorK .u8 (xorK .u8 (timI p 11) (timI q 13)) (timI r 9)) (timI t 14))
def rimixN (b : List Int) : Nat → List Int
  | 0 => b
  | k + 1 => rimix1 (rimixN b k) k ((rimixN b k).getD (4 * k) 0) ((rimixN b k).getD (4 * k + 1) 0) ((rimixN b k).getD (4 * k + 2) 0) ((rimixN b k).getD (4 * k + 3) 0)
theorem rc0 (a b c d : BitVec 8) : tw a ^^^ (tw b ^^^ b) ^^^ c ^^^ d = (a ^^^ ((a ^^^ b ^^^ c ^^^ d) ^^^ tw (a ^^^ b))) := by
  simp [tw_xor, BitVec.xor_assoc, BitVec.xor_comm, b_lc, b_sl]
theorem rc1 (a b c d : BitVec 8) : a ^^^ tw b ^^^ (tw c ^^^ c) ^^^ d = (b ^^^ ((a ^^^ b ^^^ c ^^^ d) ^^^ tw (b ^^^ c))) := by
  simp [tw_xor, BitVec.xor_assoc, BitVec.xor_comm, b_lc, b_sl]
theorem rc2 (a b c d : BitVec 8) : a ^^^ b ^^^ tw c ^^^ (tw d ^^^ d) = (c ^^^ ((a ^^^ b ^^^ c ^^^ d) ^^^ tw (c ^^^ d))) := by
  simp [tw_xor, BitVec.xor_assoc, BitVec.xor_comm, b_lc, b_sl]
theorem rc3 (a b c d : BitVec 8) : (tw a ^^^ a) ^^^ b ^^^ c ^^^ tw d = (d ^^^ ((a ^^^ b ^^^ c ^^^ d) ^^^ tw (d ^^^ a))) := by
  simp [tw_xor, BitVec.xor_assoc, BitVec.xor_comm, b_lc, b_sl]
theorem rmix_eq {l : List Int} (h : l.length = 16) (hu : U8 l) : rmixN l 4 = mixI l := by
  obtain ⟨x0, x1, x2, x3, x4, x5, x6, x7, x8, x9, x10, x11, x12, x13, x14, x15, rfl⟩ := V_of h hu
  rw [rmixN_16, mixI_16]
  simp only [tim2, tim3, mx_e, xor_e, rc0, rc1, rc2, rc3]
end Go.Proofs.X
end

section
/- Slices of memory within slices; copies of whatever length; parts of frozen structs as slices. No program. -/
namespace Go.Bx
theorem LOk.wide {P : Program} {o : Oper} {T : Tm} {H H' : Heap} {v : AV} {F M F' M' : List Nat} (h : LOk P o T H H' v F M) (hF : ∀ id ∈ F, id ∈ F') (hM : ∀ id ∈ M, id ∈ M') (hs : ∀ id ∈ M', id ∈ F') (hl : ∀ id ∈ F', id < H.length) : LOk P o T H H' v F' M' := by
  refine ⟨h.len, fun id hi hn => h.keep id hi fun hm => hn (hM id hm), hs, hl, ?_⟩
  intro W ρ a w hH hfr hW ho
  rw [msk_len, msk_len] at hfr
  refine (h.frame (c := hget (msk F' H.length H)) hH (fun id hi _ => by rw [hget_msk, if_pos (.inl (hF id hi))]) hfr hW ho).mono fun v' w' ⟨ρ', W', hn, hv⟩ => ⟨ρ', W', ?_, hv⟩
  rw [msk_len, msk_len]
  refine (?_ : (fun id => if id ∈ M ∨ (H.length ≤ id ∧ id < H'.length) then hget H' id else hget (msk F' H.length H) id) = hget (msk F' H.length H')) ▸ hn
  funext id
  rw [hget_msk, hget_msk]
  by_cases h1 : id ∈ M
  · rw [if_pos (.inl h1), if_pos (.inl (hs id (hM id h1)))]
  · by_cases h2 : H.length ≤ id
    · by_cases h3 : id < H'.length
      · rw [if_pos (.inr ⟨h2, h3⟩), if_pos (.inr h2)]
      · rw [if_neg (fun e => e.elim h1 fun e => h3 e.2), if_pos (.inr h2), if_pos (.inr h2), hget_ge h2, hget_ge (by omega)]
    · rw [if_neg (fun e => e.elim h1 fun e => h2 e.1)]
      by_cases h4 : id ∈ F'
      · rw [if_pos (.inl h4), if_pos (.inl h4), h.keep id (by omega) h1]
      · rw [if_neg (fun e => e.elim h4 h2), if_neg (fun e => e.elim h4 h2)]
theorem spl_none (xs ys : List Int) (i m : Nat) (h : xs.length = m) : spl xs ys i 0 m = xs := by
  apply List.ext_getElem (by simp [spl, h])
  intro j h1 h2
  simp only [spl, List.getElem_map, List.getElem_range]
  rw [if_neg (by omega), List.getD_eq_getElem?_getD, List.getElem?_eq_getElem h2]; rfl
theorem segSet_same : ∀ {l : List Seg} {b : Nat} {s : Seg}, segAt l b = some s → segSet l b s = l
  | [], _, _, h => by simp [segAt] at h
  | x :: r, b, s, h => by
    simp only [segAt] at h
    simp only [segSet]
    cases hb : Nat.beq b 0 with
    | true => rw [hb] at h; simp at h; subst h; rfl
    | false =>
      rw [hb] at h
      simp only [cond_false] at h ⊢
      cases hs : Nat.ble x.size b with
      | false => rw [hs] at h; simp at h
      | true => rw [hs] at h; rw [segSet_same h]
theorem hset_same {H : Heap} {id : Nat} {k : Blk} (h : hget H id = some k) : H.set id (some k) = H := by
  unfold hget at h
  apply List.ext_getElem? fun i => ?_
  by_cases hi : i = id
  · subst hi
    cases hc : H[i]? with
    | none => rw [hc] at h; simp at h
    | some x =>
      rw [hc] at h
      simp at h
      subst h
      rw [List.getElem?_set_self (by have := (List.getElem?_eq_some_iff.1 hc).1; exact this)]
  · rw [List.getElem?_set_ne (fun e => hi e.symm)]
section
variable {P : Program} {T : Tm} {H : Heap} {d : Option Tmp} {ty : TypeId} {pos : String} {af : Array Edge} {g : Option (Nat × Bool)}
theorem a_copyG {x y : Operand} {t tx e rt : TypeId} {id base idx dl dc n m q : Nat} {k : IntKind} {u : SV} {segs : List Seg} {xs ys zz : List Int} {R : List Nat} {H' : Heap} (hx : ev T x = .s (.slice id base idx dl dc)) (hy : ev T y = .s u) (hb : hget H id = some ⟨true, segs⟩) (hsrc : ASrc P tx 1 R H u m [.ints k m ys]) (hu1 : u.len = some m) (hn : min m dl = n)
    [hu : Und P t (.slice e)] [hs : Sz P e 1] (hsg : segAt segs base = some (.ints k q xs)) (hq : idx + n ≤ q) (hxl : xs.length = q) (hz : ys.take n = zz) (hRi : ∀ i ∈ R, i < H.length) (hH : H.set id (some ⟨true, segSet segs base (.ints k q (spl xs zz idx n q))⟩) = H') :
    LOk P ⟨d, .call ⟨.builtin .copy, #[x, y], #[t, tx]⟩, rt, pos, af, g⟩ T H H' (.s (.int .i64 (n : Int))) (id :: R) [id] := by
  by_cases h0 : 0 < n
  · exact a_copyI hx hy hb hsrc hn hsg h0 hq hz hRi hH
  · have h0 : n = 0 := by omega
    subst h0
    rw [spl_none _ _ _ _ hxl, segSet_same hsg, hset_same hb] at hH
    subst hH
    refine (a_copy0 hx hy hu1 hn).wide (fun _ h => by cases h) (fun _ h => by cases h) (fun j hj => ?_) (fun j hj => ?_)
    · simp at hj; subst hj; simp
    · simp only [List.mem_cons] at hj
      rcases hj with rfl | hj
      · exact hget_lt hb
      · exact hRi j hj
theorem a_bslS {t e : TypeId} {n n0 : Nat} {parts : Array (Nat × Operand)} {ps : List (Nat × Operand)} {l : List (Nat × AV)} {segs : List Seg} (vs : List SV) (hps : parts.toList = ps) (hl : PartL T ps l) [hu : Und P t (.slice e)] [he : Sz P e 1] (hbig : n * 1 ≤ 16777216) [hz : Zn P e] (hs : fillS (fun i => some (i * 1, 1)) ((List.range (n * 1)).map fun _ => .one .nils) l = some segs) (hZ1 : rowOk ((List.range (n * 1)).map fun _ => .one .nils) ((Array.range (n * 1)).map fun i => (Value.slice none 0 0).cells[i % (Value.slice none 0 0).cells.size]!) = true) (hvs : segs = vs.map Seg.one)
    (h0 : 0 < n * 1) (hn : H.length = n0) {H' : Heap} (hH : H ++ [some ⟨true, vs.map Seg.one⟩] = H') : LOk P ⟨d, .buildSlice t n parts, ty, pos, af, g⟩ T H H' (.s (.slice n0 0 0 n n)) [] [] :=
  l_bsl hps hl hu.h he.h hbig hz.h hZ1 hs h0 (fun _ _ h => hvs ▸ h) hn hH
theorem a_slp {t e : TypeId} {x : Operand} {lo hi mx : Option Operand} {q : Nat} {segs : List Seg} {k : IntKind} {xs : List Int} {base len l h m : Nat} {ys : List Int} (hx : ev T x = .s (.fptr q (cellsF segs) base 0)) [hu : Und P t (.array len e)] [hs : Sz P e 1] (hsg : segAt segs base = some (.ints k len xs)) (hlo : Bnd T lo 0 l) (hhi : Bnd T hi len h) (hmx : Bnd T mx len m) (hho : (mx.isSome && hi.isNone) = false)
    (h1 : l ≤ h) (h2 : h ≤ m) (h3 : m ≤ len) (hq : base + len ≤ q) (hxl : xs.length = len) (hr : (xs.drop l).take (h - l) = ys) : LOk P ⟨d, .slice t x lo hi mx, ty, pos, af, g⟩ T H H (.s (.fzi k ys)) [] [] :=
  l_slf (xs := xs) hx hlo hhi hmx hho hu.h hs.h h1 h2 h3 (by omega) (fun i hi => by
    have h := segAt_at hsg i hi
    unfold cellsF
    rw [show base + 0 + i = base + i by omega, h]; rfl) hxl hr
theorem k_slp {t e : TypeId} {x : Operand} {q : Nat} {segs : List Seg} {k : IntKind} {xs : List Int} {base len : Nat} [hu : Und P t (.array len e)] [hs : Sz P e 1] (hx : ev T x = .s (.fptr q (cellsF segs) base 0) := by rfl) (hsg : segAt segs base = some (.ints k len xs) := by rfl) (hq : Nat.ble (base + len) q = true := by rfl) (hxl : xs.length = len := by first | assumption | exact spl_len _ _ _ _ _ | simp [*]) : LOk P ⟨d, .slice t x none none none, ty, pos, af, g⟩ T H H (.s (.fzi k xs)) [] [] :=
  a_slp (l := 0) (h := len) (m := len) hx hsg rfl rfl rfl rfl (Nat.zero_le _) (Nat.le_refl _) (Nat.le_refl _) (Nat.le_of_ble_eq_true hq) hxl (by rw [List.drop_zero, Nat.sub_zero, ← hxl, List.take_length])
theorem k_slph (n : Nat) {t e : TypeId} {x y : Operand} {q : Nat} {segs : List Seg} {k kk : IntKind} {z : Int} {xs : List Int} {base len : Nat} [hu : Und P t (.array len e)] [hs : Sz P e 1] (hx : ev T x = .s (.fptr q (cellsF segs) base 0) := by rfl) (hy : ev T y = .s (.int kk z) := by rfl) (hz : z = (n : Int) := by rfl) (hsg : segAt segs base = some (.ints k len xs) := by rfl) (hn : n ≤ len := by omega) (hq : Nat.ble (base + len) q = true := by rfl) (hxl : xs.length = len := by first | assumption | exact spl_len _ _ _ _ _ | simp [*]) : LOk P ⟨d, .slice t x none (some y) none, ty, pos, af, g⟩ T H H (.s (.fzi k (xs.take n))) [] [] :=
  a_slp (l := 0) (h := n) (m := len) hx hsg rfl ⟨_, _, hy, hz⟩ rfl rfl (Nat.zero_le _) hn (Nat.le_refl _) (Nat.le_of_ble_eq_true hq) hxl (by rw [List.drop_zero, Nat.sub_zero])
end
section
variable {P : Program} {T : Tm} {H : Heap} {d : Option Tmp} {ty : TypeId} {pos : String} {af : Array Edge} {g : Option (Nat × Bool)}
theorem k_cpg (n : Nat) {x y : Operand} {t tx e rt : TypeId} {id base idx dl dc m q : Nat} {k : IntKind} {u : SV} {segs : List Seg} {xs ys zz : List Int} {R : List Nat} {H' : Heap} [hu : Und P t (.slice e)] [hs : Sz P e 1] (hx : ev T x = .s (.slice id base idx dl dc) := by rfl) (hy : ev T y = .s u := by rfl) (hb : hget H id = some ⟨true, segs⟩ := by rfl) (hsrc : ASrc P tx 1 R H u m [.ints k m ys] := by first | exact asrc_fzi Und.h | exact asrc_sl Und.h rfl (by first | exact .seg rfl rfl | exact .ints rfl (by omega)) | exact asrc_gro Und.h rfl (by first | exact .seg rfl rfl | exact .ints rfl (by omega))) (hu1 : u.len = some m := by rfl) (hn : min m dl = n := by first | omega | (simp; omega))
    (hsg : segAt segs base = some (.ints k q xs) := by rfl) (hq : idx + n ≤ q := by omega) (hxl : xs.length = q := by first | assumption | exact spl_len _ _ _ _ _ | (simp [*, spl_len]; done) | (simp [*, spl_len]; omega)) (hz : ys.take n = zz := by first | exact take_same | rfl) (hRi : ∀ i ∈ R, i < H.length := by first | exact fun _ h => (List.not_mem_nil h).elim | (intro i hi; simp at hi; subst hi; exact Nat.le_of_ble_eq_true rfl)) (hH : H.set id (some ⟨true, segSet segs base (.ints k q (spl xs zz idx n q))⟩) = H' := by exact hset_seg (by first | exact sset_0 | exact sset_s _ rfl rfl sset_0 | exact sset_s _ rfl rfl (sset_s _ rfl rfl sset_0)) (by repeat (first | exact hset_0 | apply hset_s))) :
    LOk P ⟨d, .call ⟨.builtin .copy, #[x, y], #[t, tx]⟩, rt, pos, af, g⟩ T H H' (.s (.int .i64 (n : Int))) (id :: R) [id] := a_copyG hx hy hb hsrc hu1 hn hsg hq hxl hz hRi hH
theorem k_bsS {t e : TypeId} {n n0 : Nat} {parts : Array (Nat × Operand)} {ps : List (Nat × Operand)} {l : List (Nat × AV)} {segs : List Seg} {H' : Heap} (vs : List SV) [hu : Und P t (.slice e)] [he : Sz P e 1] [hz : Zn P e] [hN : LenN H n0] (hps : parts.toList = ps := by rfl) (hl : PartL T ps l := by first | exact .nil | exact (pc (k := .nil)) | exact (pc (k := (pc (k := .nil)))) | exact (pc (k := (pc (k := (pc (k := .nil)))))) | exact (pc (k := (pc (k := (pc (k := (pc (k := .nil)))))))) | exact (pc (k := (pc (k := (pc (k := (pc (k := (pc (k := .nil)))))))))) | exact (pc (k := (pc (k := (pc (k := (pc (k := (pc (k := (pc (k := .nil))))))))))))) (hbig : n * 1 ≤ 16777216 := by exact Nat.le_of_ble_eq_true rfl) (hs : fillS (fun i => some (i * 1, 1)) ((List.range (n * 1)).map fun _ => .one .nils) l = some segs := by exact rfl) (hZ1 : rowOk ((List.range (n * 1)).map fun _ => .one .nils) ((Array.range (n * 1)).map fun i => (Value.slice none 0 0).cells[i % (Value.slice none 0 0).cells.size]!) = true := by kernel_rfl) (hvs : segs = vs.map Seg.one := by exact rfl) (h0 : 0 < n * 1 := by exact Nat.le_of_ble_eq_true rfl) (hH : H ++ [some ⟨true, vs.map Seg.one⟩] = H' := by repeat (first | exact happ_0 | apply happ_s)) : LOk P ⟨d, .buildSlice t n parts, ty, pos, af, g⟩ T H H' (.s (.slice n0 0 0 n n)) [] [] := a_bslS vs hps hl hbig hs hZ1 hvs h0 hN.h hH
end
theorem conv_rows1 {H : Heap} {id : Nat} {R : List Nat} {k : Blk} {x y : SV} {gg : Nat → Nat → SV} (hb : hget H id = some k) (hro : k.rw = false) (hs : k.segs = [.one x]) (hx : AConv R H (.s x) (.s y)) (hg : gg 0 0 = y) (hy : y.idB (fun _ => false) = true) : AConv (id :: R) H (.s (.slice id 0 0 1 1)) (.s (.fz 1 1 gg)) :=
  conv_rows hb hro (Nat.le_refl _) fun i j hi hj => by
    have hi0 : i = 0 := by omega
    have hj0 : j = 0 := by omega
    subst hi0; subst hj0
    exact ⟨x, by rw [hs]; rfl, by rw [hg]; exact hx, by rw [hg]; exact hy⟩
end Go.Bx
end

section
/- Constants' bytes, marked; bytes as strings; what an operation gives, told otherwise. No program. -/
namespace Go.Bx
theorem LOk.conv {P : Program} {o : Oper} {T : Tm} {H H' : Heap} {v v' : AV} {F M R : List Nat} (h : LOk P o T H H' v F M) (hc : AConv R H' v v') (hR : ∀ id ∈ R, id ∈ F ∨ H.length ≤ id) : LOk P o T H H' v' F M := by
  refine ⟨h.len, h.keep, h.sub, h.lt, ?_⟩
  intro W ρ a w hH hfr hW ho
  refine (h.run W ρ a w hH hfr hW ho).mono fun u w' ⟨ρ', W', hn, hv⟩ => ⟨ρ', W', hn, ?_⟩
  refine hc _ W' ρ' w' u (fun id hi => ?_) hn.rep hv
  rw [hget_msk, if_pos (hR id hi)]
theorem LOk.drop {P : Program} {o : Oper} {T : Tm} {H H' : Heap} {v : AV} {F M : List Nat} {id : Nat} (h : LOk P o T H H' v F M) (hi : id ∈ M) : LOk P o T H (H'.set id none) v F M := by
  have hl := h.lt id (h.sub id hi)
  have hl' : id < H'.length := Nat.lt_of_lt_of_le hl h.len
  refine ⟨by simpa using h.len, fun j hj hn => ?_, h.sub, h.lt, ?_⟩
  · rw [hget_set hl', if_neg (fun e => hn (by rw [e]; exact hi)), h.keep j hj hn]
  · intro W ρ a w hH hfr hW ho
    rw [msk_len, msk_len, List.length_set] at hfr
    refine (h.run W ρ a w hH (by rw [msk_len, msk_len]; exact hfr) hW ho).mono fun u w' ⟨ρ', W', hn, hv⟩ => ⟨ρ', W', ?_, hv⟩
    rw [msk_len, msk_len] at hn
    rw [msk_len, msk_len, List.length_set]
    refine ⟨hn.le, hn.old, hn.rep.sub fun j k e => ?_, hn.fr, hn.sub, hn.fresh, hn.fzn⟩
    rw [hget_msk] at e ⊢
    split at e
    · rename_i h1
      rw [hget_set hl'] at e
      split at e
      · cases e
      · rw [if_pos h1]; exact e
    · cases e
theorem freeze_at {w : World} {b n : Nat} {cells : Array Value} {t : TypeId} (h : w.heap[b]? = some (.cells cells t (0, 0))) : (w.freeze ⟨b, n, none⟩ 1).heap[b]? = some (.cells cells t (n, n + 1)) := by
  unfold World.freeze
  rw [if_neg (by decide)]
  obtain ⟨hl, hk⟩ := Array.getElem?_eq_some_iff.1 h
  show (w.heap.modify b _)[b]? = _
  rw [Array.getElem?_eq_getElem (by simpa using hl), Array.getElem_modify_self, hk]
  rfl
theorem freeze_other {w : World} {b n k : Nat} (h : k ≠ b) : (w.freeze ⟨b, n, none⟩ 1).heap[k]? = w.heap[k]? := by
  unfold World.freeze
  rw [if_neg (by decide)]
  show (w.heap.modify b _)[k]? = _
  rw [Array.getElem?_modify, if_neg (fun e => h e.symm)]
theorem freeze_size {w : World} {b n : Nat} : (w.freeze ⟨b, n, none⟩ 1).heap.size = w.heap.size := by
  unfold World.freeze
  rw [if_neg (by decide)]
  show (w.heap.modify b _).size = _
  simp
theorem HRep.mark {W : Nat → Prop} {ρ : Rho} {h : Nat → Option Blk} {w : World} {b n : Nat} {cells : Array Value} {t : TypeId} (hH : HRep W ρ h w) (hb : w.heap[b]? = some (.cells cells t (0, 0))) (hW : ¬ W b) : HRep W ρ h (w.freeze ⟨b, n, none⟩ 1) := by
  have hat : ∀ k cs t' fr, w.heap[k]? = some (Obj.cells cs t' fr) → ∃ t2 f2, (w.freeze ⟨b, n, none⟩ 1).heap[k]? = some (Obj.cells cs t2 f2) := fun k cs t' fr e => by
    by_cases hk : k = b
    · subst hk
      rw [hb] at e
      cases e
      exact ⟨_, _, freeze_at hb⟩
    · exact ⟨t', fr, by rw [freeze_other hk]; exact e⟩
  refine ⟨fun id b' o e => by rw [freeze_size]; exact hH.lt id b' o e, fun id b' o k e1 e2 => ?_, hH.apart, fun b' cs e => ?_, fun b' m e => ?_⟩
  · obtain ⟨⟨c2, t2, f2, k1, k2, k3, k4⟩, k5⟩ := hH.rep id b' o k e1 e2
    refine ⟨?_, k5⟩
    by_cases hbb : b' = b
    · subst hbb
      obtain ⟨t3, f3, k6⟩ := hat _ _ _ _ k1
      exact ⟨c2, t3, f3, k6, fun e => absurd (k5 e) hW, k3, k4⟩
    · exact ⟨c2, t2, f2, by rw [freeze_other hbb]; exact k1, k2, k3, k4⟩
  · obtain ⟨h1, t2, f2, h2⟩ := hH.fz b' cs e
    obtain ⟨t3, f3, h3⟩ := hat _ _ _ _ h2
    exact ⟨h1, t3, f3, h3⟩
  · obtain ⟨cs, t2, f2, h2, h3⟩ := hH.sz b' m e
    obtain ⟨t3, f3, h4⟩ := hat _ _ _ _ h2
    exact ⟨cs, t3, f3, h4, h3⟩
section
variable {P : Program} {T : Tm} {H : Heap} {d : Option Tmp} {ty : TypeId} {pos : String} {af : Array Edge} {g : Option (Nat × Bool)}
theorem l_strf {t ts e : TypeId} {x : Operand} {A : List Int} (hx : ev T x = .s (.fzi .u8 A)) (hu : P.underlying t = some (.slice e)) (he : P.underlying e = some (.int .u8)) (hd : P.underlying ts = some .string) : LOk P ⟨d, .convert t ts x, ty, pos, af, g⟩ T H H (.s (.val (.string (strOfNums A)))) [] [] :=
  lok_read [] (fun _ h => by cases h) fun H0 hl0 _ => .pure fun W ρ a w hH ho => by
    have h1 := one (op := .convert t ts x) rfl ho hx
    have hr : (convert t ts (a.eval x)).run P w = .ok (.string (strOfNums A)) w := by
      rcases h1 with ⟨rfl, aa, c, h1⟩ | ⟨b, o, c, cs, h1, h2, h3, h4⟩
      · rw [h1]
        cases aa with
        | none =>
          have := run_convert_bytes_nil (P := P) w t e hu he 0 c ts hd
          rw [this]
          rfl
        | some ad =>
          rw [run_convert_bytes_string w t ts e _ 0 c hu he hd]
          rfl
      · rw [h1]
        obtain ⟨_, tt, fr, g1⟩ := hH.fz b cs h3
        exact run_convert_bytes_arg (P := P) w t e hu he b o A.length c A rfl (fun i hi => by
          simp only [World.cell?, g1, h4 i hi]
          simp) ts hd
    exact ⟨.string (strOfNums A), by simp [execOp, hr], rfl, rfl⟩
theorem k_str {t ts e : TypeId} {x : Operand} {A : List Int} [hu : Und P t (.slice e)] [he : Und P e (.int .u8)] [hd : Und P ts .string] (hx : ev T x = .s (.fzi .u8 A) := by rfl) : LOk P ⟨d, .convert t ts x, ty, pos, af, g⟩ T H H (.s (.val (.string (strOfNums A)))) [] [] := l_strf hx hu.h he.h hd.h
end
end Go.Bx
end

section
/- Rows: literal slices of structs, rows put behind rows, integers behind integers. No program. -/
namespace Go.Bx
theorem Joins.rows {n m wd q : Nat} {g g2 g' : Nat → Nat → SV} (hw : 0 < wd) (hq : n ≤ q) (hg : ∀ i j, i < n → j < wd → g' i j = g i j) (hn : ∀ i j, i < m → j < wd → g' (n + i) j = g2 i j) : Joins [.rows q wd g] (n * wd) [.rows m wd g2] (m * wd) [.rows (n + m) wd g'] := by
  refine ⟨by simp [sizeS, Seg.size, Nat.add_mul], fun i y hy => ?_⟩
  have hs1 : (Seg.rows (n + m) wd g').size = (n + m) * wd := rfl
  have hs2 : (Seg.rows q wd g).size = q * wd := rfl
  have hs3 : (Seg.rows m wd g2).size = m * wd := rfl
  have hy' : i < (n + m) * wd ∧ y = .noid (g' (i / wd) (i % wd)) := by
    simp only [atS] at hy
    rw [hs1] at hy
    by_cases hi : i < (n + m) * wd
    · rw [if_pos hi] at hy; exact ⟨hi, (Option.some.inj hy).symm⟩
    · rw [if_neg hi] at hy; cases hy
  obtain ⟨hi, rfl⟩ := hy'
  have hm := Nat.mod_lt i hw
  have hdm := Nat.div_add_mod i wd
  refine ⟨fun h1 => ?_, fun h1 => ?_⟩
  · have hd : i / wd < n := Nat.div_lt_of_lt_mul (by rwa [Nat.mul_comm])
    refine ⟨_, ?_, .inl rfl⟩
    have : i < q * wd := Nat.lt_of_lt_of_le h1 (Nat.mul_le_mul_right wd hq)
    simp only [atS]
    rw [if_pos (by rw [hs2]; exact this)]
    simp only [Seg.at, hg _ _ hd hm]
  · have h3 : n ≤ i / wd := (Nat.le_div_iff_mul_le hw).2 h1
    have h2 : i / wd < n + m := Nat.div_lt_of_lt_mul (by rwa [Nat.mul_comm])
    obtain ⟨k, hk⟩ : ∃ k, i / wd = n + k := ⟨i / wd - n, by omega⟩
    have hkm : k < m := by omega
    have he : i - n * wd = k * wd + i % wd := by
      rw [hk, Nat.mul_comm, Nat.add_mul] at hdm; omega
    refine ⟨_, ?_, .inl rfl⟩
    rw [he]
    simp only [atS]
    rw [if_pos (by rw [hs3]; exact row_lt hkm hm)]
    simp only [Seg.at, (row_div hm).1, (row_div hm).2, hk, hn k _ hkm hm]
theorem flatS_app : ∀ (A B : List Seg), flatS (A ++ B) = flatS A ++ flatS B
  | [], B => rfl
  | .one v :: r, B => by simp [flatS, flatS_app r B]
  | .ints k n l :: r, B => by simp [flatS, flatS_app r B]
  | .rows n w g :: r, B => by simp [flatS, flatS_app r B]
theorem lensOk_app : ∀ (A B : List Seg), lensOk (A ++ B) = (lensOk A && lensOk B)
  | [], B => by simp [lensOk]
  | .one v :: r, B => by simp [lensOk, lensOk_app r B]
  | .ints k n l :: r, B => by simp [lensOk, lensOk_app r B, Bool.and_assoc]
  | .rows n w g :: r, B => by simp [lensOk, lensOk_app r B]
theorem all2_app : ∀ {a c : List SV} {b d : List Value}, all2 a b = true → all2 c d = true → all2 (a ++ c) (b ++ d) = true
  | [], _, [], _, _, h => h
  | [], _, _ :: _, _, h, _ => by simp [all2] at h
  | _ :: _, _, [], _, h, _ => by simp [all2] at h
  | x :: r, c, v :: s, d, h, k => by
    simp only [all2, Bool.and_eq_true] at h
    simp only [List.cons_append, all2, Bool.and_eq_true]
    exact ⟨h.1, all2_app h.2 k⟩
theorem rowOk_rep_n {Z : List Seg} {cs : Array Value} (h : rowOk Z cs = true) (n : Nat) : rowOk (List.replicate n Z).flatten ((List.replicate n cs.toList).flatten.toArray) = true := by
  simp only [rowOk, Bool.and_eq_true] at h ⊢
  induction n with
  | zero => exact ⟨rfl, rfl⟩
  | succ n ih =>
    rw [List.replicate_succ, List.replicate_succ, List.flatten_cons, List.flatten_cons]
    refine ⟨by rw [lensOk_app, h.1, ih.1]; rfl, ?_⟩
    rw [flatS_app]
    exact all2_app h.2 ih.2
theorem range_rep (cs : Array Value) (n : Nat) : ((Array.range (n * cs.size)).map fun i => cs[i % cs.size]!) = (List.replicate n cs.toList).flatten.toArray := by
  apply Array.ext'
  rw [Array.toList_map, Array.toList_range]
  show _ = (List.replicate n cs.toList).flatten
  induction n with
  | zero => simp
  | succ n ih =>
    rw [List.replicate_succ', List.flatten_append, ← ih, Nat.succ_mul, List.range_add, List.map_append]
    congr 1
    simp only [List.flatten_cons, List.flatten_nil, List.append_nil, List.map_map]
    apply List.ext_getElem
    · simp
    · intro i h1 h2
      have hi : i < cs.size := by simpa using h1
      simp [Nat.mul_add_mod, Nat.mod_eq_of_lt hi, Nat.mul_comm n cs.size, hi]
section
variable {P : Program} {T : Tm} {H : Heap} {d : Option Tmp} {ty : TypeId} {pos : String} {af : Array Edge} {g : Option (Nat × Bool)}
theorem big_ok {n m b : Nat} (h : n + m ≤ 1000000) (hb : Nat.ble (1000000 * b) 140737488355328 = true) : (n + m) * b ≤ 140737488355328 := Nat.le_trans (Nat.mul_le_mul_right b h) (Nat.le_of_ble_eq_true hb)
theorem k_bsK {t e : TypeId} {n n0 : Nat} {k : IntKind} {parts : Array (Nat × Operand)} {H' : Heap} (xs : List Int) [hu : Und P t (.slice e)] [he : Sz P e 1] [hz : Zi P e k] [hN : LenN H n0] (hl : (partsOf T parts.toList).all (fun p => p.2.solid) = true := by kernel_rfl) (hs : (fillS (fun i => some (i * 1, 1)) ((List.range (n * 1)).map fun _ => .one (.int k 0)) (partsOf T parts.toList)).bind (intsOf k) = some xs := by kernel_rfl) (hxn : xs.length = n := by rfl) (hbig : n * 1 ≤ 16777216 := by exact Nat.le_of_ble_eq_true rfl) (h0 : 0 < n * 1 := by exact Nat.le_of_ble_eq_true rfl) (hH : H ++ [some (Blk.mk true [.ints k n xs])] = H' := by repeat (first | exact happ_0 | apply happ_s)) : LOk P ⟨d, .buildSlice t n parts, ty, pos, af, g⟩ T H H' (.s (.slice n0 0 0 n n)) [] [] := by
  have hZ1 : rowOk ((List.range (n * 1)).map fun _ => .one (.int k 0)) ((Array.range (n * 1)).map fun i => (Value.int k 0).cells[i % (Value.int k 0).cells.size]!) = true := by
    have h1 : rowOk [.one (.int k 0)] (Value.int k 0).cells = true := by cases k <;> rfl
    have h2 := rowOk_rep_n h1 n
    have h3 := range_rep (Value.int k 0).cells n
    have h4 : (Value.int k 0).cells.size = 1 := rfl
    rw [h4] at h3
    rw [h4, h3]
    have h5 : ((List.range (n * 1)).map fun _ => Seg.one (.int k 0)) = (List.replicate n [Seg.one (.int k 0)]).flatten := by
      rw [Nat.mul_one]
      induction n with
      | zero => rfl
      | succ n ih =>
        rw [List.range_succ, List.map_append, List.replicate_succ', List.flatten_append]
        clear hl hs hxn hbig h0 hH h2 h3
        congr 1
        clear ih
        induction n with
        | zero => rfl
        | succ n ih => rw [List.range_succ, List.map_append, ih, List.replicate_succ', List.flatten_append]; rfl
    rw [h5]
    exact h2
  cases hq : fillS (fun i => some (i * 1, 1)) ((List.range (n * 1)).map fun _ => .one (.int k 0)) (partsOf T parts.toList) with
  | none => rw [hq] at hs; cases hs
  | some segs => rw [hq] at hs; exact a_bslI rfl (partsOf_ok hl) hbig hq hZ1 hs hxn h0 hN.h hH
end
section
variable {E : Env} {P : Program} {T : Tm} {H : Heap}
end
end Go.Bx
end
