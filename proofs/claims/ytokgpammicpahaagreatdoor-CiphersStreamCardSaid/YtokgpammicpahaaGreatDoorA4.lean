/- A part of the proofs of this claim: BAes2, BAes3, BAes4, BAes5, BRefS, Bx23, Bx24, Bx25, Bx26, Bx27, Bx28, Bx29, Bx30, Bx31, Bx32, Bx33, Bx34, Bx35, Bx36, Bx37, Bx38, Bx39, Bx40, Bx41. No conditions. -/
import Derived.Test.YtokgpammicpahaaGreatDoorA3
import Derived.OpenShut
import Derived.ChangeSlices
import Derived.Below
import Derived.ChangeSame
import Derived.SizedLaws
import Derived.Lib.AppendZerosOnto
import Derived.Lib.LazyBuf
import Derived.Lib.Overlaps
set_option linter.unusedVariables false
set_option linter.unusedSimpArgs false
section
open Go Go.Bx Go.Proofs
namespace Go.Proofs.X
attribute [local irreducible] SB BK
set_option maxRecDepth 100000 in
set_option maxHeartbeats 4000000 in
theorem boxes_c  : Con Tryz.prog 112 [] [] (.tup [.agg [.ints .u8 256 SB], .agg [.ints .u8 256 BK]]) [] := by
 refine con_in 62 Tryz.func112 rfl rfl (m := 0) rfl ?_
 intro E hP hn hE
 refine w_seq ?_
 refine g_reg hP hn ?_
 refine s_op k_al ?_
 refine s_op k_al ?_
 refine s_nil trivial ?_
 refine n_wp ?_
 refine w_seq ?_
 refine g_reg hP hn ?_
 refine s_op k_al ?_
 refine s_op k_al ?_
 refine s_nil trivial ?_
 refine n_wp ?_
 refine w_seq ?_
 refine g_reg hP hn ?_
 refine s_op k_as ?_
 refine s_nil trivial ?_
 refine n_wp ?_
 refine w_seq ?_
 refine w_seq ?_
 refine g_reg hP hn ?_
 refine s_op k_mv ?_
 refine s_nil trivial ?_
 refine n_wp ?_
 refine w_block ?_
 refine c_loop (fun m T H => ∃ k, k ≤ 255 ∧ m = 255 - k ∧ T = [(0, .s (.ptr 0 0 0)), (1, .s (.ptr 1 0 0)), (2, .s (.ptr 2 0 0)), (3, .s (.ptr 3 0 0)), (4, .s (.int .u8 (p1 k).1)), (10, .s (.int .i64 ((k : Nat) : Int)))] ∧ H = [some ⟨true, [.ints .u8 256 (z 256)]⟩, some ⟨true, [.ints .u8 256 (z 256)]⟩, some ⟨true, [.ints .u8 256 (p1 k).2.1]⟩, some ⟨true, [.ints .u8 256 (p1 k).2.2]⟩]) (255) ⟨0, by omega, rfl, rfl, rfl⟩ (wk hE []) ?_
 rintro n_ T_ H_ ⟨k, hk, rfl, rfl, rfl⟩
 have hr := p1_range k
 have hl1 := (p1_len k).1
 have hl2 := (p1_len k).2
 refine w_seq ?_
 refine g_reg hP hn ?_
 refine s_op k_lss ?_
 refine s_nil trivial ?_
 refine n_wp ?_
 refine w_seq ?_
 refine w_if rfl (fun h_t11 => ?_) (fun h_t11 => ?_)
 · skip
   refine w_skip ?_
   refine n_wp ?_
   refine w_seq ?_
   refine w_block ?_
   refine w_seq ?_
   refine g_reg hP hn ?_
   refine s_op k_mv ?_
   refine s_op k_as ?_
   refine s_nil trivial ?_
   refine n_wp ?_
   refine w_seq ?_
   refine g_reg hP hn ?_
   refine s_op k_mv ?_
   refine s_op k_mv ?_
   refine s_op k_mv ?_
   refine s_op k_mv ?_
   refine s_op k_cv ?_
   refine s_op k_ix ?_
   refine s_st k_st ?_
   refine s_op (k_ix (by exact a_ixp (hj := ⟨(Int.toNat_of_nonneg hr.1).symm⟩) rfl rfl (by have := hr; omega))) ?_
   refine s_st k_st ?_
   refine s_nil trivial ?_
   refine n_wp ?_
   refine g_reg hP hn ?_
   refine s_op k_mv ?_
   refine s_op k_mv ?_
   refine s_op (k_call [] (con := twice_c _)) ?_
   refine s_op k_xor ?_
   refine s_op k_as ?_
   refine s_nil trivial ?_
   refine n_blo ?_
   refine n_wp ?_
   refine g_reg hP hn ?_
   refine s_op k_add ?_
   refine s_op k_mv ?_
   refine s_nil trivial ?_
   exact n_round (255 - (k + 1)) (by omega) ⟨k + 1, by omega, rfl, rfl, rfl⟩ (wk hE [])
 · skip
   have hk5 : k = 255 := by omega
   obtain ⟨P, hPe⟩ : ∃ P, P = (p1 k).2.1 := ⟨_, rfl⟩
   obtain ⟨L, hLe⟩ : ∃ L, L = (p1 k).2.2 := ⟨_, rfl⟩
   rw [← hPe, ← hLe]
   rw [← hPe] at hl1
   rw [← hLe] at hl2
   have hLr : ∀ i, i < 256 → 0 ≤ L.getD i 0 ∧ L.getD i 0 ≤ 255 := fun i hi => by rw [hLe, hk5]; exact logsOk_at logs_ok hi
   have hPL : p2 P L 256 = (SB, BK) := by rw [hPe, hLe, hk5]; exact boxes_eq
   refine w_exit ?_
   refine x_thn ?_
   refine x_thn ?_
   refine x_eq ?_
   refine n_wp ?_
   refine w_seq ?_
   refine w_seq ?_
   refine g_reg hP hn ?_
   refine s_op k_mv ?_
   refine s_nil trivial ?_
   refine n_wp ?_
   refine w_block ?_
   refine c_loop (fun m T H => ∃ k, k ≤ 256 ∧ m = 256 - k ∧ T = [(0, .s (.ptr 0 0 0)), (1, .s (.ptr 1 0 0)), (2, .s (.ptr 2 0 0)), (3, .s (.ptr 3 0 0)), (25, .s (.int .i64 ((k : Nat) : Int)))] ∧ H = [some ⟨true, [.ints .u8 256 (p2 P L k).1]⟩, some ⟨true, [.ints .u8 256 (p2 P L k).2]⟩, some ⟨true, [.ints .u8 256 P]⟩, some ⟨true, [.ints .u8 256 L]⟩]) (256) ⟨0, by omega, rfl, rfl, rfl⟩ (wk hE []) ?_
   rintro n_ T_ H_ ⟨k, hk, rfl, rfl, rfl⟩
   have hm1 := (p2_len P L k).1
   have hm2 := (p2_len P L k).2
   refine w_seq ?_
   refine g_reg hP hn ?_
   refine s_op k_lss ?_
   refine s_nil trivial ?_
   refine n_wp ?_
   refine w_seq ?_
   refine w_if rfl (fun h_t26 => ?_) (fun h_t26 => ?_)
   · skip
     refine w_skip ?_
     refine n_wp ?_
     refine w_seq ?_
     refine w_block ?_
     refine w_seq ?_
     refine g_reg hP hn ?_
     refine s_op k_mv ?_
     refine s_op k_as ?_
     refine s_nil trivial ?_
     refine n_wp ?_
     refine w_seq ?_
     refine g_reg hP hn ?_
     refine s_op k_as ?_
     refine s_nil trivial ?_
     refine n_wp ?_
     refine w_seq ?_
     refine w_seq ?_
     refine g_reg hP hn ?_
     refine s_op k_mv ?_
     refine s_op k_gtr ?_
     refine s_nil trivial ?_
     refine n_wp ?_
     refine w_cut (fun T H => T = [(0, .s (.ptr 0 0 0)), (1, .s (.ptr 1 0 0)), (2, .s (.ptr 2 0 0)), (3, .s (.ptr 3 0 0)), (6, .s (.int .i64 ((k : Nat) : Int))), (7, .s (.int .u8 (boxY P L k))), (25, .s (.int .i64 ((k : Nat) : Int)))] ∧ H = [some ⟨true, [.ints .u8 256 (p2 P L k).1]⟩, some ⟨true, [.ints .u8 256 (p2 P L k).2]⟩, some ⟨true, [.ints .u8 256 P]⟩, some ⟨true, [.ints .u8 256 L]⟩]) ?_ ?_
     · skip
       refine w_if rfl (fun h_t29 => ?_) (fun h_t29 => ?_)
       · skip
         have hy : boxY P L k = P.getD ((255 - L.getD k 0) % 255).toNat 0 := if_pos h_t29
         have hlk := hLr k h_t26
         refine g_reg hP hn ?_
         refine s_op k_mv ?_
         refine s_op k_ix ?_
         refine s_op k_ld ?_
         refine s_op (k_cv (by exact a_conv rfl (wrap_i64 (by omega)))) ?_
         refine s_op (k_sub (by exact l_bin rfl rfl (b_sub (wrap_i64 (by omega))))) ?_
         refine s_op (k_rem (by exact l_bin rfl rfl (b_rem (by decide) (Int.tmod_eq_emod_of_nonneg (by omega))))) ?_
         refine s_op (k_ix (by exact a_ixp (hj := ⟨(Int.toNat_of_nonneg (Int.emod_nonneg _ (by decide))).symm⟩) rfl rfl (by omega))) ?_
         refine s_op k_ld ?_
         refine s_op k_as ?_
         refine s_nil trivial ?_
         rw [← hy]
         exact n_cut ⟨rfl, rfl⟩ (wk hE [])
       · skip
         have hy : boxY P L k = 0 := if_neg h_t29
         refine w_skip ?_
         rw [← hy]
         exact n_cut ⟨rfl, rfl⟩ (wk hE [])
     rintro T H ⟨rfl, rfl⟩
     refine w_seq ?_
     refine g_reg hP hn ?_
     refine s_op k_as ?_
     refine s_nil trivial ?_
     refine n_wp ?_
     refine w_seq ?_
     refine w_seq ?_
     refine g_reg hP hn ?_
     refine s_op k_mv ?_
     refine s_nil trivial ?_
     refine n_wp ?_
     refine w_block ?_
     refine c_loop (fun m T H => ∃ n, n ≤ 5 ∧ m = 5 - n ∧ T = [(0, .s (.ptr 0 0 0)), (1, .s (.ptr 1 0 0)), (2, .s (.ptr 2 0 0)), (3, .s (.ptr 3 0 0)), (6, .s (.int .i64 ((k : Nat) : Int))), (7, .s (.int .u8 (boxY P L k))), (8, .s (.int .u8 (boxO (boxY P L k) n))), (25, .s (.int .i64 ((k : Nat) : Int))), (38, .s (.int .i64 ((n : Nat) : Int)))] ∧ H = [some ⟨true, [.ints .u8 256 (p2 P L k).1]⟩, some ⟨true, [.ints .u8 256 (p2 P L k).2]⟩, some ⟨true, [.ints .u8 256 P]⟩, some ⟨true, [.ints .u8 256 L]⟩]) (5) ⟨0, by omega, rfl, rfl, rfl⟩ (wk hE []) ?_
     rintro n_ T_ H_ ⟨n, hn5, rfl, rfl, rfl⟩
     refine w_seq ?_
     refine g_reg hP hn ?_
     refine s_op k_lss ?_
     refine s_nil trivial ?_
     refine n_wp ?_
     refine w_seq ?_
     refine w_if rfl (fun h_t39 => ?_) (fun h_t39 => ?_)
     · skip
       refine w_skip ?_
       refine n_wp ?_
       refine w_seq ?_
       refine w_block ?_
       refine w_seq ?_
       refine g_reg hP hn ?_
       refine s_op k_mv ?_
       refine s_op k_as ?_
       refine s_nil trivial ?_
       refine n_wp ?_
       refine g_any hP hn ?_
       refine s_op k_mv ?_
       refine s_op k_mv ?_
       refine s_op k_mv ?_
       refine s_op k_shl ?_
       refine s_op k_mv ?_
       refine s_op k_mv ?_
       refine s_op (k_sub (by exact l_bin rfl rfl (b_sub (wrap_i64 (by omega))))) ?_
       refine s_op k_shr ?_
       refine s_op k_or ?_
       refine s_op k_xor ?_
       refine s_op k_as ?_
       refine s_nil (by kernel_rfl) ?_
       refine n_blo ?_
       refine n_wp ?_
       refine g_reg hP hn ?_
       refine s_op k_add ?_
       refine s_op k_mv ?_
       refine s_nil trivial ?_
       exact n_round (5 - (n + 1)) (by omega) ⟨n + 1, by omega, rfl, rfl, rfl⟩ (wk hE [])
     · skip
       have hn6 : n = 5 := by omega
       obtain ⟨BO, hbo⟩ : ∃ BO, BO = boxO (boxY P L k) n := ⟨_, rfl⟩
       have hbr : 0 ≤ BO ∧ BO < 256 := hbo ▸ boxO_range _ _
       rw [← hbo]
       rw [hn6] at hbo
       have hbo := hbo.symm
       refine w_exit ?_
       refine x_thn ?_
       refine x_thn ?_
       refine x_eq ?_
       refine n_wp ?_
       refine g_reg hP hn ?_
       refine s_op k_mv ?_
       refine s_op k_mv ?_
       refine s_op k_mv ?_
       refine s_op k_mv ?_
       refine s_op k_cv ?_
       refine s_op k_ix ?_
       refine s_st k_st ?_
       refine s_op (k_ix (by exact a_ixp (hj := ⟨(Int.toNat_of_nonneg hbr.1).symm⟩) rfl rfl (by have := hbr; omega))) ?_
       refine s_st k_st ?_
       refine s_nil trivial ?_
       refine n_blo ?_
       refine n_wp ?_
       refine g_reg hP hn ?_
       refine s_op k_add ?_
       refine s_op k_mv ?_
       refine s_nil trivial ?_
       exact n_round (256 - (k + 1)) (by omega) ⟨k + 1, by omega, rfl, rfl, by rw [p2, hbo]⟩ (wk hE [])
   · skip
     have hk6 : k = 256 := by omega
     rw [show p2 P L k = (SB, BK) by rw [hk6]; exact hPL]
     refine w_exit ?_
     refine x_thn ?_
     refine x_thn ?_
     refine x_eq ?_
     refine n_wp ?_
     refine w_seq ?_
     refine g_any hP hn ?_
     refine s_op k_ld ?_
     refine s_op k_ld ?_
     refine s_st k_st ?_
     refine s_st k_st ?_
     refine s_nil (by kernel_rfl) ?_
     refine n_wp ?_
     refine w_ret ?_
     exact d_ret hP hn hE [] (ret2 Tryz.results112 r_cella r_cella)

set_option maxRecDepth 100000 in
set_option maxHeartbeats 4000000 in
theorem machine_c (key : List Int) (hk8 : U8 key) : Con Tryz.prog 43 [.agg [.ints .u8 16 key]] [] (.s (.fptr 688 (cellsF [.ints .u8 256 SB, .ints .u8 256 BK, .ints .u8 176 (keysOf key)]) 0 0)) [] := by
 refine con_in 95 Tryz.func43 rfl rfl (m := 0) rfl ?_
 intro E hP hn hE
 refine w_seq ?_
 refine g_reg hP hn ?_
 refine s_op k_bx ?_
 refine s_op k_as ?_
 refine s_nil trivial ?_
 refine n_wp ?_
 refine w_seq ?_
 refine g_reg hP hn ?_
 refine s_op k_bd ?_
 refine s_op k_bx ?_
 refine s_op k_as ?_
 refine s_nil trivial ?_
 refine n_wp ?_
 refine w_seq ?_
 refine g_reg hP hn ?_
 refine s_op k_mv ?_
 refine s_op k_mv ?_
 refine s_op (k_call [] (con := boxes_c)) ?_
 refine s_op k_mv ?_
 refine s_op k_ex ?_
 refine s_op k_ex ?_
 refine s_op k_nc ?_
 refine s_op k_fa ?_
 refine s_st k_st ?_
 refine s_op k_nc ?_
 refine s_op k_fa ?_
 refine s_st k_st ?_
 refine s_nil trivial ?_
 refine n_wp ?_
 refine w_seq ?_
 refine g_any hP hn ?_
 refine s_op k_mv ?_
 refine s_op k_ld ?_
 refine s_op k_nc ?_
 refine s_op k_fa ?_
 refine s_op k_ix ?_
 refine s_st (k_st (by exact a_store_aggI rfl rfl rfl rfl (by exact Nat.le_of_ble_eq_true rfl) (by omega) (hset_seg (by first | exact sset_0 | exact sset_s _ rfl rfl sset_0 | exact sset_s _ rfl rfl (sset_s _ rfl rfl sset_0)) (by repeat (first | exact hset_0 | apply hset_s))))) ?_
 refine s_nil (by kernel_rfl) ?_
 refine n_wp ?_
 refine w_seq ?_
 refine g_reg hP hn ?_
 refine s_op k_as ?_
 refine s_nil trivial ?_
 refine n_wp ?_
 refine w_seq ?_
 refine w_seq ?_
 refine g_reg hP hn ?_
 refine s_op k_as ?_
 refine s_nil trivial ?_
 refine n_wp ?_
 refine w_block ?_
 refine c_loop (fun m T H => ∃ k, k ≤ 10 ∧ m = 10 - k ∧ T = [(1, .s (.ptr 0 0 0)), (3, .s (.ptr 1 0 0)), (4, .s (.int .u8 (ks SB key k).1)), (5, .s (.int .i64 ((k + 1 : Nat) : Int)))] ∧ H = [some ⟨true, [.ints .u8 16 key]⟩, some ⟨true, [.ints .u8 256 SB, .ints .u8 256 BK, .ints .u8 176 (ks SB key k).2]⟩]) (10) ⟨0, by omega, rfl, rfl, rfl⟩ (wk hE []) ?_
 rintro n_ T_ H_ ⟨k, hk, rfl, rfl, rfl⟩
 have hkl := ks_len SB key k
 have hU : U8 ((((ks SB key k).2).drop (k * 16)).take 16) := (U8_ks U8_SB hk8 k).cut _ _
 have u12 := hU 12
 have u13 := hU 13
 have u14 := hU 14
 have u15 := hU 15
 refine w_seq ?_
 refine w_seq ?_
 refine g_reg hP hn ?_
 refine s_op k_mv ?_
 refine s_op k_leq ?_
 refine s_nil trivial ?_
 refine n_wp ?_
 refine w_if rfl (fun h_t27 => ?_) (fun h_t27 => ?_)
 · skip
   refine w_skip ?_
   refine n_wp ?_
   refine w_seq ?_
   refine w_block ?_
   refine w_seq ?_
   refine g_reg hP hn ?_
   refine s_op k_mv ?_
   refine s_op k_mv ?_
   refine s_op k_sub ?_
   refine s_op k_nc ?_
   refine s_op k_fa ?_
   refine s_op k_ix ?_
   refine s_op k_ld ?_
   refine s_op k_al ?_
   refine s_st k_st ?_
   refine s_nil trivial ?_
   refine n_wp ?_
   refine w_seq ?_
   refine g_any hP hn ?_
   refine s_op k_mv ?_
   refine s_op k_ix ?_
   refine s_op k_ld ?_
   refine s_op k_nc ?_
   refine s_op k_fa ?_
   refine s_op (k_ix (by exact a_ixp (hj := ⟨(Int.toNat_of_nonneg (hU 13).1).symm⟩) rfl rfl (by have := hU 13; omega))) ?_
   refine s_op k_ld ?_
   refine s_op k_mv ?_
   refine s_op k_xor ?_
   refine s_op k_mv ?_
   refine s_op k_ix ?_
   refine s_op k_ld ?_
   refine s_op k_nc ?_
   refine s_op k_fa ?_
   refine s_op (k_ix (by exact a_ixp (hj := ⟨(Int.toNat_of_nonneg (hU 14).1).symm⟩) rfl rfl (by have := hU 14; omega))) ?_
   refine s_op k_ld ?_
   refine s_op k_mv ?_
   refine s_op k_ix ?_
   refine s_op k_ld ?_
   refine s_op k_nc ?_
   refine s_op k_fa ?_
   refine s_op (k_ix (by exact a_ixp (hj := ⟨(Int.toNat_of_nonneg (hU 15).1).symm⟩) rfl rfl (by have := hU 15; omega))) ?_
   refine s_op k_ld ?_
   refine s_op k_mv ?_
   refine s_op k_ix ?_
   refine s_op k_ld ?_
   refine s_op k_nc ?_
   refine s_op k_fa ?_
   refine s_op (k_ix (by exact a_ixp (hj := ⟨(Int.toNat_of_nonneg (hU 12).1).symm⟩) rfl rfl (by have := hU 12; omega))) ?_
   refine s_op k_ld ?_
   refine s_op (k_bd (by exact a_buildK (word SB (ks SB key k).2 k (ks SB key k).1) rfl rfl rfl)) ?_
   refine s_op k_al ?_
   refine s_st k_st ?_
   refine s_nil (by kernel_rfl) ?_
   refine n_wp ?_
   refine w_seq ?_
   refine g_reg hP hn ?_
   refine s_op k_mv ?_
   refine s_op (k_call [] (con := twice_c _)) ?_
   refine s_op k_as ?_
   refine s_nil trivial ?_
   refine n_wp ?_
   refine w_seq ?_
   refine g_reg hP hn ?_
   refine s_op k_mv ?_
   refine s_nil trivial ?_
   refine n_wp ?_
   refine w_block ?_
   refine c_loop (fun m T H => ∃ i, i ≤ 16 ∧ m = 16 - i ∧ T = [(1, .s (.ptr 0 0 0)), (3, .s (.ptr 1 0 0)), (4, .s (.int .u8 (twiceI (ks SB key k).1))), (5, .s (.int .i64 ((k + 1 : Nat) : Int))), (6, .s (.ptr 2 0 0)), (7, .s (.ptr 3 0 0)), (70, .s (.int .i64 ((i : Nat) : Int)))] ∧ H = [some ⟨true, [.ints .u8 16 key]⟩, some ⟨true, [.ints .u8 256 SB, .ints .u8 256 BK, .ints .u8 176 (kw (kwas (ks SB key k).2 k) (word SB (ks SB key k).2 k (ks SB key k).1) (ks SB key k).2 (k + 1) i).2]⟩, some ⟨true, [.ints .u8 16 (kwas (ks SB key k).2 k)]⟩, some ⟨true, [.ints .u8 4 (kw (kwas (ks SB key k).2 k) (word SB (ks SB key k).2 k (ks SB key k).1) (ks SB key k).2 (k + 1) i).1]⟩]) (16) ⟨0, by omega, rfl, rfl, rfl⟩ (wk hE []) ?_
   rintro n_ T_ H_ ⟨i, hi, rfl, rfl, rfl⟩
   have hw1 : (kw (kwas (ks SB key k).2 k) (word SB (ks SB key k).2 k (ks SB key k).1) (ks SB key k).2 (k + 1) i).1.length = 4 := (kw_len _ _ _ _ _).1
   have hw2 : (kw (kwas (ks SB key k).2 k) (word SB (ks SB key k).2 k (ks SB key k).1) (ks SB key k).2 (k + 1) i).2.length = 176 := (kw_len _ _ _ _ _).2.trans hkl
   refine w_seq ?_
   refine g_reg hP hn ?_
   refine s_op k_lss ?_
   refine s_nil trivial ?_
   refine n_wp ?_
   refine w_seq ?_
   refine w_if rfl (fun h_t71 => ?_) (fun h_t71 => ?_)
   · skip
     refine w_skip ?_
     refine n_wp ?_
     refine w_seq ?_
     refine w_block ?_
     refine w_seq ?_
     refine g_reg hP hn ?_
     refine s_op k_mv ?_
     refine s_op k_as ?_
     refine s_nil trivial ?_
     refine n_wp ?_
     refine w_seq ?_
     refine g_any hP hn ?_
     refine s_op k_mv ?_
     refine s_op k_rem ?_
     refine s_op k_ix ?_
     refine s_op k_ld ?_
     refine s_op k_mv ?_
     refine s_op k_ix ?_
     refine s_op k_ld ?_
     refine s_op k_xor ?_
     refine s_op k_ix ?_
     refine s_st k_st ?_
     refine s_nil (by kernel_rfl) ?_
     refine n_wp ?_
     refine g_any hP hn ?_
     refine s_op k_mv ?_
     refine s_op k_mv ?_
     refine s_op k_mv ?_
     refine s_op k_mv ?_
     refine s_op k_rem ?_
     refine s_op k_ix ?_
     refine s_op k_ld ?_
     refine s_op k_nc ?_
     refine s_op k_fa ?_
     refine s_op k_ix ?_
     refine s_op k_ix ?_
     refine s_st k_st ?_
     refine s_nil (by kernel_rfl) ?_
     refine n_blo ?_
     refine n_wp ?_
     refine g_reg hP hn ?_
     refine s_op k_add ?_
     refine s_op k_mv ?_
     refine s_nil trivial ?_
     exact n_round (16 - (i + 1)) (by omega) ⟨i + 1, by omega, rfl, rfl, rfl⟩ (wk hE [])
   · skip
     have hi16 : i = 16 := by omega
     rw [show (kw (kwas (ks SB key k).2 k) (word SB (ks SB key k).2 k (ks SB key k).1) (ks SB key k).2 (k + 1) i).2 = (ks SB key (k + 1)).2 by rw [hi16]; simp only [ks]]
     refine w_exit ?_
     refine x_thn ?_
     refine x_thn ?_
     refine x_eq ?_
     refine n_blo ?_
     refine n_wp ?_
     refine g_reg hP hn ?_
     refine s_op k_mv ?_
     refine s_op k_add ?_
     refine s_op k_as ?_
     refine s_nil trivial ?_
     exact n_round (10 - (k + 1)) (by omega) ⟨k + 1, by omega, rfl, rfl, rfl⟩ (wk hE [])
 · skip
   have hk10 : k = 10 := by omega
   rw [show (ks SB key k).2 = keysOf key by subst hk10; unfold keysOf; exact Eq.refl _]
   refine w_exit ?_
   refine x_thn ?_
   refine x_thn ?_
   refine x_eq ?_
   refine n_wp ?_
   refine w_seq ?_
   refine g_reg hP hn ?_
   refine s_op k_mv ?_
   refine s_op k_as ?_
   refine s_nil trivial ?_
   refine n_wp ?_
   refine w_ret ?_
   exact d_retw hP hn (r_tmp Tryz.results43) ((frz_ptr 0 688 (hn := by simp [sizeS, Seg.size])).trans (wk hE []))

end Go.Proofs.X
end

section
open Go Go.Bx Go.Proofs
namespace Go.Proofs.X
attribute [local irreducible] SB BK ks
set_option maxRecDepth 100000 in
set_option maxHeartbeats 4000000 in
theorem block_c (key b : List Int) (hb : b.length = 16) (hb8 : U8 b) : Con Tryz.prog 44 [.s (.fptr 688 (cellsF [.ints .u8 256 SB, .ints .u8 256 BK, .ints .u8 176 (keysOf key)]) 0 0), .agg [.ints .u8 16 b]] [] (.agg [.ints .u8 16 (blockI key b)]) [] := by
 refine con_in 52 Tryz.func44 rfl rfl (m := 0) rfl ?_
 intro E hP hn hE
 refine w_seq ?_
 refine g_reg hP hn ?_
 refine s_op k_bx ?_
 refine s_op k_al ?_
 refine s_nil trivial ?_
 refine n_wp ?_
 refine w_scope ?_
 refine w_seq ?_
 refine g_any hP hn ?_
 refine s_op k_ld ?_
 refine s_op k_mv ?_
 refine s_op k_nc ?_
 refine s_op k_fa ?_
 refine s_op k_ix ?_
 refine s_op (k_ld (by exact a_loadf_aggI rfl rfl (by omega) (by omega))) ?_
 refine s_op (k_call [] (con := against_c _ _ hb)) ?_
 refine s_st k_st ?_
 refine s_nil (by kernel_rfl) ?_
 refine n_wp ?_
 refine w_seq ?_
 refine g_reg hP hn ?_
 refine s_op k_as ?_
 refine s_nil trivial ?_
 refine n_wp ?_
 refine w_seq ?_
 refine w_label ?_
 refine n_wp ?_
 refine w_seq ?_
 refine w_block ?_
 refine c_loop (fun m T H => ∃ k, k ≤ 9 ∧ m = 9 - k ∧ T = [(0, .s (.fptr 688 (cellsF [.ints .u8 256 SB, .ints .u8 256 BK, .ints .u8 176 (keysOf key)]) 0 0)), (3, .s (.ptr 0 0 0)), (4, .s (.ptr 1 0 0)), (5, .s (.int .i64 ((k + 1 : Nat) : Int)))] ∧ H = [some ⟨true, [.ints .u8 16 (enc SB (keysOf key) b k)]⟩, some ⟨true, [.ints .u8 16 (z 16)]⟩]) (9) ⟨0, by omega, rfl, rfl, rfl⟩ (wk hE []) ?_
 rintro n_ T_ H_ ⟨k, hk, rfl, rfl, rfl⟩
 have hel := enc_len SB (keysOf key) b hb k
 have hEn : U8 (enc SB (keysOf key) b k) := U8_enc U8_SB hb8 k
 refine w_block ?_
 refine w_seq ?_
 refine g_reg hP hn ?_
 refine s_op k_al ?_
 refine s_nil trivial ?_
 refine n_wp ?_
 refine w_seq ?_
 refine w_seq ?_
 refine g_reg hP hn ?_
 refine s_op k_mv ?_
 refine s_nil trivial ?_
 refine n_wp ?_
 refine w_block ?_
 refine c_loop (fun m T H => ∃ i, i ≤ 16 ∧ m = 16 - i ∧ T = [(0, .s (.fptr 688 (cellsF [.ints .u8 256 SB, .ints .u8 256 BK, .ints .u8 176 (keysOf key)]) 0 0)), (3, .s (.ptr 0 0 0)), (4, .s (.ptr 1 0 0)), (5, .s (.int .i64 ((k + 1 : Nat) : Int))), (6, .s (.ptr 2 0 0)), (15, .s (.int .i64 ((i : Nat) : Int)))] ∧ H = [some ⟨true, [.ints .u8 16 (enc SB (keysOf key) b k)]⟩, some ⟨true, [.ints .u8 16 (z 16)]⟩, some ⟨true, [.ints .u8 16 (subTo SB (enc SB (keysOf key) b k) i)]⟩]) (16) ⟨0, by omega, rfl, rfl, rfl⟩ (wk hE []) ?_
 rintro n_ T_ H_ ⟨i, hi, rfl, rfl, rfl⟩
 have hsu := subTo_len SB (enc SB (keysOf key) b k) i
 have ue := hEn ((i + 4 * (i % 4)) % 16)
 refine w_seq ?_
 refine g_reg hP hn ?_
 refine s_op k_lss ?_
 refine s_nil trivial ?_
 refine n_wp ?_
 refine w_seq ?_
 refine w_if rfl (fun h_t16 => ?_) (fun h_t16 => ?_)
 · skip
   refine w_skip ?_
   refine n_wp ?_
   refine w_seq ?_
   refine w_block ?_
   refine w_seq ?_
   refine g_reg hP hn ?_
   refine s_op k_mv ?_
   refine s_op k_as ?_
   refine s_nil trivial ?_
   refine n_wp ?_
   refine g_any hP hn ?_
   refine s_op k_mv ?_
   refine s_op k_mv ?_
   refine s_op k_mv ?_
   refine s_op (k_call [] (con := place_c i (by omega))) ?_
   refine s_op k_ix ?_
   refine s_op k_ld ?_
   refine s_op k_nc ?_
   refine s_op k_fa ?_
   refine s_op (k_ix (by exact a_ixf (hj := ⟨(Int.toNat_of_nonneg ue.1).symm⟩) rfl rfl (by omega))) ?_
   refine s_op k_ld ?_
   refine s_op k_ix ?_
   refine s_st k_st ?_
   refine s_nil (by kernel_rfl) ?_
   refine n_blo ?_
   refine n_wp ?_
   refine g_reg hP hn ?_
   refine s_op k_add ?_
   refine s_op k_mv ?_
   refine s_nil trivial ?_
   exact n_round (16 - (i + 1)) (by omega) ⟨i + 1, by omega, rfl, rfl, rfl⟩ (wk hE [])
 · skip
   have hi16 : i = 16 := by omega
   obtain ⟨SX, hSX⟩ : ∃ SX, SX = subTo SB (enc SB (keysOf key) b k) i := ⟨_, rfl⟩
   have hsl : SX.length = 16 := hSX ▸ hsu
   rw [← hSX]
   rw [hi16] at hSX
   refine w_exit ?_
   refine x_thn ?_
   refine x_thn ?_
   refine x_eq ?_
   refine n_wp ?_
   refine w_seq ?_
   refine w_seq ?_
   refine g_reg hP hn ?_
   refine s_op k_mv ?_
   refine s_op k_eql ?_
   refine s_nil trivial ?_
   refine n_wp ?_
   refine w_if rfl (fun h_t31 => ?_) (fun h_t31 => ?_)
   · skip
     have hk9 : k = 9 := by omega
     refine w_seq ?_
     refine g_any hP hn ?_
     refine s_op k_ld ?_
     refine s_op k_mv ?_
     refine s_op k_mv ?_
     refine s_op k_nc ?_
     refine s_op k_fa ?_
     refine s_op k_ix ?_
     refine s_op (k_ld (by exact a_loadf_aggI rfl rfl (by omega) (by omega))) ?_
     refine s_op (k_call [] (con := against_c _ _ hsl)) ?_
     refine s_st k_st ?_
     refine s_nil (by kernel_rfl) ?_
     refine n_wp ?_
     refine w_exit ?_
     refine x_thn ?_
     refine x_ne rfl ?_
     refine x_thn ?_
     refine x_eq ?_
     refine n_wp ?_
     refine w_seq ?_
     rw [show xor16 SX ((((keysOf key)).drop ((k + 1) * 16)).take 16) = blockI key b by subst hk9; rw [hSX]; simp only [blockI, blockL_def, kwas, Nat.reduceAdd, Nat.reduceMul]]
     refine g_reg hP hn ?_
     refine s_op k_ld ?_
     refine s_st k_st ?_
     refine s_nil trivial ?_
     refine n_wp ?_
     refine w_ret ?_
     refine r_sco ?_
     exact d_ret hP hn hE [] (r_cell Tryz.results44)
   · skip
     refine w_skip ?_
     refine n_wp ?_
     refine w_seq ?_
     refine g_any hP hn ?_
     refine s_op k_ld ?_
     refine s_op (k_call [] (con := mixed_c _ hsl)) ?_
     refine s_op k_mv ?_
     refine s_op k_mv ?_
     refine s_op k_nc ?_
     refine s_op k_fa ?_
     refine s_op k_ix ?_
     refine s_op (k_ld (by exact a_loadf_aggI rfl rfl (by omega) (by omega))) ?_
     refine s_op (k_call [] (con := against_c _ _ ((mixI_len _).trans hsl))) ?_
     refine s_st k_st ?_
     refine s_nil (by kernel_rfl) ?_
     refine n_wp ?_
     refine g_reg hP hn ?_
     refine s_op k_mv ?_
     refine s_op k_add ?_
     refine s_op k_as ?_
     refine s_nil trivial ?_
     refine n_blo ?_
     exact n_round (9 - (k + 1)) (by omega) ⟨k + 1, by omega, rfl, rfl, by rw [enc, ← hSX, rk, kwas]⟩ (wk hE [])

end Go.Proofs.X
end

section
open Go Go.Bx Go.Proofs
namespace Go.Proofs.X
attribute [local irreducible] SB BK ks
end Go.Proofs.X
end

section
open Go Go.Bx Go.Proofs
namespace Go.Proofs.X
attribute [local irreducible] SB BK ks
set_option maxRecDepth 100000 in
set_option maxHeartbeats 4000000 in
theorem streamM_c (key first B : List Int) (hk8 : U8 key) (hf : first.length = 16) (hf8 : U8 first) (h0 : 0 < B.length) (hB : B.length ≤ 140737488355000) : Con Tryz.prog 9 [.agg [.ints .u8 16 key], .agg [.ints .u8 16 first], .s (.fzi .u8 B)] [] (.s (.slice 0 0 0 B.length B.length)) [some ⟨true, [.ints .u8 B.length (streamI key first B)]⟩] := by
 refine con_in 67 Tryz.func9 rfl rfl (m := 0) rfl ?_
 intro E hP hn hE
 refine w_seq ?_
 refine g_reg hP hn ?_
 refine s_op k_bx ?_
 refine s_op k_bx ?_
 refine s_op k_as ?_
 refine s_nil trivial ?_
 refine n_wp ?_
 refine w_seq ?_
 refine w_seq ?_
 refine g_reg hP hn ?_
 refine s_op k_mv ?_
 refine s_op k_len ?_
 refine s_op k_eql ?_
 refine s_nil trivial ?_
 refine n_wp ?_
 refine w_F rfl ?_ 
 refine w_skip ?_
 refine n_wp ?_
 refine w_seq ?_
 refine g_reg hP hn ?_
 refine s_op k_ld ?_
 refine s_op (k_call [] (con := machine_c key hk8)) ?_
 refine s_op k_as ?_
 refine s_nil trivial ?_
 refine n_wp ?_
 refine w_seq ?_
 refine g_reg hP hn ?_
 refine s_op k_mv ?_
 refine s_op k_len ?_
 refine s_op k_mk ?_
 refine s_op k_as ?_
 refine s_nil trivial ?_
 refine n_wp ?_
 refine w_seq ?_
 refine w_seq ?_
 refine g_reg hP hn ?_
 refine s_op k_as ?_
 refine s_nil trivial ?_
 refine n_wp ?_
 refine w_block ?_
 refine c_loop (fun m T H => ∃ q, m = B.length + 16 - 16 * q ∧ 16 * q < B.length + 16 ∧ T = [(2, .s (.fzi .u8 B)), (4, .s (.ptr 1 0 0)), (7, .s (.fptr 688 (cellsF [.ints .u8 256 SB, .ints .u8 256 BK, .ints .u8 176 (keysOf key)]) 0 0)), (8, .s (.slice 2 0 0 B.length B.length)), (9, .s (.int .i64 ((16 * q : Nat) : Int)))] ∧ H = [some ⟨true, [.ints .u8 16 key]⟩, some ⟨true, [.ints .u8 16 (ctr first q)]⟩, some ⟨true, [.ints .u8 B.length (strN key first B B.length q)]⟩]) (B.length + 16) ⟨0, by omega, by omega, rfl, rfl⟩ (wk hE []) ?_
 rintro n_ T_ H_ ⟨q, rfl, hq, rfl, rfl⟩
 have hcl := (ctr_len first q).trans hf
 have hc8 := U8_ctr hf8 q
 have hol := strN_len key first B B.length q
 refine w_seq ?_
 refine w_seq ?_
 refine g_reg hP hn ?_
 refine s_op k_mv ?_
 refine s_op k_mv ?_
 refine s_op k_len ?_
 refine s_op k_lss ?_
 refine s_nil trivial ?_
 refine n_wp ?_
 refine w_if rfl (fun h_t24 => ?_) (fun h_t24 => ?_)
 · skip
   have hq1 : 16 * q < B.length := h_t24
   refine w_skip ?_
   refine n_wp ?_
   refine w_seq ?_
   refine w_block ?_
   refine w_seq ?_
   refine g_reg hP hn ?_
   refine s_op k_mv ?_
   refine s_op k_ld ?_
   refine s_op (k_call [] (con := block_c key (ctr first q) hcl hc8)) ?_
   refine s_op k_al ?_
   refine s_st k_st ?_
   refine s_nil trivial ?_
   refine n_wp ?_
   refine w_seq ?_
   refine w_seq ?_
   refine g_reg hP hn ?_
   refine s_op k_mv ?_
   refine s_op k_as ?_
   refine s_nil trivial ?_
   refine n_wp ?_
   refine w_block ?_
   refine c_loop (fun m T H => ∃ r, r ≤ min 16 (B.length - 16 * q) ∧ m = min 16 (B.length - 16 * q) - r ∧ T = [(2, .s (.fzi .u8 B)), (4, .s (.ptr 1 0 0)), (7, .s (.fptr 688 (cellsF [.ints .u8 256 SB, .ints .u8 256 BK, .ints .u8 176 (keysOf key)]) 0 0)), (8, .s (.slice 2 0 0 B.length B.length)), (9, .s (.int .i64 ((16 * q : Nat) : Int))), (10, .s (.ptr 3 0 0)), (11, .s (.int .i64 ((16 * q + r : Nat) : Int)))] ∧ H = [some ⟨true, [.ints .u8 16 key]⟩, some ⟨true, [.ints .u8 16 (ctr first q)]⟩, some ⟨true, [.ints .u8 B.length (str1 B (blockI key (ctr first q)) (strN key first B B.length q) (16 * q) r)]⟩, some ⟨true, [.ints .u8 16 (blockI key (ctr first q))]⟩]) (min 16 (B.length - 16 * q)) ⟨0, by omega, rfl, rfl, rfl⟩ (wk hE []) ?_
   rintro n_ T_ H_ ⟨r, hr, rfl, rfl, rfl⟩
   have hs1 := (str1_len B (blockI key (ctr first q)) (strN key first B B.length q) (16 * q) r).trans hol
   refine w_seq ?_
   refine w_seq ?_
   refine g_reg hP hn ?_
   refine s_op k_mv ?_
   refine s_op k_mv ?_
   refine s_op k_add ?_
   refine s_op k_mv ?_
   refine s_op k_len ?_
   refine s_op (k_min (by exact l_min (r := ((min (16 * q + 16) B.length : Nat) : Int)) rfl rfl (by split <;> omega))) ?_
   refine s_op k_lss ?_
   refine s_nil trivial ?_
   refine n_wp ?_
   refine w_if rfl (fun h_t37 => ?_) (fun h_t37 => ?_)
   · skip
     refine w_skip ?_
     refine n_wp ?_
     refine w_seq ?_
     refine w_block ?_
     refine g_any hP hn ?_
     refine s_op k_mv ?_
     refine s_op k_mv ?_
     refine s_op k_mv ?_
     refine s_op k_mv ?_
     refine s_op k_ix ?_
     refine s_op k_ld ?_
     refine s_op k_mv ?_
     refine s_op k_mv ?_
     refine s_op k_sub ?_
     refine s_op k_ix ?_
     refine s_op k_ld ?_
     refine s_op k_xor ?_
     refine s_op k_ix ?_
     refine s_st k_st ?_
     refine s_nil (by kernel_rfl) ?_
     refine n_blo ?_
     refine n_wp ?_
     refine g_reg hP hn ?_
     refine s_op k_mv ?_
     refine s_op k_add ?_
     refine s_op k_as ?_
     refine s_nil trivial ?_
     exact n_round (min 16 (B.length - 16 * q) - (r + 1)) (by omega) ⟨r + 1, by omega, rfl, rfl, rfl⟩ (wk hE [])
   · skip
     have hrm : r = min 16 (B.length - 16 * q) := by omega
     rw [show str1 B (blockI key (ctr first q)) (strN key first B B.length q) (16 * q) r = (strN key first B B.length (q + 1)) by rw [hrm, strN]]
     have hcn : incF (ctr first q) 16 = ctr first (q + 1) := rfl
     refine w_exit ?_
     refine x_thn ?_
     refine x_thn ?_
     refine x_eq ?_
     refine n_wp ?_
     refine w_seq ?_
     refine g_reg hP hn ?_
     refine s_op k_as ?_
     refine s_nil trivial ?_
     refine n_wp ?_
     refine w_block ?_
     refine c_loop (fun m T H => ∃ (t : Nat) (l : List Int) (z : Int), t ≤ 16 ∧ m = t ∧ l.length = 16 ∧ incF l t = ctr first (q + 1) ∧ z = (t : Int) - 1 ∧ T = [(2, .s (.fzi .u8 B)), (4, .s (.ptr 1 0 0)), (7, .s (.fptr 688 (cellsF [.ints .u8 256 SB, .ints .u8 256 BK, .ints .u8 176 (keysOf key)]) 0 0)), (8, .s (.slice 2 0 0 B.length B.length)), (9, .s (.int .i64 ((16 * q : Nat) : Int))), (12, .s (.int .i64 z))] ∧ H = [some ⟨true, [.ints .u8 16 key]⟩, some ⟨true, [.ints .u8 16 l]⟩, some ⟨true, [.ints .u8 B.length (strN key first B B.length (q + 1))]⟩]) (16) ⟨16, (ctr first q), 15, by omega, rfl, hcl, hcn, by omega, rfl, rfl⟩ (wk hE []) ?_
     rintro n_ T_ H_ ⟨t, l, z, ht, hmt, hll, hinc, hz, rfl, rfl⟩
     refine w_seq ?_
     refine w_seq ?_
     refine g_reg hP hn ?_
     refine s_op k_mv ?_
     refine s_op k_geq ?_
     refine s_nil trivial ?_
     refine n_wp ?_
     refine w_if rfl (fun h_t54 => ?_) (fun h_t54 => ?_)
     · skip
       obtain ⟨i, rfl⟩ : ∃ i, t = i + 1 := ⟨t - 1, by omega⟩
       have hzi : z = ((i : Nat) : Int) := by omega
       subst hzi
       refine w_skip ?_
       refine n_wp ?_
       refine w_seq ?_
       refine w_block ?_
       refine w_seq ?_
       refine g_reg hP hn ?_
       refine s_op k_mv ?_
       refine s_op (k_ix (by exact a_ixp (hj := ⟨rfl⟩) rfl rfl (by omega))) ?_
       refine s_op k_ld ?_
       refine s_op k_add ?_
       refine s_op k_ix ?_
       refine s_st k_st ?_
       refine s_nil trivial ?_
       refine n_wp ?_
       refine w_seq ?_
       refine g_reg hP hn ?_
       refine s_op k_mv ?_
       refine s_op k_ix ?_
       refine s_op k_ld ?_
       refine s_op k_neq ?_
       refine s_nil trivial ?_
       refine n_wp ?_
       refine w_if rfl (fun h_t65 => ?_) (fun h_t65 => ?_)
       · skip
         have hfin : l.set i (IntKind.u8.wrap (l.getD i 0 + 1)) = ctr first (q + 1) := by rw [← hinc, incF, if_neg h_t65]
         rw [hfin]
         refine w_exit ?_
         refine x_ne rfl ?_
         refine x_thn ?_
         refine x_thn ?_
         refine x_eq ?_
         refine n_blo ?_
         refine n_wp ?_
         refine g_reg hP hn ?_
         refine s_op k_mv ?_
         refine s_op k_add ?_
         refine s_op k_as ?_
         refine s_nil trivial ?_
         exact n_round (B.length + 16 - 16 * (q + 1)) (by omega) ⟨q + 1, rfl, by omega, rfl, rfl⟩ (wk hE [])
       · skip
         have hinc2 : incF (l.set i (IntKind.u8.wrap (l.getD i 0 + 1))) i = ctr first (q + 1) := by rw [← hinc, incF, if_pos (Decidable.not_not.1 h_t65)]
         refine w_skip ?_
         refine n_blo ?_
         refine n_wp ?_
         refine g_reg hP hn ?_
         refine s_op k_mv ?_
         refine s_op (k_sub (by exact l_bin rfl rfl (b_sub (wrap_i64 (by omega))))) ?_
         refine s_op k_as ?_
         refine s_nil trivial ?_
         exact n_round i (by omega) ⟨i, _, (i : Int) - 1, by omega, rfl, (by simp [hll] : (l.set i (IntKind.u8.wrap (l.getD i 0 + 1))).length = 16), hinc2, rfl, rfl, rfl⟩ (wk hE [])
     · skip
       have ht0 : t = 0 := by omega
       subst ht0
       have hfin : l = ctr first (q + 1) := hinc
       rw [hfin]
       refine w_exit ?_
       refine x_thn ?_
       refine x_thn ?_
       refine x_eq ?_
       refine n_blo ?_
       refine n_wp ?_
       refine g_reg hP hn ?_
       refine s_op k_mv ?_
       refine s_op k_add ?_
       refine s_op k_as ?_
       refine s_nil trivial ?_
       exact n_round (B.length + 16 - 16 * (q + 1)) (by omega) ⟨q + 1, rfl, by omega, rfl, rfl⟩ (wk hE [])
 · skip
   have hqe : q = (B.length + 15) / 16 := by omega
   rw [show strN key first B B.length q = streamI key first B by rw [hqe, streamI]]
   have hsl : (streamI key first B).length = B.length := strN_len _ _ _ _ _
   refine w_exit ?_
   refine x_thn ?_
   refine x_thn ?_
   refine x_eq ?_
   refine n_wp ?_
   refine w_seq ?_
   refine g_reg hP hn ?_
   refine s_op k_mv ?_
   refine s_op k_as ?_
   refine s_nil trivial ?_
   refine n_wp ?_
   refine w_ret ?_
   exact d_ret hP hn hE [2] (by first | exact r_tmp Tryz.results9 | exact r_tmpa Tryz.results9)

set_option maxRecDepth 100000 in
set_option maxHeartbeats 4000000 in
theorem streamN_c (key first : List Int) : Con Tryz.prog 9 [.agg [.ints .u8 16 key], .agg [.ints .u8 16 first], .s .nils] [] (.s .nils) [] := by
 refine con_in 67 Tryz.func9 rfl rfl (m := 0) rfl ?_
 intro E hP hn hE
 refine w_seq ?_
 refine g_reg hP hn ?_
 refine s_op k_bx ?_
 refine s_op k_bx ?_
 refine s_op k_as ?_
 refine s_nil trivial ?_
 refine n_wp ?_
 refine w_seq ?_
 refine w_seq ?_
 refine g_reg hP hn ?_
 refine s_op k_mv ?_
 refine s_op k_len ?_
 refine s_op k_eql ?_
 refine s_nil trivial ?_
 refine n_wp ?_
 refine w_T rfl ?_ 
 refine w_seq ?_
 refine g_reg hP hn ?_
 refine s_op k_as ?_
 refine s_nil trivial ?_
 refine n_wp ?_
 refine w_ret ?_
 refine r_thn ?_
 exact d_ret hP hn hE [] (by first | exact r_tmp Tryz.results9 | exact r_tmpa Tryz.results9)

set_option maxRecDepth 100000 in
set_option maxHeartbeats 4000000 in
theorem streamE_c (key first : List Int) : Con Tryz.prog 9 [.agg [.ints .u8 16 key], .agg [.ints .u8 16 first], .s (.fzi .u8 [])] [] (.s .nils) [] := by
 refine con_in 67 Tryz.func9 rfl rfl (m := 0) rfl ?_
 intro E hP hn hE
 refine w_seq ?_
 refine g_reg hP hn ?_
 refine s_op k_bx ?_
 refine s_op k_bx ?_
 refine s_op k_as ?_
 refine s_nil trivial ?_
 refine n_wp ?_
 refine w_seq ?_
 refine w_seq ?_
 refine g_reg hP hn ?_
 refine s_op k_mv ?_
 refine s_op k_len ?_
 refine s_op k_eql ?_
 refine s_nil trivial ?_
 refine n_wp ?_
 refine w_T rfl ?_ 
 refine w_seq ?_
 refine g_reg hP hn ?_
 refine s_op k_as ?_
 refine s_nil trivial ?_
 refine n_wp ?_
 refine w_ret ?_
 refine r_thn ?_
 exact d_ret hP hn hE [] (by first | exact r_tmp Tryz.results9 | exact r_tmpa Tryz.results9)

end Go.Proofs.X
end

section
/- What the document's answer of layer 9 computes, on lists; and that it is what the program's computes. No program. -/
open Go Go.Bx
namespace Go.Proofs.X
theorem wrap_u8 {x : Int} (h0 : 0 ≤ x) (h1 : x < 256) : IntKind.u8.wrap x = x := by
  show x % 256 = x
  omega
theorem str1_get (B s out : List Int) (at_ r k : Nat) (hk : k < out.length) : (str1 B s out at_ r).getD k 0 = if at_ ≤ k ∧ k < at_ + r then xorK .u8 (B.getD k 0) (s.getD (k - at_) 0) else out.getD k 0 := by
  induction r with
  | zero => rw [if_neg (by omega)]; rfl
  | succ r ih =>
    simp only [str1, List.getD_eq_getElem?_getD, List.getElem?_set] at ih ⊢
    by_cases h : at_ + r = k
    · subst h
      rw [if_pos rfl, if_pos (by rw [str1_len]; exact hk), if_pos (by omega)]
      simp
    · rw [if_neg h, ih]
      by_cases h2 : at_ ≤ k ∧ k < at_ + r
      · rw [if_pos h2, if_pos (by omega)]
      · rw [if_neg h2, if_neg (by omega)]
def pad (key first : List Int) (k : Nat) : Int := (blockI key (ctr first (k / 16))).getD (k % 16) 0
theorem strN_get (key first B : List Int) (n q k : Nat) (hn : k < n) (hq : k < 16 * q) : (strN key first B n q).getD k 0 = xorK .u8 (B.getD k 0) (pad key first k) := by
  induction q with
  | zero => omega
  | succ q ih =>
    rw [strN, str1_get _ _ _ _ _ _ (by rw [strN_len]; exact hn)]
    by_cases h : 16 * q ≤ k
    · rw [if_pos (by omega), pad, show k / 16 = q by omega, show k % 16 = k - 16 * q by omega]
    · rw [if_neg (by omega)]; exact ih (by omega)
def e8 (x : BitVec 8) : Int := (x.toNat : Int)
def tw (x : BitVec 8) : BitVec 8 := if x >>> 7 = 1 then (x <<< 1) ^^^ 27 else x <<< 1
theorem ofInt_e8 (x : BitVec 8) : BitVec.ofInt 8 (e8 x) = x := by simp [e8]
theorem wrap_e8 (x : BitVec 8) : IntKind.u8.wrap ((x.toNat : Nat) : Int) = e8 x := wrap_u8 (by omega) (by have := x.isLt; omega)
theorem xor_e (x y : BitVec 8) : xorK .u8 (e8 x) (e8 y) = e8 (x ^^^ y) := by
  show IntKind.u8.wrap ((BitVec.ofInt 8 (e8 x) ^^^ BitVec.ofInt 8 (e8 y)).toNat : Int) = _
  rw [ofInt_e8, ofInt_e8, wrap_e8]
theorem twice_e0 : ∀ n, n < 256 → twiceI (n : Nat) = e8 (tw (BitVec.ofNat 8 n)) := by decide +kernel
theorem twice_e (x : BitVec 8) : twiceI (e8 x) = e8 (tw x) := by
  have := twice_e0 x.toNat x.isLt
  rwa [BitVec.ofNat_toNat, BitVec.setWidth_eq] at this
theorem tw_form0 : ∀ n, n < 256 → tw (BitVec.ofNat 8 n) = (BitVec.ofNat 8 n <<< 1) ^^^ (if (BitVec.ofNat 8 n).getLsbD 7 then 27 else 0) := by decide +kernel
theorem tw_form (x : BitVec 8) : tw x = (x <<< 1) ^^^ (if x.getLsbD 7 then 27 else 0) := by
  have := tw_form0 x.toNat x.isLt
  rwa [BitVec.ofNat_toNat, BitVec.setWidth_eq] at this
theorem b_lc (x y z : BitVec 8) : x ^^^ (y ^^^ z) = y ^^^ (x ^^^ z) := by rw [← BitVec.xor_assoc, BitVec.xor_comm x, BitVec.xor_assoc]
theorem b_sl (x y : BitVec 8) : x ^^^ (x ^^^ y) = y := by rw [← BitVec.xor_assoc, BitVec.xor_self, BitVec.zero_xor]
theorem tw_xor (x y : BitVec 8) : tw (x ^^^ y) = tw x ^^^ tw y := by
  rw [tw_form, tw_form, tw_form, BitVec.shiftLeft_xor_distrib, BitVec.getLsbD_xor]
  cases x.getLsbD 7 <;> cases y.getLsbD 7 <;> simp [BitVec.xor_assoc, b_lc, b_sl]
  all_goals (rw [BitVec.xor_comm])
def mx (x all y : Int) : Int := xorK .u8 x (xorK .u8 all (twiceI (xorK .u8 x y)))
theorem mixC_0 (a0 a1 a2 a3 a4 a5 a6 a7 a8 a9 a10 a11 a12 a13 a14 a15 : Int) : mixC [a0, a1, a2, a3, a4, a5, a6, a7, a8, a9, a10, a11, a12, a13, a14, a15] 0 = [mx a0 (xorK .u8 (xorK .u8 (xorK .u8 a0 a1) a2) a3) a1, mx a1 (xorK .u8 (xorK .u8 (xorK .u8 a0 a1) a2) a3) a2, mx a2 (xorK .u8 (xorK .u8 (xorK .u8 a0 a1) a2) a3) a3, mx a3 (xorK .u8 (xorK .u8 (xorK .u8 a0 a1) a2) a3) a0, a4, a5, a6, a7, a8, a9, a10, a11, a12, a13, a14, a15] := by simp [mixC, mixR, mx]
theorem mixC_1 (a0 a1 a2 a3 a4 a5 a6 a7 a8 a9 a10 a11 a12 a13 a14 a15 : Int) : mixC [a0, a1, a2, a3, a4, a5, a6, a7, a8, a9, a10, a11, a12, a13, a14, a15] 4 = [a0, a1, a2, a3, mx a4 (xorK .u8 (xorK .u8 (xorK .u8 a4 a5) a6) a7) a5, mx a5 (xorK .u8 (xorK .u8 (xorK .u8 a4 a5) a6) a7) a6, mx a6 (xorK .u8 (xorK .u8 (xorK .u8 a4 a5) a6) a7) a7, mx a7 (xorK .u8 (xorK .u8 (xorK .u8 a4 a5) a6) a7) a4, a8, a9, a10, a11, a12, a13, a14, a15] := by simp [mixC, mixR, mx]
theorem mixC_2 (a0 a1 a2 a3 a4 a5 a6 a7 a8 a9 a10 a11 a12 a13 a14 a15 : Int) : mixC [a0, a1, a2, a3, a4, a5, a6, a7, a8, a9, a10, a11, a12, a13, a14, a15] 8 = [a0, a1, a2, a3, a4, a5, a6, a7, mx a8 (xorK .u8 (xorK .u8 (xorK .u8 a8 a9) a10) a11) a9, mx a9 (xorK .u8 (xorK .u8 (xorK .u8 a8 a9) a10) a11) a10, mx a10 (xorK .u8 (xorK .u8 (xorK .u8 a8 a9) a10) a11) a11, mx a11 (xorK .u8 (xorK .u8 (xorK .u8 a8 a9) a10) a11) a8, a12, a13, a14, a15] := by simp [mixC, mixR, mx]
theorem mixC_3 (a0 a1 a2 a3 a4 a5 a6 a7 a8 a9 a10 a11 a12 a13 a14 a15 : Int) : mixC [a0, a1, a2, a3, a4, a5, a6, a7, a8, a9, a10, a11, a12, a13, a14, a15] 12 = [a0, a1, a2, a3, a4, a5, a6, a7, a8, a9, a10, a11, mx a12 (xorK .u8 (xorK .u8 (xorK .u8 a12 a13) a14) a15) a13, mx a13 (xorK .u8 (xorK .u8 (xorK .u8 a12 a13) a14) a15) a14, mx a14 (xorK .u8 (xorK .u8 (xorK .u8 a12 a13) a14) a15) a15, mx a15 (xorK .u8 (xorK .u8 (xorK .u8 a12 a13) a14) a15) a12] := by simp [mixC, mixR, mx]
theorem mixI_16 (a0 a1 a2 a3 a4 a5 a6 a7 a8 a9 a10 a11 a12 a13 a14 a15 : Int) : mixI [a0, a1, a2, a3, a4, a5, a6, a7, a8, a9, a10, a11, a12, a13, a14, a15] = [mx a0 (xorK .u8 (xorK .u8 (xorK .u8 a0 a1) a2) a3) a1, mx a1 (xorK .u8 (xorK .u8 (xorK .u8 a0 a1) a2) a3) a2, mx a2 (xorK .u8 (xorK .u8 (xorK .u8 a0 a1) a2) a3) a3, mx a3 (xorK .u8 (xorK .u8 (xorK .u8 a0 a1) a2) a3) a0, mx a4 (xorK .u8 (xorK .u8 (xorK .u8 a4 a5) a6) a7) a5, mx a5 (xorK .u8 (xorK .u8 (xorK .u8 a4 a5) a6) a7) a6, mx a6 (xorK .u8 (xorK .u8 (xorK .u8 a4 a5) a6) a7) a7, mx a7 (xorK .u8 (xorK .u8 (xorK .u8 a4 a5) a6) a7) a4, mx a8 (xorK .u8 (xorK .u8 (xorK .u8 a8 a9) a10) a11) a9, mx a9 (xorK .u8 (xorK .u8 (xorK .u8 a8 a9) a10) a11) a10, mx a10 (xorK .u8 (xorK .u8 (xorK .u8 a8 a9) a10) a11) a11, mx a11 (xorK .u8 (xorK .u8 (xorK .u8 a8 a9) a10) a11) a8, mx a12 (xorK .u8 (xorK .u8 (xorK .u8 a12 a13) a14) a15) a13, mx a13 (xorK .u8 (xorK .u8 (xorK .u8 a12 a13) a14) a15) a14, mx a14 (xorK .u8 (xorK .u8 (xorK .u8 a12 a13) a14) a15) a15, mx a15 (xorK .u8 (xorK .u8 (xorK .u8 a12 a13) a14) a15) a12] := by
  unfold mixI
  show mixC (mixC (mixC (mixC [a0, a1, a2, a3, a4, a5, a6, a7, a8, a9, a10, a11, a12, a13, a14, a15] 0) 4) 8) 12 = _
  rw [mixC_0, mixC_1, mixC_2, mixC_3]
theorem mx_e (x al y : BitVec 8) : mx (e8 x) (e8 al) (e8 y) = e8 (x ^^^ (al ^^^ tw (x ^^^ y))) := by simp only [mx, xor_e, twice_e]
theorem V_of {l : List Int} (h : l.length = 16) (hu : U8 l) : ∃ x0 x1 x2 x3 x4 x5 x6 x7 x8 x9 x10 x11 x12 x13 x14 x15 : BitVec 8, l = [e8 x0, e8 x1, e8 x2, e8 x3, e8 x4, e8 x5, e8 x6, e8 x7, e8 x8, e8 x9, e8 x10, e8 x11, e8 x12, e8 x13, e8 x14, e8 x15] := by
  obtain ⟨a0, a1, a2, a3, a4, a5, a6, a7, a8, a9, a10, a11, a12, a13, a14, a15, rfl⟩ : ∃ a0 a1 a2 a3 a4 a5 a6 a7 a8 a9 a10 a11 a12 a13 a14 a15 : Int, l = [a0, a1, a2, a3, a4, a5, a6, a7, a8, a9, a10, a11, a12, a13, a14, a15] := by
    rcases l with _ | ⟨a0, l⟩; simp at h; rcases l with _ | ⟨a1, l⟩; simp at h; rcases l with _ | ⟨a2, l⟩; simp at h; rcases l with _ | ⟨a3, l⟩; simp at h; rcases l with _ | ⟨a4, l⟩; simp at h; rcases l with _ | ⟨a5, l⟩; simp at h; rcases l with _ | ⟨a6, l⟩; simp at h; rcases l with _ | ⟨a7, l⟩; simp at h; rcases l with _ | ⟨a8, l⟩; simp at h; rcases l with _ | ⟨a9, l⟩; simp at h; rcases l with _ | ⟨a10, l⟩; simp at h; rcases l with _ | ⟨a11, l⟩; simp at h; rcases l with _ | ⟨a12, l⟩; simp at h; rcases l with _ | ⟨a13, l⟩; simp at h; rcases l with _ | ⟨a14, l⟩; simp at h; rcases l with _ | ⟨a15, l⟩; simp at h; rcases l with _ | ⟨b, l⟩; exact ⟨_, _, _, _, _, _, _, _, _, _, _, _, _, _, _, _, rfl⟩; simp at h
  have key : ∀ a : Int, 0 ≤ a ∧ a < 256 → a = e8 (BitVec.ofInt 8 a) := fun a ha => by
    obtain ⟨m, rfl⟩ := Int.eq_ofNat_of_zero_le ha.1
    simp [e8]
    omega
  exact ⟨BitVec.ofInt 8 a0, BitVec.ofInt 8 a1, BitVec.ofInt 8 a2, BitVec.ofInt 8 a3, BitVec.ofInt 8 a4, BitVec.ofInt 8 a5, BitVec.ofInt 8 a6, BitVec.ofInt 8 a7, BitVec.ofInt 8 a8, BitVec.ofInt 8 a9, BitVec.ofInt 8 a10, BitVec.ofInt 8 a11, BitVec.ofInt 8 a12, BitVec.ofInt 8 a13, BitVec.ofInt 8 a14, BitVec.ofInt 8 a15, by rw [← key a0 (hu 0), ← key a1 (hu 1), ← key a2 (hu 2), ← key a3 (hu 3), ← key a4 (hu 4), ← key a5 (hu 5), ← key a6 (hu 6), ← key a7 (hu 7), ← key a8 (hu 8), ← key a9 (hu 9), ← key a10 (hu 10), ← key a11 (hu 11), ← key a12 (hu 12), ← key a13 (hu 13), ← key a14 (hu 14), ← key a15 (hu 15)]⟩
theorem xorTo_get (a b : List Int) (k i : Nat) : (xorTo a b k).getD i 0 = if i < k ∧ i < a.length then xorK .u8 (a.getD i 0) (b.getD i 0) else a.getD i 0 := by
  induction k with
  | zero => rw [if_neg (by omega)]; rfl
  | succ k ih =>
    rw [xorTo, getD_set, xorTo_len]
    by_cases h : k = i ∧ k < a.length
    · obtain ⟨rfl, h2⟩ := h
      rw [if_pos ⟨rfl, h2⟩, if_pos ⟨by omega, h2⟩, ih, if_neg (by omega)]
    · rw [if_neg h, ih]
      by_cases h2 : i < k ∧ i < a.length
      · rw [if_pos h2, if_pos ⟨by omega, h2.2⟩]
      · rw [if_neg h2, if_neg (by omega)]
theorem xor16_get (a b : List Int) (i : Nat) (h : a.length = 16) (hi : i < 16) : (xor16 a b).getD i 0 = xorK .u8 (a.getD i 0) (b.getD i 0) := by
  unfold xor16; rw [xorTo_get, if_pos ⟨hi, by omega⟩]
theorem list_get {a b : List Int} {n : Nat} (ha : a.length = n) (hb : b.length = n) (h : ∀ k, k < n → a.getD k 0 = b.getD k 0) : a = b := by
  apply List.ext_getElem (by omega)
  intro i h1 h2
  have := h i (by omega)
  simpa [List.getD_eq_getElem?_getD, h1, h2] using this
theorem take_getD (l : List Int) (m k : Nat) (h : k < m) : (l.take m).getD k 0 = l.getD k 0 := by
  simp [List.getD_eq_getElem?_getD, List.getElem?_take, h]
theorem drop_getD (l : List Int) (m k : Nat) : (l.drop m).getD k 0 = l.getD (m + k) 0 := by
  simp [List.getD_eq_getElem?_getD, List.getElem?_drop]
def timS (a b : Int) : Nat → Int × Int
  | 0 => (0, a)
  | i + 1 => (if andK .u8 (shrK .u8 b i) 1 = 1 then xorK .u8 (timS a b i).1 (timS a b i).2 else (timS a b i).1,
      if andK .u8 (timS a b i).2 128 ≠ 0 then xorK .u8 (shlK .u8 (timS a b i).2 1) 27 else shlK .u8 (timS a b i).2 1)
def timI (a b : Int) : Int := (timS a b 8).1
def turnI (y : Int) (n : Nat) : Int := orK .u8 (shlK .u8 y n) (shrK .u8 y ((8 - n : Nat) : Int))
def fK (i : Nat) : Nat → Nat → Int
  | 0, _ => 0
  | f + 1, k => if timI i k = 1 then k else fK i f (k + 1)
def yI (i : Nat) : Int := if 0 < i then fK i 255 1 else 0
def boxV (y : Int) : Int := xorK .u8 (xorK .u8 (xorK .u8 (xorK .u8 (xorK .u8 y (turnI y 1)) (turnI y 2)) (turnI y 3)) (turnI y 4)) 99
def rbox : Nat → List Int
  | 0 => z 256
  | i + 1 => (rbox i).set i (boxV (yI i))
theorem rbox_len (i : Nat) : (rbox i).length = 256 := by
  induction i with
  | zero => exact z_len _
  | succ i ih => simp [rbox, ih]
theorem wrap_n {n : Nat} (h : n < 256) : IntKind.u8.wrap (n : Int) = (n : Int) := wrap_u8 (by omega) (by omega)
theorem xorK_n {m n : Nat} (hm : m < 256) (hn : n < 256) : xorK .u8 (m : Int) (n : Int) = ((m ^^^ n : Nat) : Int) := by
  have := xor_e (BitVec.ofNat 8 m) (BitVec.ofNat 8 n)
  simpa [e8, Nat.mod_eq_of_lt hm, Nat.mod_eq_of_lt hn] using this
theorem xor_lt {m n : Nat} (hm : m < 256) (hn : n < 256) : m ^^^ n < 256 := Nat.xor_lt_two_pow (n := 8) hm hn
def twN (a : Nat) : Nat := bif Nat.ble 128 a then (a * 2 % 256) ^^^ 27 else a * 2 % 256
theorem twN_ok : ∀ a, a < 256 → twN a < 256 ∧ (if andK .u8 (a : Nat) 128 ≠ 0 then xorK .u8 (shlK .u8 (a : Nat) 1) 27 else shlK .u8 (a : Nat) 1) = ((twN a : Nat) : Int) := by decide +kernel
theorem bit_ok : ∀ i, i < 8 → ∀ b, b < 256 → (andK .u8 (shrK .u8 (b : Nat) (i : Nat)) 1 = 1 ↔ (b >>> i) % 2 = 1) := by decide +kernel
def tG : Nat → Nat → Nat → Nat → Nat
  | 0, o, _, _ => o
  | f + 1, o, a, b => tG f (bif Nat.beq (b % 2) 1 then o ^^^ a else o) (twN a) (b >>> 1)
theorem timS_tG (a b : Nat) (ha : a < 256) (hb : b < 256) (i : Nat) (hi : i ≤ 8) : ∃ o c : Nat, o < 256 ∧ c < 256 ∧ timS a b i = ((o : Int), (c : Int)) ∧ tG (8 - i) o c (b >>> i) = tG 8 0 a b := by
  induction i with
  | zero => exact ⟨0, a, by omega, ha, rfl, rfl⟩
  | succ i ih =>
    obtain ⟨o, c, ho, hc, e1, e2⟩ := ih (by omega)
    obtain ⟨h1, h2⟩ := twN_ok c hc
    refine ⟨bif Nat.beq ((b >>> i) % 2) 1 then o ^^^ c else o, twN c, ?_, h1, ?_, ?_⟩
    · cases Nat.beq ((b >>> i) % 2) 1
      · exact ho
      · exact xor_lt ho hc
    · rw [timS, e1]
      congr 1
      by_cases h : (b >>> i) % 2 = 1
      · rw [if_pos ((bit_ok i (by omega) b hb).2 h), h]
        exact xorK_n ho hc
      · rw [if_neg fun x => h ((bit_ok i (by omega) b hb).1 x)]
        have : Nat.beq ((b >>> i) % 2) 1 = false := by
          cases hq : Nat.beq ((b >>> i) % 2) 1 with
          | false => rfl
          | true => exact absurd (Nat.eq_of_beq_eq_true hq) h
        rw [this]; rfl
    · rw [← e2, show 8 - i = (8 - (i + 1)) + 1 by omega, tG, Nat.shiftRight_succ, Nat.shiftRight_eq_div_pow _ 1]
theorem timI_tG {a b : Nat} (ha : a < 256) (hb : b < 256) : timI (a : Nat) (b : Nat) = (tG 8 0 a b : Nat) := by
  obtain ⟨o, c, _, _, e1, e2⟩ := timS_tG a b ha hb 8 (by omega)
  rw [timI, e1, ← e2]; rfl
def fN (i : Nat) : Nat → Nat → Nat
  | 0, _ => 0
  | f + 1, k => bif Nat.beq (tG 8 0 i k) 1 then k else fN i f (k + 1)
theorem fK_fN (i : Nat) (hi : i < 256) (f k : Nat) (h : k + f ≤ 256) : fK i f k = (fN i f k : Nat) := by
  induction f generalizing k with
  | zero => rfl
  | succ f ih =>
    rw [fK, fN, timI_tG hi (by omega), ih (k + 1) (by omega)]
    by_cases h1 : tG 8 0 i k = 1
    · rw [h1]; rfl
    · have : Nat.beq (tG 8 0 i k) 1 = false := by
        cases hq : Nat.beq (tG 8 0 i k) 1 with
        | false => rfl
        | true => exact absurd (Nat.eq_of_beq_eq_true hq) h1
      rw [if_neg (by omega), this]; rfl
def INV : List Nat := [0, 1, 141, 246, 203, 82, 123, 209, 232, 79, 41, 192, 176, 225, 229, 199, 116, 180, 170, 75, 153, 43, 96, 95, 88, 63, 253, 204, 255, 64, 238, 178, 58, 110, 90, 241, 85, 77, 168, 201, 193, 10, 152, 21, 48, 68, 162, 194, 44, 69, 146, 108, 243, 57, 102, 66, 242, 53, 32, 111, 119, 187, 89, 25, 29, 254, 55, 103, 45, 49, 245, 105, 167, 100, 171, 19, 84, 37, 233, 9, 237, 92, 5, 202, 76, 36, 135, 191, 24, 62, 34, 240, 81, 236, 97, 23, 22, 94, 175, 211, 73, 166, 54, 67, 244, 71, 145, 223, 51, 147, 33, 59, 121, 183, 151, 133, 16, 181, 186, 60, 182, 112, 208, 6, 161, 250, 129, 130, 131, 126, 127, 128, 150, 115, 190, 86, 155, 158, 149, 217, 247, 2, 185, 164, 222, 106, 50, 109, 216, 138, 132, 114, 42, 20, 159, 136, 249, 220, 137, 154, 251, 124, 46, 195, 143, 184, 101, 72, 38, 200, 18, 74, 206, 231, 210, 98, 12, 224, 31, 239, 17, 117, 120, 113, 165, 142, 118, 61, 189, 188, 134, 87, 11, 40, 47, 163, 218, 212, 228, 15, 169, 39, 83, 4, 27, 252, 172, 230, 122, 7, 174, 99, 197, 219, 226, 234, 148, 139, 196, 213, 157, 248, 144, 107, 177, 13, 214, 235, 198, 14, 207, 173, 8, 78, 215, 227, 93, 80, 30, 179, 91, 35, 56, 52, 104, 70, 3, 140, 221, 156, 125, 160, 205, 26, 65, 28]
theorem inv_ok : ∀ i, i < 256 → fN i 255 1 = INV.getD i 0 := by decide +kernel
theorem box_ok : ∀ i, i < 256 → boxV (if 0 < i then ((INV.getD i 0 : Nat) : Int) else 0) = SB.getD i 0 := by decide +kernel
theorem z_get (n i : Nat) : (z n).getD i 0 = 0 := by
  simp only [z, List.getD_eq_getElem?_getD, List.getElem?_replicate]
  split <;> rfl
theorem rbox_get (n i : Nat) (hi : i < 256) (hn : n ≤ 256) : (rbox n).getD i 0 = if i < n then boxV (yI i) else 0 := by
  induction n with
  | zero => rw [if_neg (by omega)]; exact z_get _ _
  | succ n ih =>
    rw [rbox, getD_set, rbox_len, ih (by omega)]
    by_cases h : n = i
    · subst h; rw [if_pos ⟨rfl, hi⟩, if_pos (by omega)]
    · rw [if_neg (fun x => h x.1)]
      by_cases h2 : i < n
      · rw [if_pos h2, if_pos (by omega)]
      · rw [if_neg h2, if_neg (by omega)]
set_option maxRecDepth 100000 in
theorem rbox_eq : rbox 256 = SB := list_get (rbox_len _) rfl fun i hi => by
  rw [rbox_get _ _ hi (by omega), if_pos hi, yI, fK_fN i hi 255 1 (by omega), inv_ok i hi]
  exact box_ok i hi
def rback : Nat → List Int
  | 0 => z 256
  | i + 1 => (rback i).set (SB.getD i 0).toNat i
theorem rback_len (i : Nat) : (rback i).length = 256 := by
  induction i with
  | zero => exact z_len _
  | succ i ih => simp [rback, ih]
set_option maxRecDepth 100000 in
theorem rback_eq : rback 256 = BK := by decide +kernel
theorem tim_e (m : Nat) (hm : m < 256) (f : BitVec 8 → BitVec 8) (h : ∀ n, n < 256 → timI (n : Nat) (m : Nat) = e8 (f (BitVec.ofNat 8 n))) (x : BitVec 8) : timI (e8 x) (m : Nat) = e8 (f x) := by
  have := h x.toNat x.isLt
  rwa [BitVec.ofNat_toNat, BitVec.setWidth_eq] at this
theorem tim2 (x : BitVec 8) : timI (e8 x) 2 = e8 (tw x) := tim_e 2 (by omega) tw (by decide +kernel) x
theorem tim3 (x : BitVec 8) : timI (e8 x) 3 = e8 (tw x ^^^ x) := tim_e 3 (by omega) (fun x => tw x ^^^ x) (by decide +kernel) x
def rrow (W : List Int) (j : Nat) : List Int := (W.drop ((j + 3) * 4)).take 4
def rkS (W x : List Int) (j : Nat) : Nat → List Int
  | 0 => W
  | k + 1 => (rkS W x j k).set ((j + 4) * 4 + k) (xorK .u8 ((rkS W x j k).getD (j * 4 + k) 0) (x.getD k 0))
theorem rkS_len (W x : List Int) (j k : Nat) : (rkS W x j k).length = W.length := by
  induction k with
  | zero => rfl
  | succ k ih => simp [rkS, ih]
def rsub (S x : List Int) (b : Int) : List Int := [xorK .u8 (S.getD (x.getD 1 0).toNat 0) b, S.getD (x.getD 2 0).toNat 0, S.getD (x.getD 3 0).toNat 0, S.getD (x.getD 0 0).toNat 0]
def rxx (S W : List Int) (j : Nat) (b : Int) : Int × List Int := if (j + 4) % 4 = 0 then (timI b 2, rsub S (rrow W j) b) else (b, rrow W j)
def rkey (key : List Int) (i : Nat) : List Int := [key.getD (4 * i) 0, key.getD (4 * i + 1) 0, key.getD (4 * i + 2) 0, key.getD (4 * i + 3) 0]
def rows (S key : List Int) : Nat → Int × List Int
  | 0 => (1, z 176)
  | i + 1 => if i < 4 then ((rows S key i).1, spl (rows S key i).2 (rkey key i) (i * 4) 4 176)
      else ((rxx S (rows S key i).2 (i - 4) (rows S key i).1).1, rkS (rows S key i).2 (rxx S (rows S key i).2 (i - 4) (rows S key i).1).2 (i - 4) 4)
theorem rows_len (S key : List Int) (i : Nat) : (rows S key i).2.length = 176 := by
  induction i with
  | zero => exact z_len _
  | succ i ih =>
    simp only [rows]
    split
    · simp [spl]
    · rw [rkS_len, ih]
theorem U8_rkS {W x : List Int} (h : U8 W) (j k : Nat) : U8 (rkS W x j k) := by
  induction k with
  | zero => exact h
  | succ k ih => exact ih.set _ (xorK_u8_range _ _)
theorem U8_rkey {key : List Int} (h : U8 key) (i : Nat) : U8 (rkey key i) := U8_mem fun x hx => by
  simp only [rkey, List.mem_cons, List.not_mem_nil, or_false] at hx
  rcases hx with rfl | rfl | rfl | rfl <;> exact h _
theorem U8_rows {S key : List Int} (hk : U8 key) (i : Nat) : U8 (rows S key i).2 := by
  induction i with
  | zero => exact U8_z _
  | succ i ih =>
    simp only [rows]
    split
    · exact U8_spl ih (U8_rkey hk _) _ _ _
    · exact U8_rkS ih _ _
theorem rows_s1 (S key : List Int) (i : Nat) (h : i < 4) : rows S key (i + 1) = ((rows S key i).1, spl (rows S key i).2 (rkey key i) (i * 4) 4 176) := by simp only [rows]; rw [if_pos h]
theorem rows_s2 (S key : List Int) (j : Nat) : rows S key (j + 4 + 1) = ((rxx S (rows S key (j + 4)).2 j (rows S key (j + 4)).1).1, rkS (rows S key (j + 4)).2 (rxx S (rows S key (j + 4)).2 j (rows S key (j + 4)).1).2 j 4) := by
  rw [rows]; rw [if_neg (by omega), Nat.add_sub_cancel]
theorem xorK_comm (a b : Int) : xorK .u8 a b = xorK .u8 b a := by
  have e : ∀ m n : Int, xorK .u8 m n = IntKind.u8.wrap ((BitVec.ofInt 8 m ^^^ BitVec.ofInt 8 n).toNat : Int) := fun _ _ => rfl
  rw [e, e, BitVec.xor_comm]
theorem rkS_get (W x : List Int) (j k m : Nat) (hk : k ≤ 4) (hl : (j + 4) * 4 + 4 ≤ W.length) : (rkS W x j k).getD m 0 = if (j + 4) * 4 ≤ m ∧ m < (j + 4) * 4 + k then xorK .u8 (W.getD (j * 4 + (m - (j + 4) * 4)) 0) (x.getD (m - (j + 4) * 4) 0) else W.getD m 0 := by
  induction k generalizing m with
  | zero => rw [if_neg (by omega)]; rfl
  | succ k ih =>
    rw [rkS, getD_set, rkS_len, ih _ (by omega), ih _ (by omega), if_neg (show ¬ ((j + 4) * 4 ≤ j * 4 + k ∧ j * 4 + k < (j + 4) * 4 + k) by omega)]
    by_cases h : (j + 4) * 4 + k = m
    · subst h
      rw [if_pos ⟨rfl, by omega⟩, if_pos (by omega), Nat.add_sub_cancel_left]
    · rw [if_neg (fun e => h e.1)]
      by_cases h2 : (j + 4) * 4 ≤ m ∧ m < (j + 4) * 4 + k
      · rw [if_pos h2, if_pos (by omega)]
      · rw [if_neg h2, if_neg (by omega)]
theorem kw_inv (was wd K : List Int) (n' i : Nat) (hw : wd.length = 4) (hK : n' * 16 + 16 ≤ K.length) (hi : i ≤ 16) :
    (∀ m, (m < n' * 16 ∨ n' * 16 + i ≤ m) → (kw was wd K n' i).2.getD m 0 = K.getD m 0) ∧
    (∀ c, c < i → (kw was wd K n' i).2.getD (n' * 16 + c) 0 = xorK .u8 (if c < 4 then wd.getD c 0 else (kw was wd K n' i).2.getD (n' * 16 + c - 4) 0) (was.getD c 0)) ∧
    (∀ j, j < 4 → (kw was wd K n' i).1.getD j 0 = if i ≤ j then wd.getD j 0 else (kw was wd K n' i).2.getD (n' * 16 + (i - 1 - (i - 1 - j) % 4)) 0) := by
  induction i with
  | zero => exact ⟨fun _ _ => rfl, fun c hc => by omega, fun j _ => by rw [if_pos (by omega)]; rfl⟩
  | succ i ih =>
    obtain ⟨h1, h2, h3⟩ := ih (by omega)
    have lD := (kw_len was wd K n' i).1
    have lL := (kw_len was wd K n' i).2
    simp only [kw]
    generalize (kw was wd K n' i).1 = D at *
    generalize (kw was wd K n' i).2 = L at *
    have e1 : (D.set (i % 4) (xorK .u8 (D.getD (i % 4) 0) (was.getD i 0))).getD (i % 4) 0 = xorK .u8 (D.getD (i % 4) 0) (was.getD i 0) := by rw [getD_set, if_pos ⟨rfl, by omega⟩]
    rw [e1]
    have hv : D.getD (i % 4) 0 = if i < 4 then wd.getD i 0 else L.getD (n' * 16 + i - 4) 0 := by
      rw [h3 _ (by omega)]
      by_cases h4 : i < 4
      · rw [if_pos (by omega), if_pos h4, Nat.mod_eq_of_lt h4]
      · rw [if_neg (by omega), if_neg h4, show n' * 16 + (i - 1 - (i - 1 - i % 4) % 4) = n' * 16 + i - 4 by omega]
    generalize hvv : xorK .u8 (D.getD (i % 4) 0) (was.getD i 0) = v at *
    refine ⟨fun m hm => ?_, fun c hc => ?_, fun j hj => ?_⟩
    · rw [getD_set, if_neg (by omega), h1 m (by omega)]
    · have hin : (if c < 4 then wd.getD c 0 else (L.set (n' * 16 + i) v).getD (n' * 16 + c - 4) 0) = if c < 4 then wd.getD c 0 else L.getD (n' * 16 + c - 4) 0 := by
        split
        · rfl
        · rw [getD_set, if_neg (by omega)]
      rw [hin, getD_set]
      by_cases h5 : c = i
      · subst h5
        rw [if_pos ⟨rfl, by omega⟩, ← hvv, hv]
      · rw [if_neg (by omega), h2 c (by omega)]
    · rw [getD_set, getD_set]
      by_cases h5 : i % 4 = j
      · rw [if_pos ⟨h5, by omega⟩, if_neg (by omega), if_pos ⟨by omega, by omega⟩]
      · rw [if_neg (fun e => h5 e.1), h3 j hj]
        by_cases h6 : i ≤ j
        · rw [if_pos h6, if_pos (by omega)]
        · rw [if_neg h6, if_neg (by omega), if_neg (by omega), show n' * 16 + (i + 1 - 1 - (i + 1 - 1 - j) % 4) = n' * 16 + (i - 1 - (i - 1 - j) % 4) by omega]
theorem spl_get (xs ys : List Int) (i n m k : Nat) (hk : k < m) : (spl xs ys i n m).getD k 0 = if i ≤ k ∧ k < i + n then ys.getD (k - i) 0 else xs.getD k 0 := by
  simp [spl, List.getD_eq_getElem?_getD, hk]
theorem rkey_get (key : List Int) (i k : Nat) (hk : k < 4) : (rkey key i).getD k 0 = key.getD (4 * i + k) 0 := by
  match k, hk with
  | 0, _ => rfl
  | 1, _ => rfl
  | 2, _ => rfl
  | 3, _ => rfl
theorem rows_4 (S key : List Int) : rows S key 4 = ks S key 0 := by
  rw [rows_s1 S key 3 (by omega), rows_s1 S key 2 (by omega), rows_s1 S key 1 (by omega), rows_s1 S key 0 (by omega)]
  refine Prod.ext rfl (list_get (n := 176) (by simp [spl]) (by simp [ks, spl]) fun m hm => ?_)
  show (spl (spl (spl (spl (z 176) (rkey key 0) (0 * 4) 4 176) (rkey key 1) (1 * 4) 4 176) (rkey key 2) (2 * 4) 4 176) (rkey key 3) (3 * 4) 4 176).getD m 0 = (spl (z 176) key 0 16 176).getD m 0
  rw [spl_get _ _ _ _ _ _ hm, spl_get _ _ _ _ _ _ hm, spl_get _ _ _ _ _ _ hm, spl_get _ _ _ _ _ _ hm, spl_get _ _ _ _ _ _ hm]
  by_cases h3 : 3 * 4 ≤ m ∧ m < 3 * 4 + 4
  · rw [if_pos h3, if_pos (by omega), rkey_get _ _ _ (by omega), show 4 * 3 + (m - 3 * 4) = m - 0 by omega]
  rw [if_neg h3]
  by_cases h2 : 2 * 4 ≤ m ∧ m < 2 * 4 + 4
  · rw [if_pos h2, if_pos (by omega), rkey_get _ _ _ (by omega), show 4 * 2 + (m - 2 * 4) = m - 0 by omega]
  rw [if_neg h2]
  by_cases h1 : 1 * 4 ≤ m ∧ m < 1 * 4 + 4
  · rw [if_pos h1, if_pos (by omega), rkey_get _ _ _ (by omega), show 4 * 1 + (m - 1 * 4) = m - 0 by omega]
  rw [if_neg h1]
  by_cases h0 : 0 * 4 ≤ m ∧ m < 0 * 4 + 4
  · rw [if_pos h0, if_pos (by omega), rkey_get _ _ _ (by omega), show 4 * 0 + (m - 0 * 4) = m - 0 by omega]
  rw [if_neg h0, if_neg (by omega)]
theorem rrow_get (W : List Int) (j k : Nat) (hk : k < 4) : (rrow W j).getD k 0 = W.getD ((j + 3) * 4 + k) 0 := by
  rw [rrow, take_getD _ _ _ hk, drop_getD]
theorem kwas_get (K : List Int) (n i : Nat) (hi : i < 16) : (kwas K n).getD i 0 = K.getD (n * 16 + i) 0 := by
  rw [kwas, take_getD _ _ _ hi, drop_getD]
theorem rsub_word (S K : List Int) (n : Nat) (b : Int) (c : Nat) (hc : c < 4) : (rsub S (rrow K (4 * n)) b).getD c 0 = (word S K n b).getD c 0 := by
  have e : ∀ k, k < 4 → (rrow K (4 * n)).getD k 0 = (kwas K n).getD (12 + k) 0 := fun k hk => by
    rw [rrow_get _ _ _ hk, kwas_get _ _ _ (by omega), show (4 * n + 3) * 4 + k = n * 16 + (12 + k) by omega]
  match c, hc with
  | 0, _ => show xorK .u8 (S.getD ((rrow K (4 * n)).getD 1 0).toNat 0) b = xorK .u8 (S.getD ((kwas K n).getD 13 0).toNat 0) b; rw [e 1 (by omega)]
  | 1, _ => show S.getD ((rrow K (4 * n)).getD 2 0).toNat 0 = S.getD ((kwas K n).getD 14 0).toNat 0; rw [e 2 (by omega)]
  | 2, _ => show S.getD ((rrow K (4 * n)).getD 3 0).toNat 0 = S.getD ((kwas K n).getD 15 0).toNat 0; rw [e 3 (by omega)]
  | 3, _ => show S.getD ((rrow K (4 * n)).getD 0 0).toNat 0 = S.getD ((kwas K n).getD 12 0).toNat 0; rw [e 0 (by omega)]
theorem rxx_0 (S W : List Int) (j : Nat) (b : Int) (h : (j + 4) % 4 = 0) : rxx S W j b = (timI b 2, rsub S (rrow W j) b) := if_pos h
theorem rxx_1 (S W : List Int) (j : Nat) (b : Int) (h : ¬ (j + 4) % 4 = 0) : rxx S W j b = (b, rrow W j) := if_neg h
theorem rows_round (S K : List Int) (n : Nat) (b : Int) (hK : K.length = 176) (hn : n < 10) (x0 : List Int) (hx : ∀ c, c < 4 → x0.getD c 0 = (word S K n b).getD c 0) (W1 W2 W3 W4 : List Int)
    (e1 : W1 = rkS K x0 (4 * n) 4) (e2 : W2 = rkS W1 (rrow W1 (4 * n + 1)) (4 * n + 1) 4) (e3 : W3 = rkS W2 (rrow W2 (4 * n + 2)) (4 * n + 2) 4) (e4 : W4 = rkS W3 (rrow W3 (4 * n + 3)) (4 * n + 3) 4) :
    W4 = (kw (kwas K n) (word S K n b) K (n + 1) 16).2 := by
  have l1 : W1.length = 176 := by rw [e1, rkS_len, hK]
  have l2 : W2.length = 176 := by rw [e2, rkS_len, l1]
  have l3 : W3.length = 176 := by rw [e3, rkS_len, l2]
  have l4 : W4.length = 176 := by rw [e4, rkS_len, l3]
  obtain ⟨k1, k2, _⟩ := kw_inv (kwas K n) (word S K n b) K (n + 1) 16 rfl (by omega) (by omega)
  have lk : (kw (kwas K n) (word S K n b) K (n + 1) 16).2.length = 176 := by rw [(kw_len _ _ _ _ _).2, hK]
  generalize (kw (kwas K n) (word S K n b) K (n + 1) 16).2 = L at *
  have g1 := fun m => rkS_get K x0 (4 * n) 4 m (by omega) (by omega)
  have g2 := fun m => rkS_get W1 (rrow W1 (4 * n + 1)) (4 * n + 1) 4 m (by omega) (by omega)
  have g3 := fun m => rkS_get W2 (rrow W2 (4 * n + 2)) (4 * n + 2) 4 m (by omega) (by omega)
  have g4 := fun m => rkS_get W3 (rrow W3 (4 * n + 3)) (4 * n + 3) 4 m (by omega) (by omega)
  rw [← e1] at g1
  rw [← e2] at g2
  rw [← e3] at g3
  rw [← e4] at g4
  have old1 : ∀ m, m < (n + 1) * 16 → W1.getD m 0 = K.getD m 0 := fun m h => by rw [g1, if_neg (by omega)]
  have old2 : ∀ m, m < (n + 1) * 16 → W2.getD m 0 = K.getD m 0 := fun m h => by rw [g2, if_neg (by omega), old1 m h]
  have old3 : ∀ m, m < (n + 1) * 16 → W3.getD m 0 = K.getD m 0 := fun m h => by rw [g3, if_neg (by omega), old2 m h]
  have r1 : ∀ c, c < 4 → W1.getD ((n + 1) * 16 + c) 0 = L.getD ((n + 1) * 16 + c) 0 := fun c hc => by
    rw [g1, if_pos (by omega), k2 c (by omega), if_pos hc, show (n + 1) * 16 + c - (4 * n + 4) * 4 = c by omega, hx c hc, kwas_get _ _ _ (by omega), xorK_comm, show 4 * n * 4 + c = n * 16 + c by omega]
  have r2 : ∀ c, c < 4 → W2.getD ((n + 1) * 16 + 4 + c) 0 = L.getD ((n + 1) * 16 + 4 + c) 0 := fun c hc => by
    rw [g2, if_pos (by omega), show (n + 1) * 16 + 4 + c = (n + 1) * 16 + (4 + c) by omega, k2 (4 + c) (by omega), if_neg (by omega), show (n + 1) * 16 + (4 + c) - (4 * n + 1 + 4) * 4 = c by omega, rrow_get _ _ _ hc, show (4 * n + 1 + 3) * 4 + c = (n + 1) * 16 + c by omega, r1 c hc, old1 _ (by omega), kwas_get _ _ _ (by omega), xorK_comm, show (4 * n + 1) * 4 + c = n * 16 + (4 + c) by omega, show (n + 1) * 16 + (4 + c) - 4 = (n + 1) * 16 + c by omega]
  have r3 : ∀ c, c < 4 → W3.getD ((n + 1) * 16 + 8 + c) 0 = L.getD ((n + 1) * 16 + 8 + c) 0 := fun c hc => by
    rw [g3, if_pos (by omega), show (n + 1) * 16 + 8 + c = (n + 1) * 16 + (8 + c) by omega, k2 (8 + c) (by omega), if_neg (by omega), show (n + 1) * 16 + (8 + c) - (4 * n + 2 + 4) * 4 = c by omega, rrow_get _ _ _ hc, show (4 * n + 2 + 3) * 4 + c = (n + 1) * 16 + 4 + c by omega, r2 c hc, old2 _ (by omega), kwas_get _ _ _ (by omega), xorK_comm, show (4 * n + 2) * 4 + c = n * 16 + (8 + c) by omega, show (n + 1) * 16 + (8 + c) - 4 = (n + 1) * 16 + 4 + c by omega]
  have r4 : ∀ c, c < 4 → W4.getD ((n + 1) * 16 + 12 + c) 0 = L.getD ((n + 1) * 16 + 12 + c) 0 := fun c hc => by
    rw [g4, if_pos (by omega), show (n + 1) * 16 + 12 + c = (n + 1) * 16 + (12 + c) by omega, k2 (12 + c) (by omega), if_neg (by omega), show (n + 1) * 16 + (12 + c) - (4 * n + 3 + 4) * 4 = c by omega, rrow_get _ _ _ hc, show (4 * n + 3 + 3) * 4 + c = (n + 1) * 16 + 8 + c by omega, r3 c hc, old3 _ (by omega), kwas_get _ _ _ (by omega), xorK_comm, show (4 * n + 3) * 4 + c = n * 16 + (12 + c) by omega, show (n + 1) * 16 + (12 + c) - 4 = (n + 1) * 16 + 8 + c by omega]
  refine list_get l4 lk fun m hm => ?_
  by_cases ha : m < (n + 1) * 16 ∨ (n + 1) * 16 + 16 ≤ m
  · rw [k1 m ha, g4, if_neg (by omega), g3, if_neg (by omega), g2, if_neg (by omega), g1, if_neg (by omega)]
  · by_cases h1 : m < (n + 1) * 16 + 4
    · have := r1 (m - (n + 1) * 16) (by omega)
      rw [show (n + 1) * 16 + (m - (n + 1) * 16) = m by omega] at this
      rw [← this, g4, if_neg (by omega), g3, if_neg (by omega), g2, if_neg (by omega)]
    · by_cases h2 : m < (n + 1) * 16 + 8
      · have := r2 (m - ((n + 1) * 16 + 4)) (by omega)
        rw [show (n + 1) * 16 + 4 + (m - ((n + 1) * 16 + 4)) = m by omega] at this
        rw [← this, g4, if_neg (by omega), g3, if_neg (by omega)]
      · by_cases h3 : m < (n + 1) * 16 + 12
        · have := r3 (m - ((n + 1) * 16 + 8)) (by omega)
          rw [show (n + 1) * 16 + 8 + (m - ((n + 1) * 16 + 8)) = m by omega] at this
          rw [← this, g4, if_neg (by omega)]
        · have := r4 (m - ((n + 1) * 16 + 12)) (by omega)
          rw [show (n + 1) * 16 + 12 + (m - ((n + 1) * 16 + 12)) = m by omega] at this
          rw [this]
theorem ks_by (S key : List Int) (n : Nat) : ∃ x, (ks S key n).1 = e8 x := by
  induction n with
  | zero => exact ⟨1, rfl⟩
  | succ n ih =>
    obtain ⟨x, hx⟩ := ih
    exact ⟨tw x, by rw [show (ks S key (n + 1)).1 = twiceI (ks S key n).1 from rfl, hx, twice_e]⟩
theorem rows_ks (S key : List Int) (n : Nat) (hn : n ≤ 10) : rows S key (4 * n + 4) = ks S key n := by
  induction n with
  | zero => exact rows_4 S key
  | succ n ih =>
    have ih := ih (by omega)
    obtain ⟨x, hx⟩ := ks_by S key n
    have s1 := rows_s2 S key (4 * n)
    have s2 := rows_s2 S key (4 * n + 1)
    have s3 := rows_s2 S key (4 * n + 2)
    have s4 := rows_s2 S key (4 * n + 3)
    rw [ih, rxx_0 _ _ _ _ (by omega)] at s1
    rw [rxx_1 _ _ _ _ (by omega), show 4 * n + 1 + 4 = 4 * n + 4 + 1 by omega] at s2
    rw [rxx_1 _ _ _ _ (by omega), show 4 * n + 2 + 4 = 4 * n + 4 + 1 + 1 by omega] at s3
    rw [rxx_1 _ _ _ _ (by omega), show 4 * n + 3 + 4 = 4 * n + 4 + 1 + 1 + 1 by omega] at s4
    rw [show 4 * (n + 1) + 4 = 4 * n + 4 + 1 + 1 + 1 + 1 by omega]
    have hr := rows_round S (ks S key n).2 n (ks S key n).1 (ks_len S key n) (by omega) (rsub S (rrow (ks S key n).2 (4 * n)) (ks S key n).1) (fun c hc => rsub_word _ _ _ _ c hc) _ _ _ _ rfl rfl rfl rfl
    have hb : timI (ks S key n).1 2 = twiceI (ks S key n).1 := by rw [hx, tim2, twice_e]
    rw [s4, s3, s2, s1]
    show (_, _) = (twiceI (ks S key n).1, _)
    rw [← hr, hb]
theorem rows_eq (key : List Int) : (rows SB key 44).2 = keysOf key := by
  unfold keysOf
  rw [← rows_ks SB key 10 (by omega)]
def rx0 (b W : List Int) : Nat → List Int
  | 0 => b
  | i + 1 => (rx0 b W i).set i (xorK .u8 ((rx0 b W i).getD i 0) (W.getD (i / 4 * 4 + i % 4) 0))
def rxn (b W : List Int) (n : Nat) : Nat → List Int
  | 0 => b
  | i + 1 => (rxn b W n i).set i (xorK .u8 ((rxn b W n i).getD i 0) (W.getD ((4 * n + i / 4) * 4 + i % 4) 0))
def rset (b c W : List Int) (n : Nat) : Nat → List Int
  | 0 => b
  | i + 1 => (rset b c W n i).set i (xorK .u8 (c.getD i 0) (W.getD ((4 * n + i / 4) * 4 + i % 4) 0))
theorem rx0_len (b W : List Int) (i : Nat) : (rx0 b W i).length = b.length := by
  induction i with
  | zero => rfl
  | succ i ih => simp [rx0, ih]
theorem rset_len (b c W : List Int) (n i : Nat) : (rset b c W n i).length = b.length := by
  induction i with
  | zero => rfl
  | succ i ih => simp [rset, ih]
theorem rx0_to (b W : List Int) (i : Nat) (hi : i ≤ 16) : rx0 b W i = xorTo b (kwas W 0) i := by
  induction i with
  | zero => rfl
  | succ i ih => rw [rx0, xorTo, ih (by omega), kwas_get _ _ _ (by omega), show i / 4 * 4 + i % 4 = 0 * 16 + i by omega]
theorem rx0_eq (b W : List Int) : rx0 b W 16 = xor16 b (kwas W 0) := by rw [rx0_to _ _ _ (by omega)]; unfold xor16; rfl
theorem rset_get (b c W : List Int) (n i m : Nat) (hb : b.length = 16) (hi : i ≤ 16) : (rset b c W n i).getD m 0 = if m < i then xorK .u8 (c.getD m 0) ((kwas W n).getD m 0) else b.getD m 0 := by
  induction i with
  | zero => rw [if_neg (by omega)]; rfl
  | succ i ih =>
    rw [rset, getD_set, rset_len, ih (by omega)]
    by_cases h : i = m
    · subst h
      rw [if_pos ⟨rfl, by omega⟩, if_pos (by omega), kwas_get _ _ _ (by omega), show (4 * n + i / 4) * 4 + i % 4 = n * 16 + i by omega]
    · rw [if_neg (fun e => h e.1)]
      by_cases h2 : m < i
      · rw [if_pos h2, if_pos (by omega)]
      · rw [if_neg h2, if_neg (by omega)]
theorem rset_eq (b c W : List Int) (n : Nat) (hb : b.length = 16) (hc : c.length = 16) : rset b c W n 16 = xor16 c (kwas W n) :=
  list_get ((rset_len _ _ _ _ _).trans hb) ((xor16_len _ _).trans hc) fun m hm => by
    rw [rset_get _ _ _ _ _ _ hb (by omega), if_pos hm, xor16_get _ _ _ hc hm]
def rmix1 (b : List Int) (k : Nat) (p q r t : Int) : List Int := (((b.set (4 * k) (xorK .u8 (xorK .u8 (xorK .u8 (timI p 2) (timI q 3)) r) t)).set (4 * k + 1) (xorK .u8 (xorK .u8 (xorK .u8 p (timI q 2)) (timI r 3)) t)).set (4 * k + 2) (xorK .u8 (xorK .u8 (xorK .u8 p q) (timI r 2)) (timI t 3))).set (4 * k + 3) (xorK .u8 (xorK .u8 (xorK .u8 (timI p 3) q) r) (timI t 2))
def rmixN (b : List Int) : Nat → List Int
  | 0 => b
  | k + 1 => rmix1 (rmixN b k) k ((rmixN b k).getD (4 * k) 0) ((rmixN b k).getD (4 * k + 1) 0) ((rmixN b k).getD (4 * k + 2) 0) ((rmixN b k).getD (4 * k + 3) 0)
theorem rmixN_len (b : List Int) (k : Nat) : (rmixN b k).length = b.length := by
  induction k with
  | zero => rfl
  | succ k ih => simp [rmixN, rmix1, ih]
theorem rmixN_16 (a0 a1 a2 a3 a4 a5 a6 a7 a8 a9 a10 a11 a12 a13 a14 a15 : Int) : rmixN [a0, a1, a2, a3, a4, a5, a6, a7, a8, a9, a10, a11, a12, a13, a14, a15] 4 = [xorK .u8 (xorK .u8 (xorK .u8 (timI a0 2) (timI a1 3)) a2) a3, xorK .u8 (xorK .u8 (xorK .u8 a0 (timI a1 2)) (timI a2 3)) a3, xorK .u8 (xorK .u8 (xorK .u8 a0 a1) (timI a2 2)) (timI a3 3), xorK .u8 (xorK .u8 (xorK .u8 (timI a0 3) a1) a2) (timI a3 2), xorK .u8 (xorK .u8 (xorK .u8 (timI a4 2) (timI a5 3)) a6) a7, xorK .u8 (xorK .u8 (xorK .u8 a4 (timI a5 2)) (timI a6 3)) a7, xorK .u8 (xorK .u8 (xorK .u8 a4 a5) (timI a6 2)) (timI a7 3), xorK .u8 (xorK .u8 (xorK .u8 (timI a4 3) a5) a6) (timI a7 2), xorK .u8 (xorK .u8 (xorK .u8 (timI a8 2) (timI a9 3)) a10) a11, xorK .u8 (xorK .u8 (xorK .u8 a8 (timI a9 2)) (timI a10 3)) a11, xorK .u8 (xorK .u8 (xorK .u8 a8 a9) (timI a10 2)) (timI a11 3), xorK .u8 (xorK .u8 (xorK .u8 (timI a8 3) a9) a10) (timI a11 2), xorK .u8 (xorK .u8 (xorK .u8 (timI a12 2) (timI a13 3)) a14) a15, xorK .u8 (xorK .u8 (xorK .u8 a12 (timI a13 2)) (timI a14 3)) a15, xorK .u8 (xorK .u8 (xorK .u8 a12 a13) (timI a14 2)) (timI a15 3), xorK .u8 (xorK .u8 (xorK .u8 (timI a12 3) a13) a14) (timI a15 2)] := by
  have s := fun b k => show rmixN b (k + 1) = rmix1 (rmixN b k) k ((rmixN b k).getD (4 * k) 0) ((rmixN b k).getD (4 * k + 1) 0) ((rmixN b k).getD (4 * k + 2) 0) ((rmixN b k).getD (4 * k + 3) 0) from rfl
  have h0 : rmixN [a0, a1, a2, a3, a4, a5, a6, a7, a8, a9, a10, a11, a12, a13, a14, a15] 1 = [xorK .u8 (xorK .u8 (xorK .u8 (timI a0 2) (timI a1 3)) a2) a3, xorK .u8 (xorK .u8 (xorK .u8 a0 (timI a1 2)) (timI a2 3)) a3, xorK .u8 (xorK .u8 (xorK .u8 a0 a1) (timI a2 2)) (timI a3 3), xorK .u8 (xorK .u8 (xorK .u8 (timI a0 3) a1) a2) (timI a3 2), a4, a5, a6, a7, a8, a9, a10, a11, a12, a13, a14, a15] := by
    rw [s]
    rw [show rmixN [a0, a1, a2, a3, a4, a5, a6, a7, a8, a9, a10, a11, a12, a13, a14, a15] 0 = [a0, a1, a2, a3, a4, a5, a6, a7, a8, a9, a10, a11, a12, a13, a14, a15] from rfl]
    rfl
  have h1 : rmixN [a0, a1, a2, a3, a4, a5, a6, a7, a8, a9, a10, a11, a12, a13, a14, a15] 2 = [xorK .u8 (xorK .u8 (xorK .u8 (timI a0 2) (timI a1 3)) a2) a3, xorK .u8 (xorK .u8 (xorK .u8 a0 (timI a1 2)) (timI a2 3)) a3, xorK .u8 (xorK .u8 (xorK .u8 a0 a1) (timI a2 2)) (timI a3 3), xorK .u8 (xorK .u8 (xorK .u8 (timI a0 3) a1) a2) (timI a3 2), xorK .u8 (xorK .u8 (xorK .u8 (timI a4 2) (timI a5 3)) a6) a7, xorK .u8 (xorK .u8 (xorK .u8 a4 (timI a5 2)) (timI a6 3)) a7, xorK .u8 (xorK .u8 (xorK .u8 a4 a5) (timI a6 2)) (timI a7 3), xorK .u8 (xorK .u8 (xorK .u8 (timI a4 3) a5) a6) (timI a7 2), a8, a9, a10, a11, a12, a13, a14, a15] := by
    rw [s]
    rw [h0]
    rfl
  have h2 : rmixN [a0, a1, a2, a3, a4, a5, a6, a7, a8, a9, a10, a11, a12, a13, a14, a15] 3 = [xorK .u8 (xorK .u8 (xorK .u8 (timI a0 2) (timI a1 3)) a2) a3, xorK .u8 (xorK .u8 (xorK .u8 a0 (timI a1 2)) (timI a2 3)) a3, xorK .u8 (xorK .u8 (xorK .u8 a0 a1) (timI a2 2)) (timI a3 3), xorK .u8 (xorK .u8 (xorK .u8 (timI a0 3) a1) a2) (timI a3 2), xorK .u8 (xorK .u8 (xorK .u8 (timI a4 2) (timI a5 3)) a6) a7, xorK .u8 (xorK .u8 (xorK .u8 a4 (timI a5 2)) (timI a6 3)) a7, xorK .u8 (xorK .u8 (xorK .u8 a4 a5) (timI a6 2)) (timI a7 3), xorK .u8 (xorK .u8 (xorK .u8 (timI a4 3) a5) a6) (timI a7 2), xorK .u8 (xorK .u8 (xorK .u8 (timI a8 2) (timI a9 3)) a10) a11, xorK .u8 (xorK .u8 (xorK .u8 a8 (timI a9 2)) (timI a10 3)) a11, xorK .u8 (xorK .u8 (xorK .u8 a8 a9) (timI a10 2)) (timI a11 3), xorK .u8 (xorK .u8 (xorK .u8 (timI a8 3) a9) a10) (timI a11 2), a12, a13, a14, a15] := by
    rw [s]
    rw [h1]
    rfl
  have h3 : rmixN [a0, a1, a2, a3, a4, a5, a6, a7, a8, a9, a10, a11, a12, a13, a14, a15] 4 = [xorK .u8 (xorK .u8 (xorK .u8 (timI a0 2) (timI a1 3)) a2) a3, xorK .u8 (xorK .u8 (xorK .u8 a0 (timI a1 2)) (timI a2 3)) a3, xorK .u8 (xorK .u8 (xorK .u8 a0 a1) (timI a2 2)) (timI a3 3), xorK .u8 (xorK .u8 (xorK .u8 (timI a0 3) a1) a2) (timI a3 2), xorK .u8 (xorK .u8 (xorK .u8 (timI a4 2) (timI a5 3)) a6) a7, xorK .u8 (xorK .u8 (xorK .u8 a4 (timI a5 2)) (timI a6 3)) a7, xorK .u8 (xorK .u8 (xorK .u8 a4 a5) (timI a6 2)) (timI a7 3), xorK .u8 (xorK .u8 (xorK .u8 (timI a4 3) a5) a6) (timI a7 2), xorK .u8 (xorK .u8 (xorK .u8 (timI a8 2) (timI a9 3)) a10) a11, xorK .u8 (xorK .u8 (xorK .u8 a8 (timI a9 2)) (timI a10 3)) a11, xorK .u8 (xorK .u8 (xorK .u8 a8 a9) (timI a10 2)) (timI a11 3), xorK .u8 (xorK .u8 (xorK .u8 (timI a8 3) a9) a10) (timI a11 2), xorK .u8 (xorK .u8 (xorK .u8 (timI a12 2) (timI a13 3)) a14) a15, xorK .u8 (xorK .u8 (xorK .u8 a12 (timI a13 2)) (timI a14 3)) a15, xorK .u8 (xorK .u8 (xorK .u8 a12 a13) (timI a14 2)) (timI a15 3), xorK .u8 (xorK .u8 (xorK .u8 (timI a12 3) a13) a14) (timI a15 2)] := by
    rw [s]
    rw [h2]
    rfl
  exact h3
def rimix1 (b : List Int) (k : Nat) (p q r t : Int) : List Int := (((b.set (4 * k) (xorK .u8 (xorK .u8 (xorK .u8 (timI p 14) (timI q 11)) (timI r 13)) (timI t 9))).set (4 * k + 1) (xorK .u8 (xorK .u8 (xorK .u8 (timI p 9) (timI q 14)) (timI r 11)) (timI t 13))).set (4 * k + 2) (xorK .u8 (xorK .u8 (xorK .u8 (timI p 13) (timI q 9)) (timI r 14)) (timI t 11))).set (4 * k + 3) (xorK .u8 (xorK .u8 (xorK .u8 (timI p 11) (timI q 13)) (timI r 9)) (timI t 14))
def rimixN (b : List Int) : Nat → List Int
  | 0 => b
  | k + 1 => rimix1 (rimixN b k) k ((rimixN b k).getD (4 * k) 0) ((rimixN b k).getD (4 * k + 1) 0) ((rimixN b k).getD (4 * k + 2) 0) ((rimixN b k).getD (4 * k + 3) 0)
theorem rc0 (a b c d : BitVec 8) : tw a ^^^ (tw b ^^^ b) ^^^ c ^^^ d = (a ^^^ ((a ^^^ b ^^^ c ^^^ d) ^^^ tw (a ^^^ b))) := by
  simp [tw_xor, BitVec.xor_assoc, BitVec.xor_comm, b_lc, b_sl]
theorem rc1 (a b c d : BitVec 8) : a ^^^ tw b ^^^ (tw c ^^^ c) ^^^ d = (b ^^^ ((a ^^^ b ^^^ c ^^^ d) ^^^ tw (b ^^^ c))) := by
  simp [tw_xor, BitVec.xor_assoc, BitVec.xor_comm, b_lc, b_sl]
theorem rc2 (a b c d : BitVec 8) : a ^^^ b ^^^ tw c ^^^ (tw d ^^^ d) = (c ^^^ ((a ^^^ b ^^^ c ^^^ d) ^^^ tw (c ^^^ d))) := by
  simp [tw_xor, BitVec.xor_assoc, BitVec.xor_comm, b_lc, b_sl]
theorem rc3 (a b c d : BitVec 8) : (tw a ^^^ a) ^^^ b ^^^ c ^^^ tw d = (d ^^^ ((a ^^^ b ^^^ c ^^^ d) ^^^ tw (d ^^^ a))) := by
  simp [tw_xor, BitVec.xor_assoc, BitVec.xor_comm, b_lc, b_sl]
theorem rmix_eq {l : List Int} (h : l.length = 16) (hu : U8 l) : rmixN l 4 = mixI l := by
  obtain ⟨x0, x1, x2, x3, x4, x5, x6, x7, x8, x9, x10, x11, x12, x13, x14, x15, rfl⟩ := V_of h hu
  rw [rmixN_16, mixI_16]
  simp only [tim2, tim3, mx_e, xor_e, rc0, rc1, rc2, rc3]
end Go.Proofs.X
end

section
/- What is literal is what it says: two operands, both literal, and what the model makes of them. No program. -/
namespace Go.Bx
def SV.litV : SV → Option Value
  | .int k n => some (.int k n)
  | .bool b => some (.bool b)
  | .nilp => some (.pointer none)
  | .nils => some (.slice none 0 0)
  | .val u => some u
  | _ => none
def litVS : List Seg → Option (List Value)
  | [] => some []
  | .one v :: r => match v.litV, litVS r with
    | some x, some l => some (x :: l)
    | _, _ => none
  | .ints k n l :: r => match litVS r with
    | some q => some ((List.range n).map (fun i => Value.int k (l.getD i 0)) ++ q)
    | none => none
  | .rows .. :: _ => none
def AV.litV : AV → Option Value
  | .s v => v.litV
  | .agg l => (litVS l).map fun c => .agg c.toArray
  | .tup _ => none
section rules
variable {P : Program} {T : Tm} {H : Heap} {d : Option Tmp} {ty : TypeId} {pos : String} {af : Array Edge} {g : Option (Nat × Bool)}
end rules
end Go.Bx
end

section
/- Slices of memory within slices; copies of whatever length; parts of frozen structs as slices. No program. -/
namespace Go.Bx
theorem LOk.wide {P : Program} {o : Oper} {T : Tm} {H H' : Heap} {v : AV} {F M F' M' : List Nat} (h : LOk P o T H H' v F M) (hF : ∀ id ∈ F, id ∈ F') (hM : ∀ id ∈ M, id ∈ M') (hs : ∀ id ∈ M', id ∈ F') (hl : ∀ id ∈ F', id < H.length) : LOk P o T H H' v F' M' := by
  refine ⟨h.len, fun id hi hn => h.keep id hi fun hm => hn (hM id hm), hs, hl, ?_⟩
  intro W ρ a w hH hfr hW ho
  rw [msk_len, msk_len] at hfr
  refine (h.frame (c := hget (msk F' H.length H)) hH (fun id hi _ => by rw [hget_msk, if_pos (.inl (hF id hi))]) hfr hW ho).mono fun v' w' ⟨ρ', W', hn, hv⟩ => ⟨ρ', W', ?_, hv⟩
  rw [msk_len, msk_len]
  refine (?_ : (fun id => if id ∈ M ∨ (H.length ≤ id ∧ id < H'.length) then hget H' id else hget (msk F' H.length H) id) = hget (msk F' H.length H')) ▸ hn
  funext id
  rw [hget_msk, hget_msk]
  by_cases h1 : id ∈ M
  · rw [if_pos (.inl h1), if_pos (.inl (hs id (hM id h1)))]
  · by_cases h2 : H.length ≤ id
    · by_cases h3 : id < H'.length
      · rw [if_pos (.inr ⟨h2, h3⟩), if_pos (.inr h2)]
      · rw [if_neg (fun e => e.elim h1 fun e => h3 e.2), if_pos (.inr h2), if_pos (.inr h2), hget_ge h2, hget_ge (by omega)]
    · rw [if_neg (fun e => e.elim h1 fun e => h2 e.1)]
      by_cases h4 : id ∈ F'
      · rw [if_pos (.inl h4), if_pos (.inl h4), h.keep id (by omega) h1]
      · rw [if_neg (fun e => e.elim h4 h2), if_neg (fun e => e.elim h4 h2)]
section
variable {P : Program} {T : Tm} {H : Heap} {d : Option Tmp} {ty : TypeId} {pos : String} {af : Array Edge} {g : Option (Nat × Bool)}
end
section
variable {P : Program} {T : Tm} {H : Heap} {d : Option Tmp} {ty : TypeId} {pos : String} {af : Array Edge} {g : Option (Nat × Bool)}
end
end Go.Bx
end

section
/- Constants' bytes, marked; bytes as strings; what an operation gives, told otherwise. No program. -/
namespace Go.Bx
theorem LOk.conv {P : Program} {o : Oper} {T : Tm} {H H' : Heap} {v v' : AV} {F M R : List Nat} (h : LOk P o T H H' v F M) (hc : AConv R H' v v') (hR : ∀ id ∈ R, id ∈ F ∨ H.length ≤ id) : LOk P o T H H' v' F M := by
  refine ⟨h.len, h.keep, h.sub, h.lt, ?_⟩
  intro W ρ a w hH hfr hW ho
  refine (h.run W ρ a w hH hfr hW ho).mono fun u w' ⟨ρ', W', hn, hv⟩ => ⟨ρ', W', hn, ?_⟩
  refine hc _ W' ρ' w' u (fun id hi => ?_) hn.rep hv
  rw [hget_msk, if_pos (hR id hi)]
theorem LOk.drop {P : Program} {o : Oper} {T : Tm} {H H' : Heap} {v : AV} {F M : List Nat} {id : Nat} (h : LOk P o T H H' v F M) (hi : id ∈ M) : LOk P o T H (H'.set id none) v F M := by
  have hl := h.lt id (h.sub id hi)
  have hl' : id < H'.length := Nat.lt_of_lt_of_le hl h.len
  refine ⟨by simpa using h.len, fun j hj hn => ?_, h.sub, h.lt, ?_⟩
  · rw [hget_set hl', if_neg (fun e => hn (by rw [e]; exact hi)), h.keep j hj hn]
  · intro W ρ a w hH hfr hW ho
    rw [msk_len, msk_len, List.length_set] at hfr
    refine (h.run W ρ a w hH (by rw [msk_len, msk_len]; exact hfr) hW ho).mono fun u w' ⟨ρ', W', hn, hv⟩ => ⟨ρ', W', ?_, hv⟩
    rw [msk_len, msk_len] at hn
    rw [msk_len, msk_len, List.length_set]
    refine ⟨hn.le, hn.old, hn.rep.sub fun j k e => ?_, hn.fr, hn.sub, hn.fresh, hn.fzn⟩
    rw [hget_msk] at e ⊢
    split at e
    · rename_i h1
      rw [hget_set hl'] at e
      split at e
      · cases e
      · rw [if_pos h1]; exact e
    · cases e
theorem freeze_at {w : World} {b n : Nat} {cells : Array Value} {t : TypeId} (h : w.heap[b]? = some (.cells cells t (0, 0))) : (w.freeze ⟨b, n, none⟩ 1).heap[b]? = some (.cells cells t (n, n + 1)) := by
  unfold World.freeze
  rw [if_neg (by decide)]
  obtain ⟨hl, hk⟩ := Array.getElem?_eq_some_iff.1 h
  show (w.heap.modify b _)[b]? = _
  rw [Array.getElem?_eq_getElem (by simpa using hl), Array.getElem_modify_self, hk]
  rfl
theorem freeze_other {w : World} {b n k : Nat} (h : k ≠ b) : (w.freeze ⟨b, n, none⟩ 1).heap[k]? = w.heap[k]? := by
  unfold World.freeze
  rw [if_neg (by decide)]
  show (w.heap.modify b _)[k]? = _
  rw [Array.getElem?_modify, if_neg (fun e => h e.symm)]
theorem freeze_size {w : World} {b n : Nat} : (w.freeze ⟨b, n, none⟩ 1).heap.size = w.heap.size := by
  unfold World.freeze
  rw [if_neg (by decide)]
  show (w.heap.modify b _).size = _
  simp
theorem HRep.mark {W : Nat → Prop} {ρ : Rho} {h : Nat → Option Blk} {w : World} {b n : Nat} {cells : Array Value} {t : TypeId} (hH : HRep W ρ h w) (hb : w.heap[b]? = some (.cells cells t (0, 0))) (hW : ¬ W b) : HRep W ρ h (w.freeze ⟨b, n, none⟩ 1) := by
  have hat : ∀ k cs t' fr, w.heap[k]? = some (Obj.cells cs t' fr) → ∃ t2 f2, (w.freeze ⟨b, n, none⟩ 1).heap[k]? = some (Obj.cells cs t2 f2) := fun k cs t' fr e => by
    by_cases hk : k = b
    · subst hk
      rw [hb] at e
      cases e
      exact ⟨_, _, freeze_at hb⟩
    · exact ⟨t', fr, by rw [freeze_other hk]; exact e⟩
  refine ⟨fun id b' o e => by rw [freeze_size]; exact hH.lt id b' o e, fun id b' o k e1 e2 => ?_, hH.apart, fun b' cs e => ?_, fun b' m e => ?_⟩
  · obtain ⟨⟨c2, t2, f2, k1, k2, k3, k4⟩, k5⟩ := hH.rep id b' o k e1 e2
    refine ⟨?_, k5⟩
    by_cases hbb : b' = b
    · subst hbb
      obtain ⟨t3, f3, k6⟩ := hat _ _ _ _ k1
      exact ⟨c2, t3, f3, k6, fun e => absurd (k5 e) hW, k3, k4⟩
    · exact ⟨c2, t2, f2, by rw [freeze_other hbb]; exact k1, k2, k3, k4⟩
  · obtain ⟨h1, t2, f2, h2⟩ := hH.fz b' cs e
    obtain ⟨t3, f3, h3⟩ := hat _ _ _ _ h2
    exact ⟨h1, t3, f3, h3⟩
  · obtain ⟨cs, t2, f2, h2, h3⟩ := hH.sz b' m e
    obtain ⟨t3, f3, h4⟩ := hat _ _ _ _ h2
    exact ⟨cs, t3, f3, h4, h3⟩
section
variable {P : Program} {T : Tm} {H : Heap} {d : Option Tmp} {ty : TypeId} {pos : String} {af : Array Edge} {g : Option (Nat × Bool)}
end
end Go.Bx
end

section
/- Rows: literal slices of structs, rows put behind rows, integers behind integers. No program. -/
namespace Go.Bx
theorem Joins.rows {n m wd q : Nat} {g g2 g' : Nat → Nat → SV} (hw : 0 < wd) (hq : n ≤ q) (hg : ∀ i j, i < n → j < wd → g' i j = g i j) (hn : ∀ i j, i < m → j < wd → g' (n + i) j = g2 i j) : Joins [.rows q wd g] (n * wd) [.rows m wd g2] (m * wd) [.rows (n + m) wd g'] := by
  refine ⟨by simp [sizeS, Seg.size, Nat.add_mul], fun i y hy => ?_⟩
  have hs1 : (Seg.rows (n + m) wd g').size = (n + m) * wd := rfl
  have hs2 : (Seg.rows q wd g).size = q * wd := rfl
  have hs3 : (Seg.rows m wd g2).size = m * wd := rfl
  have hy' : i < (n + m) * wd ∧ y = .noid (g' (i / wd) (i % wd)) := by
    simp only [atS] at hy
    rw [hs1] at hy
    by_cases hi : i < (n + m) * wd
    · rw [if_pos hi] at hy; exact ⟨hi, (Option.some.inj hy).symm⟩
    · rw [if_neg hi] at hy; cases hy
  obtain ⟨hi, rfl⟩ := hy'
  have hm := Nat.mod_lt i hw
  have hdm := Nat.div_add_mod i wd
  refine ⟨fun h1 => ?_, fun h1 => ?_⟩
  · have hd : i / wd < n := Nat.div_lt_of_lt_mul (by rwa [Nat.mul_comm])
    refine ⟨_, ?_, .inl rfl⟩
    have : i < q * wd := Nat.lt_of_lt_of_le h1 (Nat.mul_le_mul_right wd hq)
    simp only [atS]
    rw [if_pos (by rw [hs2]; exact this)]
    simp only [Seg.at, hg _ _ hd hm]
  · have h3 : n ≤ i / wd := (Nat.le_div_iff_mul_le hw).2 h1
    have h2 : i / wd < n + m := Nat.div_lt_of_lt_mul (by rwa [Nat.mul_comm])
    obtain ⟨k, hk⟩ : ∃ k, i / wd = n + k := ⟨i / wd - n, by omega⟩
    have hkm : k < m := by omega
    have he : i - n * wd = k * wd + i % wd := by
      rw [hk, Nat.mul_comm, Nat.add_mul] at hdm; omega
    refine ⟨_, ?_, .inl rfl⟩
    rw [he]
    simp only [atS]
    rw [if_pos (by rw [hs3]; exact row_lt hkm hm)]
    simp only [Seg.at, (row_div hm).1, (row_div hm).2, hk, hn k _ hkm hm]
theorem flatS_app : ∀ (A B : List Seg), flatS (A ++ B) = flatS A ++ flatS B
  | [], B => rfl
  | .one v :: r, B => by simp [flatS, flatS_app r B]
  | .ints k n l :: r, B => by simp [flatS, flatS_app r B]
  | .rows n w g :: r, B => by simp [flatS, flatS_app r B]
theorem lensOk_app : ∀ (A B : List Seg), lensOk (A ++ B) = (lensOk A && lensOk B)
  | [], B => by simp [lensOk]
  | .one v :: r, B => by simp [lensOk, lensOk_app r B]
  | .ints k n l :: r, B => by simp [lensOk, lensOk_app r B, Bool.and_assoc]
  | .rows n w g :: r, B => by simp [lensOk, lensOk_app r B]
theorem all2_app : ∀ {a c : List SV} {b d : List Value}, all2 a b = true → all2 c d = true → all2 (a ++ c) (b ++ d) = true
  | [], _, [], _, _, h => h
  | [], _, _ :: _, _, h, _ => by simp [all2] at h
  | _ :: _, _, [], _, h, _ => by simp [all2] at h
  | x :: r, c, v :: s, d, h, k => by
    simp only [all2, Bool.and_eq_true] at h
    simp only [List.cons_append, all2, Bool.and_eq_true]
    exact ⟨h.1, all2_app h.2 k⟩
theorem rowOk_rep_n {Z : List Seg} {cs : Array Value} (h : rowOk Z cs = true) (n : Nat) : rowOk (List.replicate n Z).flatten ((List.replicate n cs.toList).flatten.toArray) = true := by
  simp only [rowOk, Bool.and_eq_true] at h ⊢
  induction n with
  | zero => exact ⟨rfl, rfl⟩
  | succ n ih =>
    rw [List.replicate_succ, List.replicate_succ, List.flatten_cons, List.flatten_cons]
    refine ⟨by rw [lensOk_app, h.1, ih.1]; rfl, ?_⟩
    rw [flatS_app]
    exact all2_app h.2 ih.2
theorem range_rep (cs : Array Value) (n : Nat) : ((Array.range (n * cs.size)).map fun i => cs[i % cs.size]!) = (List.replicate n cs.toList).flatten.toArray := by
  apply Array.ext'
  rw [Array.toList_map, Array.toList_range]
  show _ = (List.replicate n cs.toList).flatten
  induction n with
  | zero => simp
  | succ n ih =>
    rw [List.replicate_succ', List.flatten_append, ← ih, Nat.succ_mul, List.range_add, List.map_append]
    congr 1
    simp only [List.flatten_cons, List.flatten_nil, List.append_nil, List.map_map]
    apply List.ext_getElem
    · simp
    · intro i h1 h2
      have hi : i < cs.size := by simpa using h1
      simp [Nat.mul_add_mod, Nat.mod_eq_of_lt hi, Nat.mul_comm n cs.size, hi]
section
variable {P : Program} {T : Tm} {H : Heap} {d : Option Tmp} {ty : TypeId} {pos : String} {af : Array Edge} {g : Option (Nat × Bool)}
theorem big_ok {n m b : Nat} (h : n + m ≤ 1000000) (hb : Nat.ble (1000000 * b) 140737488355328 = true) : (n + m) * b ≤ 140737488355328 := Nat.le_trans (Nat.mul_le_mul_right b h) (Nat.le_of_ble_eq_true hb)
end
section
variable {E : Env} {P : Program} {T : Tm} {H : Heap}
end
end Go.Bx
end

section
/- What comes in, told as values: nothing of it is written. No program. -/
namespace Go.Bx
open Go.ChangeShapes Go.WideShapes
def rhoW (w : World) : Rho := ⟨fun _ => none, fun b => match w.heap[b]? with | some (.cells cs _ _) => some cs | _ => none, fun _ => none⟩
theorem rhoW_fz {w : World} {b : Nat} {cs : Array Value} {t : TypeId} {fr : Nat × Nat} (h : w.heap[b]? = some (.cells cs t fr)) : (rhoW w).fz b = some cs := by simp [rhoW, h]
theorem hrep_w (w : World) : HRep (fun b => w.heap.size ≤ b) (rhoW w) (hget []) w := by
  refine ⟨fun id b o e => (by cases e), fun id b o k e => (by cases e), fun id id' b o o' k k' _ e => (by cases e), fun b cs e => ?_, fun b n e => (by cases e)⟩
  simp only [rhoW] at e
  split at e
  · rename_i c t fr hb
    cases e
    exact ⟨fun h => absurd (Array.getElem?_eq_some_iff.1 hb).1 (by omega), t, fr, hb⟩
  · cases e
theorem calls_con {P : Program} {f : FuncId} {args : List AV} {r : Bool} {vals : Array Value} {w : World} (h : Con P f args [] (.s (.bool r)) []) (ha : ArgsRep (rhoW w) args vals) :
    Calls P f vals w fun e w' => e = .returned (.bool r) ∧ Go.RowKit.Below w.heap.size w w' := by
  refine (h.run (fun b => w.heap.size ≤ b) (rhoW w) vals w (hrep_w w) (fun _ _ => rfl) (fun _ h => h) ha).mono ?_
  rintro e w' ⟨v', ρ', W', rfl, hn, hv⟩
  have hv : v' = .bool r := hv
  subst hv
  exact ⟨rfl, hn.fr.os, hn.fr.tape, hn.fr.output, hn.fr.size, fun k hk => hn.fr.block k hk (by omega)⟩
section
variable {Hh : Type} {enc : TypeId × Value → Hh} {P : Program} {w : World} {base : Nat} {spare : Nat → Bool} {held : Bool}
def Op (enc : TypeId × Value → Hh) (P : Program) (w : World) (base : Nat) (spare : Nat → Bool) (held : Bool) (t : TypeId) (n : Nat) (S : List Seg → Prop) : Prop :=
  P.cellsOf t = n ∧ ∀ (fuel : Nat) (cs : List Value) (x : DataW Hh × List MemPlace), DataW.trod enc P w base spare held fuel t cs = some x → ∃ segs, S segs ∧ sizeS segs = n ∧ RowRep (rhoW w) segs (fun i => cs[i]?)
def shInt (k : IntKind) : List Seg → Prop := fun s => ∃ n, (Lit.int k n).wf = true ∧ s = [.one (.int k n)]
def shBool : List Seg → Prop := fun s => ∃ b, s = [.one (.bool b)]
def shArr (k : IntKind) (m : Nat) : List Seg → Prop := fun s => ∃ l : List Int, l.length = m ∧ (∀ y ∈ l, (Lit.int k y).wf = true) ∧ s = [.ints k m l]
def shInts (k : IntKind) : List Seg → Prop := fun s => ∃ l : List Int, l.length ≤ maxLen ∧ (∀ y ∈ l, (Lit.int k y).wf = true) ∧ s = [.one (.fzi k l)]
def shRows (wd : Nat) (S : List Seg → Prop) : List Seg → Prop := fun s => ∃ (n : Nat) (rows : Nat → List Seg), n ≤ maxLen ∧ (∀ i, i < n → S (rows i) ∧ sizeS (rows i) = wd) ∧ s = [.one (.fz n wd (rowsF rows))]
def shCat : List (Nat × (List Seg → Prop)) → List Seg → Prop
  | [], s => s = []
  | (n, S) :: r, s => ∃ a b, S a ∧ sizeS a = n ∧ shCat r b ∧ s = a ++ b
def total (Ss : List (Nat × (List Seg → Prop))) : Nat := (Ss.map (·.1)).sum
theorem op_int {t : TypeId} {k : IntKind} (ht : P.underlying t = some (.int k)) (hc : P.cellsOf t = 1) : Op enc P w base spare held t 1 (shInt k) :=
  ⟨hc, fun fuel cs x h => by
    obtain ⟨n, rfl, _, hw⟩ := DataW.trod_int ht h
    refine ⟨_, ⟨n, hw, rfl⟩, rfl, fun i y hy => ?_⟩
    obtain ⟨rfl, rfl⟩ := atS_one1 hy
    exact ⟨_, rfl, rfl, rfl⟩⟩
theorem cell_blk {w : World} {a : Addr} {v : Value} (h : w.cell? a = some v) : ∃ cells t fr, w.heap[a.block]? = some (.cells cells t fr) ∧ a.spot = none ∧ cells[a.off]? = some v := by
  unfold World.cell? at h
  split at h
  · rename_i c t fr hb
    split at h
    · cases h
    · rename_i hs
      exact ⟨c, t, fr, hb, by simpa using hs, h⟩
  · cases h
theorem op_arr {t e : TypeId} {n : Nat} {k : IntKind} (ht : P.underlying t = some (.array n e)) (he : P.underlying e = some (.int k)) (hc : P.cellsOf e = 1) (hct : P.cellsOf t = n) : Op enc P w base spare held t n (shArr k n) :=
  ⟨hct, fun fuel cs x h => by
    obtain ⟨xs, m, _, _, hl, hlen, hall⟩ := DataW.trod_array ht h
    rw [hct] at hl
    have each : ∀ i, i < n → ∃ z, cs[i]? = some (.int k z) ∧ (Lit.int k z).wf = true := by
      intro i hi
      have h1 := hall i hi
      rw [hc, Nat.mul_one] at h1
      obtain ⟨y, hy⟩ : ∃ y, xs[i]? = some y := ⟨_, List.getElem?_eq_getElem (by rw [hlen]; exact hi)⟩
      rw [hy] at h1
      obtain ⟨z, hz, _, hw⟩ := DataW.trod_int he h1
      have := congrArg (·[0]?) hz
      simp [List.getElem?_drop] at this
      exact ⟨z, this, hw⟩
    have hg : ∀ (n : Nat) (cs : List Value), cs.length = n → (∀ i, i < n → ∃ z, cs[i]? = some (.int k z) ∧ (Lit.int k z).wf = true) → ∃ l : List Int, l.length = n ∧ (∀ y ∈ l, (Lit.int k y).wf = true) ∧ cs = l.map (Value.int k) := by
      intro n
      induction n with
      | zero => intro cs h _; exact ⟨[], rfl, by simp, by simpa using h⟩
      | succ n ih =>
        intro cs h hz
        cases cs with
        | nil => simp at h
        | cons c r =>
          obtain ⟨z, h1, h2⟩ := hz 0 (by omega)
          simp at h1
          subst h1
          obtain ⟨l, h3, h4, h5⟩ := ih r (by simpa using h) (fun i hi => by simpa using hz (i + 1) (by omega))
          exact ⟨z :: l, by simp [h3], by simpa [h2] using h4, by simp [h5]⟩
    obtain ⟨l, h1, h2, rfl⟩ := hg n cs hl each
    refine ⟨_, ⟨l, h1, h2, rfl⟩, by simp [sizeS, Seg.size], fun i y hy => ?_⟩
    obtain ⟨h3, rfl⟩ := atS_ints1 hy
    exact ⟨.int k (l.getD i 0), by simp [h1, h3], rfl, rfl⟩⟩
theorem add_block (a : Addr) (n : Nat) : (a.add n).block = a.block := by unfold Addr.add; split <;> rfl
theorem add_off (a : Addr) (n : Nat) : (a.add n).off = a.off + n := by unfold Addr.add; split <;> simp [*]
theorem cells_of {a : Addr} {m : Nat} {cs : List Value} (h : w.cells? base a m = some cs) (h0 : 0 < m) : ∃ cells t fr, w.heap[a.block]? = some (.cells cells t fr) ∧ a.spot = none ∧ cs.length = m ∧ ∀ j, j < m → cells[a.off + j]? = cs[j]? := by
  obtain ⟨_, h1, h2⟩ := World.cells?_some h
  have hs : ∀ j, j < m → ∃ v, cs[j]? = some v := fun j hj => ⟨_, List.getElem?_eq_getElem (by rw [h1]; exact hj)⟩
  obtain ⟨v, hv⟩ := hs 0 h0
  obtain ⟨cells, t, fr, hb, hsp, _⟩ := cell_blk ((h2 0 h0).trans hv)
  refine ⟨cells, t, fr, hb, by simpa [Addr.add] using hsp, h1, fun j hj => ?_⟩
  obtain ⟨u, hu⟩ := hs j hj
  obtain ⟨c2, t2, f2, hb2, _, h3⟩ := cell_blk ((h2 j hj).trans hu)
  rw [add_block] at hb hb2
  rw [hb] at hb2
  cases hb2
  rw [hu]
  rw [add_off] at h3
  exact h3
theorem op_rows {t e : TypeId} {m : Nat} {S : List Seg → Prop} (ht : P.underlying t = some (.slice e)) (hct : P.cellsOf t = 1) (h0 : 0 < m) (he : Op enc P w base spare held e m S) : Op enc P w base spare held t 1 (shRows m S) :=
  ⟨hct, fun fuel cs x hx => by
    rcases DataW.trod_slice ht hx with ⟨rfl, _⟩ | ⟨a, len, cap, elems, rest, n, _, rfl, _, _, hl, hm, hel, hall, _, _⟩
    · refine ⟨_, ⟨0, fun _ => [], Nat.zero_le _, fun i hi => absurd hi (Nat.not_lt_zero i), rfl⟩, rfl, fun i y hy => ?_⟩
      obtain ⟨rfl, rfl⟩ := atS_one1 hy
      exact ⟨_, rfl, .inl ⟨rfl, _, _, rfl⟩, rfl⟩
    · have each : ∀ i, i < len → ∃ segs cs, S segs ∧ sizeS segs = m ∧ RowRep (rhoW w) segs (fun j => cs[j]?) ∧ w.cells? base (a.add (i * m)) m = some cs := fun i hi => by
        have h1 := hall i hi
        rw [he.1] at h1
        obtain ⟨y, hy⟩ : ∃ y, elems[i]? = some y := ⟨_, List.getElem?_eq_getElem (by rw [hel]; exact hi)⟩
        rw [hy] at h1
        obtain ⟨cs, c1, c2⟩ := Option.bind_eq_some_iff.1 h1
        obtain ⟨segs, s1, s2, s3⟩ := he.2 _ _ _ c2
        exact ⟨segs, cs, s1, s2, s3, c1⟩
      obtain ⟨rows, hrows⟩ : ∃ rows : Nat → List Seg, ∀ i, i < len → ∃ cs, S (rows i) ∧ sizeS (rows i) = m ∧ RowRep (rhoW w) (rows i) (fun j => cs[j]?) ∧ w.cells? base (a.add (i * m)) m = some cs := by
        refine ⟨fun i => if hi : i < len then Classical.choose (each i hi) else [], fun i hi => ?_⟩
        simp only [hi, dif_pos]
        exact Classical.choose_spec (each i hi)
      refine ⟨_, ⟨len, rows, by omega, fun i hi => by obtain ⟨_, h1, h2, _⟩ := hrows i hi; exact ⟨h1, h2⟩, rfl⟩, rfl, fun i y hy => ?_⟩
      obtain ⟨rfl, rfl⟩ := atS_one1 hy
      refine ⟨_, rfl, ?_, rfl⟩
      by_cases hz : len = 0
      · exact .inl ⟨hz, some a, cap, by rw [hz]⟩
      · obtain ⟨cs0, _, _, _, c0⟩ := hrows 0 (by omega)
        obtain ⟨cells, tt, fr, hb, hsp, _, _⟩ := cells_of c0 h0
        have ha : a = ⟨a.block, a.off, none⟩ := by
          have : a.spot = none := by simpa [Addr.add] using hsp
          cases a; simp_all
        rw [add_block] at hb
        refine .inr ⟨a.block, a.off, cap, cells, by rw [← ha], hl, rhoW_fz hb, fun i j hi hj => ?_⟩
        obtain ⟨cs1, _, s2, s3, c1⟩ := hrows i hi
        obtain ⟨c2, t2, f2, hb2, _, hcl, hce⟩ := cells_of c1 h0
        rw [add_block] at hb2
        rw [hb] at hb2
        cases hb2
        obtain ⟨z, hz'⟩ := atS_some (l := rows i) (i := j) (by rw [s2]; exact hj)
        obtain ⟨u, hu, hc⟩ := s3 j z hz'
        refine ⟨u, ?_, ?_, hc.2⟩
        · have := hce j hj
          have hu : cs1[j]? = some u := hu
          rw [hu] at this
          have e : (a.add (i * m)).off = a.off + i * m := add_off _ _
          rw [e] at this
          rw [← this, Nat.add_assoc]
        · unfold rowsF cellsF
          rw [hz']
          exact hc.1⟩
theorem op_ints {t e : TypeId} {k : IntKind} (ht : P.underlying t = some (.slice e)) (he : P.underlying e = some (.int k)) (hc : P.cellsOf e = 1) (hct : P.cellsOf t = 1) : Op enc P w base spare held t 1 (shInts k) :=
  ⟨hct, fun fuel cs x hx => by
    obtain ⟨segs, ⟨n, rows, hn, hrows, rfl⟩, _, hr⟩ := (op_rows ht hct (by omega) (op_int he hc)).2 fuel cs x hx
    have hz : ∀ i, i < n → ∃ z, (Lit.int k z).wf = true ∧ rows i = [.one (.int k z)] := fun i hi => (hrows i hi).1
    obtain ⟨f, hf⟩ : ∃ f : Nat → Int, ∀ i, i < n → (Lit.int k (f i)).wf = true ∧ rows i = [.one (.int k (f i))] := by
      refine ⟨fun i => if hi : i < n then Classical.choose (hz i hi) else 0, fun i hi => ?_⟩
      simp only [hi, dif_pos]
      exact Classical.choose_spec (hz i hi)
    have hlen : ((List.range n).map f).length = n := by simp
    refine ⟨_, ⟨(List.range n).map f, by rw [hlen]; exact hn, fun y hy => ?_, rfl⟩, rfl, fun i y hy => ?_⟩
    · obtain ⟨i, hi, rfl⟩ := List.mem_map.1 hy
      exact (hf i (by simpa using hi)).1
    · obtain ⟨rfl, rfl⟩ := atS_one1 hy
      obtain ⟨v, hv, hc⟩ := hr 0 _ rfl
      refine ⟨v, hv, ?_, hc.2⟩
      rcases hc.1 with ⟨rfl, a, c, rfl⟩ | ⟨b, o, c, cs, rfl, h1, h2, h3⟩
      · exact .inl ⟨rfl, a, c, rfl⟩
      · refine .inr ⟨b, o, c, cs, by rw [hlen], by rw [hlen]; exact h1, h2, fun i hi => ?_⟩
        rw [hlen] at hi
        obtain ⟨u, e1, e2, _⟩ := h3 i 0 hi (by omega)
        rw [Nat.mul_one, Nat.add_zero] at e1
        rw [e1]
        unfold rowsF cellsF at e2
        rw [(hf i hi).2] at e2
        have e2 : u = .int k (f i) := e2
        rw [e2]
        simp [List.getD_eq_getElem?_getD, hi]⟩
theorem arg_agg {r : Reach} {b0 : Nat} {t : TypeId} {n : Nat} {S : List Seg → Prop} {v : Value} {d : DataW Hh} {ps : List MemPlace} (ho : Op enc P w base spare held t n S) (ht : (∃ fs, P.underlying t = some (.struct fs)) ∨ ∃ m e, P.underlying t = some (.array m e)) (hval : Value.okWide P w r b0 t v) (hd : DataW.Trod enc P w base spare held t v d ps) : ∃ segs, S segs ∧ (AV.agg segs).rep (rhoW w) v := by
  have hv : ∃ cs, v = .agg cs ∧ cs.size = P.cellsOf t := by
    rcases ht with ⟨fs, ht⟩ | ⟨m, e, ht⟩
    · simp only [Value.okWide, ht] at hval
      obtain ⟨cs, rfl, hs, _⟩ := hval
      exact ⟨cs, rfl, hs⟩
    · simp only [Value.okWide, ht] at hval
      obtain ⟨cs, rfl, hs, _⟩ := hval
      exact ⟨cs, rfl, hs⟩
  obtain ⟨cs, rfl, hs⟩ := hv
  obtain ⟨fuel, hf⟩ := hd
  obtain ⟨segs, s1, s2, s3⟩ := ho.2 _ _ _ hf
  refine ⟨segs, s1, cs, rfl, by rw [hs, ho.1, s2], fun i x hx => ?_⟩
  obtain ⟨u, hu, hc⟩ := s3 i x hx
  exact ⟨u, by simpa [Value.cells] using hu, hc⟩
theorem arg_one {t : TypeId} {S : List Seg → Prop} {v : Value} {d : DataW Hh} {ps : List MemPlace} (ho : Op enc P w base spare held t 1 S) (hv : v.cells = #[v]) (hS : ∀ segs, S segs → ∃ x, segs = [.one x]) (hd : DataW.Trod enc P w base spare held t v d ps) : ∃ x, S [.one x] ∧ (AV.s x).rep (rhoW w) v := by
  obtain ⟨fuel, hf⟩ := hd
  obtain ⟨segs, s1, s2, s3⟩ := ho.2 _ _ _ hf
  obtain ⟨x, rfl⟩ := hS segs s1
  obtain ⟨u, hu, hc⟩ := s3 0 x rfl
  rw [hv] at hu
  simp at hu
  subst hu
  exact ⟨x, s1, hc.1⟩
theorem one_ints {k : IntKind} (s : List Seg) (h : shInts k s) : ∃ x, s = [.one x] := by obtain ⟨l, _, _, rfl⟩ := h; exact ⟨_, rfl⟩
end
theorem cells_slice {P : Program} {w : World} {r : Reach} {b0 : Nat} {t e : TypeId} {v : Value} (ht : P.underlying t = some (.slice e)) (hval : Value.okWide P w r b0 t v) : v.cells = #[v] := by
  simp only [Value.okWide, ht] at hval
  cases v <;> first | rfl | (simp [Cell.okWide, Cell.ok, ht] at hval)
theorem args_nil {ρ : Rho} : ArgsRep ρ [] #[] := ⟨rfl, fun i x h => by simp at h⟩
theorem args_cons {ρ : Rho} {a : AV} {av : List AV} {u : Value} {us : List Value} (h : a.rep ρ u) (k : ArgsRep ρ av us.toArray) : ArgsRep ρ (a :: av) (u :: us).toArray := by
  obtain ⟨k1, k2⟩ := k
  refine ⟨by simpa using k1, fun i x hx => ?_⟩
  cases i with
  | zero => simp at hx; subst hx; simpa using h
  | succ i =>
    have := k2 i x (by simpa using hx)
    simpa [Array.getD_eq_getD_getElem?] using this
theorem wf_u8 {y : Int} (h : (Lit.int .u8 y).wf = true) : 0 ≤ y ∧ y < 256 := by
  simp [Lit.wf, IntKind.min, IntKind.max, IntKind.signed, IntKind.bits] at h; omega
theorem wf_getD {k : IntKind} {l : List Int} (h : ∀ y ∈ l, (Lit.int k y).wf = true) (i : Nat) : (Lit.int k (l.getD i 0)).wf = true := by
  by_cases hi : i < l.length
  · rw [List.getD_eq_getElem?_getD, List.getElem?_eq_getElem hi]; exact h _ (List.getElem_mem _)
  · rw [List.getD_eq_getElem?_getD, List.getElem?_eq_none (by omega)]; cases k <;> rfl
end Go.Bx
end

section
/- How long what comes in is. No program. -/
namespace Go.Bx
section
open Go.ChangeShapes
variable {Hh : Type} {enc : TypeId × Value → Hh} {P : Program} {w : World} {base : Nat} {spare : Nat → Bool} {held : Bool}
theorem open_size {t e : TypeId} {v : Value} {d : DataW Hh} {ps : List MemPlace} {ts : List TypeId} {ds : List (DataW Hh)} {j : Nat} (ht : P.underlying t = some (.slice e)) (hb : 1 ≤ P.bytesOf e) (hsz : (DataW.weightsEach P ts ds).all (· ≤ reachBytes) = true) (hts : ts[j]? = some t) (hds : ds[j]? = some d)
    (hd : DataW.Trod enc P w base spare held t v d ps) : ∀ a n c, v = .slice a n c → n ≤ 140737488351232 := by
  rintro a n c rfl
  obtain ⟨fuel, hf⟩ := hd
  have hf : DataW.trod enc P w base spare held fuel t [Value.slice a n c] = some (d, ps) := hf
  rcases DataW.trod_slice ht hf with ⟨hcs, _⟩ | ⟨a', len, cap, elems, rest, m, _, hcs, hx, _, _, _, hel, _⟩
  · simp at hcs; omega
  · simp at hcs
    obtain ⟨_, rfl, _⟩ := hcs
    have hd : d = .slice (elems.map (·.1)) (rest.map (·.1)) := (congrArg Prod.fst hx)
    subst hd
    have h1 := sized_slice hsz hts hds ht
    have h2 : reachBytes = 140737488351232 := rfl
    have h3 : n ≤ ((elems.map (·.1)).length + (rest.map (·.1)).length) * P.bytesOf e := by
      rw [List.length_map, hel]
      exact Nat.le_trans (Nat.le_add_right _ _) (Nat.le_mul_of_pos_right _ hb)
    omega
end
end Go.Bx
end

section
/- A string's bytes, one by one. No program. -/
namespace Go.Bx
section
variable {P : Program} {T : Tm} {H : Heap} {d : Option Tmp} {ty : TypeId} {pos : String} {af : Array Edge} {g : Option (Nat × Bool)}
end
end Go.Bx
end

section
/- Function values that catch no numbers; methods bound to what is literal. No program. -/
namespace Go.Bx
section
variable {P : Program} {T : Tm} {H : Heap} {d : Option Tmp} {ty : TypeId} {pos : String} {af : Array Edge} {g : Option (Nat × Bool)}
def numS : List Seg → Bool
  | [] => true
  | .ints .. :: r => numS r
  | _ => false
def valOf (l : List Seg) : Value := match litVS l with | some c => .agg c.toArray | none => .nilIface
end
end Go.Bx
end

section
/- What grows by noughts; what has grown, cut. No program. -/
namespace Go.Bx
section
variable {P : Program} {T : Tm} {H : Heap} {d : Option Tmp} {ty : TypeId} {pos : String} {af : Array Edge} {g : Option (Nat × Bool)}
theorem Joins.intsT {k : IntKind} {n m q : Nat} {l l2 : List Int} (h : l.length = q) (hn : n ≤ q) : Joins [.ints k q l] n [.ints k m l2] m [.ints k (n + m) (l.take n ++ l2)] := by
  obtain ⟨h1, h2⟩ := Joins.ints (k := k) (m := m) (q := n) (l2 := l2) (show (l.take n).length = n by rw [List.length_take]; omega) (Nat.le_refl n)
  refine ⟨h1, fun i y hy => ⟨fun hi => ?_, (h2 i y hy).2⟩⟩
  obtain ⟨z, hz, he⟩ := (h2 i y hy).1 hi
  obtain ⟨hi1, rfl⟩ := atS_ints1 hz
  refine ⟨_, ?_, he⟩
  have hs : (Seg.ints k q l).size = q := rfl
  simp only [atS]
  rw [if_pos (by rw [hs]; omega)]
  show some (SV.int k (l.getD i 0)) = some (SV.int k ((l.take n).getD i 0))
  rw [List.getD_eq_getElem?_getD, List.getD_eq_getElem?_getD, List.getElem?_take_of_lt hi]
theorem k_apg {x y : Operand} {t tx e rt : TypeId} {id n c n0 q : Nat} {k : IntKind} {l l2 l' : List Int} {inf : TypeInfo} {z : Value} {H' : Heap} [hu : Und P t (.slice e)] [hux : Und P tx (.slice e)] [hi : Inf P e inf] [hN : LenN H n0] (hx : ev T x = .s (.gro id 1 n) := by rfl) (hy : ev T y = .s (.fzi k l2) := by rfl) (hb : hget H id = some ⟨true, [.ints k q l]⟩ := by rfl) (hl : l.length = q := by first | assumption | omega | simp [*]) (hsz : inf.size = 1 := by exact rfl) (hz : inf.zero = some z := by exact rfl) (hzs : z.cells.size = 1 := by exact rfl) (hq : n ≤ q := by omega) (hc : n + l2.length = c := by rfl) (hl' : l.take n ++ l2 = l' := by rfl) (hbig : n + l2.length ≤ 1000000 := by omega) (hbb : Nat.ble (1000000 * inf.bytes) 140737488355328 = true := by exact rfl) (hb1 : 0 < inf.bytes := by exact Nat.le_of_ble_eq_true rfl) (hH : H.set id none ++ [some (Blk.mk true [.ints k c l'])] = H' := by exact rfl) :
    LOk P ⟨d, .call ⟨.builtin .append, #[x, y], #[t, tx]⟩, rt, pos, af, g⟩ T H H' (.s (.gro n0 1 c)) [id] [id] := by
  subst hc; subst hl'
  refine a_app (sub := [.ints k l2.length l2]) hx hy hb hsz hz hzs (asrc_fzi hux.h) (by simp [sizeS, Seg.size]; omega) ?_ (big_ok hbig hbb) hb1 (fun _ h => by cases h) hN.h hH
  rw [Nat.mul_one, Nat.mul_one]
  exact .intsT hl hq
end
end Go.Bx
end

section
/- Rows made, copied into rows, put behind rows where there is room. No program. -/
namespace Go.Bx
theorem atS_rows1 {c : Nat} {g : Nat → Nat → SV} {j : Nat} {y : SV} (h : atS [.rows c 1 g] j = some y) : j < c ∧ y = .noid (g j 0) := by
  have hs : (Seg.rows c 1 g).size = c * 1 := rfl
  simp only [atS] at h
  rw [hs, Nat.mul_one] at h
  by_cases hj : j < c
  · rw [if_pos hj] at h
    have h := Option.some.inj h
    simp only [Seg.at, Nat.div_one, Nat.mod_one] at h
    exact ⟨hj, h.symm⟩
  · rw [if_neg hj] at h; cases h
theorem rows1_at {c : Nat} (g : Nat → Nat → SV) {j : Nat} (h : j < c) : atS [.rows c 1 g] j = some (.noid (g j 0)) := by
  have hs : (Seg.rows c 1 g).size = c * 1 := rfl
  simp only [atS]
  rw [hs, Nat.mul_one, if_pos h]
  simp only [Seg.at, Nat.div_one, Nat.mod_one]
theorem PutS.rows {m p c : Nat} {g g2 g' : Nat → Nat → SV} (h0 : 0 < m) (hc : p + m ≤ c) (hg : ∀ i, i < m → g' (p + i) 0 = g2 i 0) (hg2 : ∀ i, ¬(p ≤ i ∧ i < p + m) → i < c → g' i 0 = g i 0) : PutS [.rows c 1 g] p m [.rows m 1 g2] [.rows c 1 g'] := by
  refine ⟨⟨h0, by simpa [sizeS, Seg.size] using hc⟩, fun j y hy => ?_⟩
  obtain ⟨hj, rfl⟩ := atS_rows1 hy
  split
  · rename_i h
    rw [rows1_at g2 (show j - p < m by omega), ← hg (j - p) (by omega), show p + (j - p) = j by omega]
  · rename_i h
    rw [rows1_at g hj, hg2 j h hj]
section
variable {P : Program} {T : Tm} {H : Heap} {d : Option Tmp} {ty : TypeId} {pos : String} {af : Array Edge} {g : Option (Nat × Bool)}
end
end Go.Bx
end

section
/- Slices compared with nil; what is empty, nil or not. No program. -/
namespace Go.Bx
section
variable {P : Program} {T : Tm} {H : Heap} {d : Option Tmp} {ty : TypeId} {pos : String} {af : Array Edge} {g : Option (Nat × Bool)}
end
end Go.Bx
end

section
/- Empty slices, made and put behind. No program. -/
namespace Go.Bx
section
variable {P : Program} {T : Tm} {H : Heap} {d : Option Tmp} {ty : TypeId} {pos : String} {af : Array Edge} {g : Option (Nat × Bool)}
end
end Go.Bx
end

section
/- A full slice of integers, and integers behind it: a new row. No program. -/
namespace Go.Bx
section
variable {P : Program} {T : Tm} {H : Heap} {d : Option Tmp} {ty : TypeId} {pos : String} {af : Array Edge} {g : Option (Nat × Bool)}
theorem l_apf {x y : Operand} {t tx e rt : TypeId} {id base idx len n0 : Nat} {k : IntKind} {segs : List Seg} {l l2 : List Int} {inf : TypeInfo} {H' : Heap} (hx : ev T x = .s (.slice id base idx len len)) (hy : ev T y = .s (.fzi k l2)) (hb : hget H id = some ⟨true, segs⟩) (hsub : SubS segs (base + idx) (len * 1) [.ints k len l]) (hl : l.length = len)
    (hu : P.underlying t = some (.slice e)) (htn : P.underlying tx = some (.slice e)) (hi : P.info? e = some inf) (hsz : inf.size = 1) (hz : inf.zero = some (.int k 0)) (h0 : 0 < l2.length) (hbig : (len + l2.length) * inf.bytes ≤ 140737488355328) (hb1 : 0 < inf.bytes) (hn : H.length = n0) (hH : H ++ [some (Blk.mk true [.ints k (len + l2.length) (l ++ l2)])] = H') :
    LOk P ⟨d, .call ⟨.builtin .append, #[x, y], #[t, tx]⟩, rt, pos, af, g⟩ T H H' (.s (.gro n0 1 (len + l2.length))) [id] [] := by
  subst hH
  have hlt := hget_lt hb
  refine lok_new [id] (fun j h => by simp at h; subst h; exact hlt) fun H0 hl0 hg0 => ?_
  subst hn
  intro W ρ a w hH hf hW ho next Q hq
  have k1 : (ev T x).rep ρ (a.eval x) := ho x (by simp [Op.operands, Call.operands])
  have k2 : (ev T y).rep ρ (a.eval y) := ho y (by simp [Op.operands, Call.operands])
  rw [hx] at k1
  rw [hy] at k2
  obtain ⟨_, hsrc⟩ := asrc_sl (P := P) (cap := len) hu (id := id) (H := H) (base := base) (idx := idx) (n := len) (size := 1) hb hsub
  obtain ⟨olds, hS0, hnr0, _⟩ := hsrc _ W ρ w _ (fun j hj => hg0 j hj) hH k1
  obtain ⟨news, hS, hnr, _⟩ := (asrc_fzi (P := P) (H := H) (k := k) (l := l2) htn).2 _ W ρ w _ (fun _ h => by cases h) hH k2
  obtain ⟨b, o, hρ, hev⟩ := k1
  have hol : olds.length = len := by have := hS0.newsLen; omega
  have hnl : news.length = l2.length := by have := hS.newsLen; omega
  have hold := hS0.cellsD
  rw [hev] at hold
  have h63 : ((len + l2.length : Nat) : Int) ≤ 9223372036854775807 := by
    have : len + l2.length ≤ (len + l2.length) * inf.bytes := Nat.le_mul_of_pos_right _ hb1
    omega
  have hS' : Src P inf.size tx (a.eval y) l2.length news w := by rw [hsz]; exact hS
  have hr := run_append_grow_src (P := P) w t tx rt e inf (.int k 0) hu hi hz (some ⟨b, o + base + idx, none⟩) len len olds (by rw [hsz]; exact hold) _ l2.length news hS' (by omega) h63 (growslice_fits (by omega) hbig)
  generalize hcap : grownCap w (len + l2.length) len e = cap at hr
  have hcap' : len + l2.length ≤ cap := hcap ▸ grownCap_ge w _ _ _
  have hrun : (execOp a.eval ⟨d, .call ⟨.builtin .append, #[x, y], #[t, tx]⟩, rt, pos, af, g⟩).run P w = .ok (.value (.slice (some ⟨w.heap.size, 0, none⟩) (len + l2.length) cap)) (w.drew.alloc (.cells ((olds ++ news).toArray ++ Builtin.zeroCells (Value.int k 0).cells (cap - (len + l2.length))) e)) := by
    simp only [execOp, resolve, invoke, builtin, List.map_toArray, List.map_cons, List.map_nil, hev]
    simp [Sem.run_bind, hr]
  rw [hrun]
  generalize hcells : (olds ++ news).toArray ++ Builtin.zeroCells (Value.int k 0).cells (cap - (len + l2.length)) = cells
  have hHd : HRep W ρ (hget H0) w.drew := hH.ext (.drew w)
  have hsize : cells.size = cap := by
    rw [← hcells]; simp [Builtin.zeroCells, hnl, hol, Value.cells]; omega
  obtain ⟨ρ', k3, k4, k5⟩ := nx_alloc (t := e) (w := w.drew) (H0 := H0) (cells := cells) (segs := [.ints k (len + l2.length) (l ++ l2)]) hHd (hf _ (Nat.le_refl _) (by simp)) (fun b hb => hW b hb) (fun ρ' hle i z hz => by
    obtain ⟨hi2, rfl⟩ := atS_ints1 hz
    have hcell : ∀ v, (olds ++ news)[i]? = some v → cells[i]? = some v := fun v hv => by
      have hi' := (List.getElem?_eq_some_iff.1 hv).1
      rw [← hcells, Array.getElem?_append_left (by simpa using hi')]
      simpa using hv
    rcases Nat.lt_or_ge i len with h | h
    · obtain ⟨v, hv, hc⟩ := hnr0 i (.int k (l.getD i 0)) (by simp [atS, Seg.size, Seg.at, h])
      have hv' : v = .int k (l.getD i 0) := hc.1
      subst hv'
      refine ⟨.int k (l.getD i 0), hcell _ (by rw [List.getElem?_append_left (by omega)]; exact hv), ?_, rfl⟩
      show _ = _
      rw [List.getD_eq_getElem?_getD, List.getD_eq_getElem?_getD, List.getElem?_append_left (by omega)]
    · obtain ⟨v, hv, hc⟩ := hnr (i - len) (.int k (l2.getD (i - len) 0)) (by simp only [atS]; rw [if_pos (by show i - len < l2.length; omega)]; rfl)
      have hv' : v = .int k (l2.getD (i - len) 0) := hc.1
      subst hv'
      refine ⟨.int k (l2.getD (i - len) 0), hcell _ (by rw [List.getElem?_append_right (by omega), hol]; exact hv), ?_, rfl⟩
      show _ = _
      rw [List.getD_eq_getElem?_getD, List.getD_eq_getElem?_getD, List.getElem?_append_right (by omega), hl])
  refine hq _ _ ⟨ρ', W, ?_, .inr ⟨w.heap.size, 0, cap, cells.size, ?_, rfl, hcap', k5, by rw [hsize]; omega⟩⟩
  · exact ⟨k3.le, k3.old, k3.rep, ((Ext.drew w).fr W).trans k3.fr, k3.sub, k3.fresh, k3.fzn⟩
  · rw [← hl0]; exact k4
theorem k_apf {x y : Operand} {t tx e rt : TypeId} {id len c n0 : Nat} {k : IntKind} {l l2 l' : List Int} {inf : TypeInfo} {H' : Heap} [hu : Und P t (.slice e)] [htn : Und P tx (.slice e)] [hi : Inf P e inf] [hN : LenN H n0] (hx : ev T x = .s (.slice id 0 0 len len) := by rfl) (hy : ev T y = .s (.fzi k l2) := by rfl) (hb : hget H id = some ⟨true, [.ints k len l]⟩ := by rfl) (hl : l.length = len := by first | assumption | omega | simp [*]) (hsz : inf.size = 1 := by exact rfl) (hz : inf.zero = some (.int k 0) := by exact rfl) (h0 : 0 < l2.length := by omega) (hc : len + l2.length = c := by rfl) (hl' : l ++ l2 = l' := by rfl) (hbig : len + l2.length ≤ 1000000 := by omega) (hbb : Nat.ble (1000000 * inf.bytes) 140737488355328 = true := by exact rfl) (hb1 : 0 < inf.bytes := by exact Nat.le_of_ble_eq_true rfl) (hH : H ++ [some (Blk.mk true [.ints k c l'])] = H' := by repeat (first | exact happ_0 | apply happ_s)) :
    LOk P ⟨d, .call ⟨.builtin .append, #[x, y], #[t, tx]⟩, rt, pos, af, g⟩ T H H' (.s (.gro n0 1 c)) [id] [] := by
  subst hc; subst hl'
  exact l_apf hx hy hb (by rw [Nat.mul_one]; exact .whole (by simp [sizeS, Seg.size])) hl hu.h htn.h hi.h hsz hz h0 (big_ok hbig hbb) hb1 hN.h hH
end
end Go.Bx
end

section
/- Plain function values, told as closures that catch nothing. No program. -/
namespace Go.Bx
end Go.Bx
end

section
/- Rows of several cells that may be written: made, put behind, copied, cleared, set; their overlaps. No program. -/
namespace Go.Bx
section
variable {P : Program} {T : Tm} {H : Heap} {d : Option Tmp} {ty : TypeId} {pos : String} {af : Array Edge} {g : Option (Nat × Bool)}
end
end Go.Bx
end

section
/- Rows built to be written; one of their cells set; frozen; two rows' overlaps. No program. -/
namespace Go.Bx
section
variable {E : Env} {P : Program} {T : Tm} {H : Heap} {d : Option Tmp} {ty : TypeId} {pos : String} {af : Array Edge} {g : Option (Nat × Bool)}
end
end Go.Bx
end

section
/- Rows put behind rows out of other memory; a struct's field. No program. -/
namespace Go.Bx
section
variable {P : Program} {T : Tm} {H : Heap} {d : Option Tmp} {ty : TypeId} {pos : String} {af : Array Edge} {g : Option (Nat × Bool)}
end
end Go.Bx
end

section
/- Noughts behind what has grown. No program. -/
namespace Go.Bx
section
variable {P : Program} {T : Tm} {H : Heap} {d : Option Tmp} {ty : TypeId} {pos : String} {af : Array Edge} {g : Option (Nat × Bool)}
end
end Go.Bx
end

section
/- Noughts made, as values; noughts behind nothing. No program. -/
namespace Go.Bx
section
variable {P : Program} {T : Tm} {H : Heap} {d : Option Tmp} {ty : TypeId} {pos : String} {af : Array Edge} {g : Option (Nat × Bool)}
end
theorem weak_row {E : Env} {T : Tm} {H H' : Heap} (id : Nat) {b : Bool} {segs segs' : List Seg} (hb : hget H id = some ⟨b, segs⟩) (h : ∀ (ρ : Rho) (get : Nat → Option Value), RowRep ρ segs get → RowRep ρ segs' get) (hH : H.set id (some ⟨b, segs'⟩) = H') : Weak E T H T H' := by
  subst hH
  have hlt := hget_lt hb
  rintro a w ⟨ρ, W, p, hno, hT, hE⟩
  have hg : ∀ j k, hget (H.set id (some ⟨b, segs'⟩)) j = some k → ∃ k0, hget H j = some k0 ∧ k.rw = k0.rw ∧ (∀ o b', BRep ρ k0 w b' o → BRep ρ k w b' o) := by
    intro j k hk
    rw [hget_set hlt] at hk
    by_cases hj : j = id
    · subst hj
      rw [if_pos rfl] at hk
      cases hk
      refine ⟨_, hb, rfl, ?_⟩
      rintro o b' ⟨cells, t, fr, h1, h2, h3, h4⟩
      exact ⟨cells, t, fr, h1, h2, h3, h ρ _ h4⟩
    · rw [if_neg hj] at hk
      exact ⟨k, hk, rfl, fun _ _ h => h⟩
  refine ⟨ρ, W, ⟨p.le, ⟨p.rep.lt, fun j b' o k e1 e2 => ?_, fun j j' b' o o' k k' hne e1 e2 e3 e4 => ?_, p.rep.fz, p.rep.sz⟩, p.size, p.defs, p.fr, p.sub, p.fresh, p.fzn, p.old⟩, fun j hj => hno j (by simpa using hj), hT, by simpa using hE⟩
  · obtain ⟨k0, h1, h2, h3⟩ := hg j k e2
    have := p.rep.rep j b' o k0 e1 h1
    exact ⟨h3 _ _ this.1, fun e => this.2 (h2 ▸ e)⟩
  · obtain ⟨k0, h1, h2, _⟩ := hg j k e3
    obtain ⟨k1, h1', h2', _⟩ := hg j' k' e4
    have := p.rep.apart j j' b' o o' k0 k1 hne e1 e2 h1 h1'
    exact ⟨h2.trans this.1, h2'.trans this.2⟩
end Go.Bx
end
