/- A part of the proofs of this claim: BBok3. No conditions. -/
import Derived.Test.YtokgpammicpahaaGreatDoorS9
set_option linter.unusedVariables false
set_option linter.unusedSimpArgs false
set_option maxRecDepth 100000
set_option maxHeartbeats 4000000
open Go Go.Bx Go.Proofs
namespace Go.Proofs.X
set_option maxRecDepth 100000
set_option maxHeartbeats 4000000
theorem fill_AABB (X0 : List Int) (hX0 : X0.length ≤ 100000) (X1 : List Int) (hX1 : X1.length ≤ 100000) (X2 : List Int) (hX2 : X2.length ≤ 100000) (X3 : List Int) (hX3 : X3.length ≤ 100000) : Con Tryz.prog 48 [.s (.ptr 0 0 0)] [BKb 4 (.gro 5 3 4), IB (X0.length + 1) (X0 ++ [77]), IB (X1.length + 1) (X1 ++ [77]), IB X2.length X2, IB X3.length X3, RB (R3 (.slice 1 0 0 X0.length (X0.length + 1)) .nils 1 (R3 (.slice 2 0 0 X1.length (X1.length + 1)) .nils 2 (R3 (.slice 3 0 0 X2.length X2.length) .nils 3 (R3 (.slice 4 0 0 X3.length X3.length) .nils 4 []))))] (.tup []) [BKb 4 (.gro 5 3 4), IB (X0.length + 1) (List.replicate X0.length 1 ++ [77]), IB (X1.length + 1) (List.replicate X1.length 2 ++ [77]), IB X2.length (List.replicate X2.length 3), IB X3.length (List.replicate X3.length 4), RB (R3 (.slice 1 0 0 X0.length (X0.length + 1)) .nils 1 (R3 (.slice 2 0 0 X1.length (X1.length + 1)) .nils 2 (R3 (.slice 3 0 0 X2.length X2.length) .nils 3 (R3 (.slice 4 0 0 X3.length X3.length) .nils 4 []))))] := by
 refine con_in 35 Tryz.func48 rfl rfl (m := 6) rfl ?_
 intro E hP hn hE
 refine qz hP hn ?_
 refine s_op k_as ?_
 refine s_nil trivial (n_wp (w_block ?_))
 refine c_loop (fun m_ T H => (m_ = 4 ∧ T = [(0, .s (.ptr 0 0 0)), (2, .s (.int .i64 ((0 : Nat) : Int)))] ∧ H = [BKb 4 (.gro 5 3 4), IB (X0.length + 1) (X0 ++ [77]), IB (X1.length + 1) (X1 ++ [77]), IB X2.length X2, IB X3.length X3, RB (R3 (.slice 1 0 0 X0.length (X0.length + 1)) .nils 1 (R3 (.slice 2 0 0 X1.length (X1.length + 1)) .nils 2 (R3 (.slice 3 0 0 X2.length X2.length) .nils 3 (R3 (.slice 4 0 0 X3.length X3.length) .nils 4 []))))]) ∨ (m_ = 3 ∧ T = [(0, .s (.ptr 0 0 0)), (2, .s (.int .i64 ((1 : Nat) : Int)))] ∧ H = [BKb 4 (.gro 5 3 4), IB (X0.length + 1) (List.replicate X0.length 1 ++ [77]), IB (X1.length + 1) (X1 ++ [77]), IB X2.length X2, IB X3.length X3, RB (R3 (.slice 1 0 0 X0.length (X0.length + 1)) .nils 1 (R3 (.slice 2 0 0 X1.length (X1.length + 1)) .nils 2 (R3 (.slice 3 0 0 X2.length X2.length) .nils 3 (R3 (.slice 4 0 0 X3.length X3.length) .nils 4 []))))]) ∨ (m_ = 2 ∧ T = [(0, .s (.ptr 0 0 0)), (2, .s (.int .i64 ((2 : Nat) : Int)))] ∧ H = [BKb 4 (.gro 5 3 4), IB (X0.length + 1) (List.replicate X0.length 1 ++ [77]), IB (X1.length + 1) (List.replicate X1.length 2 ++ [77]), IB X2.length X2, IB X3.length X3, RB (R3 (.slice 1 0 0 X0.length (X0.length + 1)) .nils 1 (R3 (.slice 2 0 0 X1.length (X1.length + 1)) .nils 2 (R3 (.slice 3 0 0 X2.length X2.length) .nils 3 (R3 (.slice 4 0 0 X3.length X3.length) .nils 4 []))))]) ∨ (m_ = 1 ∧ T = [(0, .s (.ptr 0 0 0)), (2, .s (.int .i64 ((3 : Nat) : Int)))] ∧ H = [BKb 4 (.gro 5 3 4), IB (X0.length + 1) (List.replicate X0.length 1 ++ [77]), IB (X1.length + 1) (List.replicate X1.length 2 ++ [77]), IB X2.length (List.replicate X2.length 3), IB X3.length X3, RB (R3 (.slice 1 0 0 X0.length (X0.length + 1)) .nils 1 (R3 (.slice 2 0 0 X1.length (X1.length + 1)) .nils 2 (R3 (.slice 3 0 0 X2.length X2.length) .nils 3 (R3 (.slice 4 0 0 X3.length X3.length) .nils 4 []))))]) ∨ (m_ = 0 ∧ T = [(0, .s (.ptr 0 0 0)), (2, .s (.int .i64 ((4 : Nat) : Int)))] ∧ H = [BKb 4 (.gro 5 3 4), IB (X0.length + 1) (List.replicate X0.length 1 ++ [77]), IB (X1.length + 1) (List.replicate X1.length 2 ++ [77]), IB X2.length (List.replicate X2.length 3), IB X3.length (List.replicate X3.length 4), RB (R3 (.slice 1 0 0 X0.length (X0.length + 1)) .nils 1 (R3 (.slice 2 0 0 X1.length (X1.length + 1)) .nils 2 (R3 (.slice 3 0 0 X2.length X2.length) .nils 3 (R3 (.slice 4 0 0 X3.length X3.length) .nils 4 []))))])) (4) (.inl ⟨rfl, rfl, rfl⟩) (wk hE [0, 1, 2, 3, 4, 5]) ?_
 rintro n_ T_ H_ (⟨rfl, rfl, rfl⟩ | ⟨rfl, rfl, rfl⟩ | ⟨rfl, rfl, rfl⟩ | ⟨rfl, rfl, rfl⟩ | ⟨rfl, rfl, rfl⟩)
 · refine w_seq (qz hP hn ?_)
   refine o4 ?_
   refine o3 ?_
   refine s_nil trivial (n_wp ?_)
   refine w_T rfl ?_ 
   refine w_skip (n_wp (w_seq (w_block (qz hP hn ?_))))
   refine o3 ?_
   refine o2 ?_
   refine s_op (k_ixG 0 0) ?_
   refine s_op (k_ld (h := by exact a_load_agg (sub := (R3 (.slice 1 0 0 X0.length (X0.length + 1)) .nils 1 [])) (r := (R3 (.slice 1 0 0 X0.length (X0.length + 1)) .nils 1 (R3 (.slice 2 0 0 X1.length (X1.length + 1)) .nils 2 (R3 (.slice 3 0 0 X2.length X2.length) .nils 3 (R3 (.slice 4 0 0 X3.length X3.length) .nils 4 []))))) rfl rfl (by kernel_rfl) (by kernel_rfl))) ?_
   refine s_op k_al ?_
   refine s_st (k_st (h := by exact a_store_agg rfl rfl rfl (put_w (by kernel_rfl)) (by exact Nat.le_of_ble_eq_true rfl) (by kernel_rfl) (by repeat (first | exact hset_0 | apply hset_s)))) ?_
   refine qx hP hn ?_
   refine s_op k_as ?_
   refine s_nil trivial (n_wp (w_block ?_))
   refine c_loop (fun m_ T H => ∃ k, k ≤ X0.length ∧ m_ = X0.length - k ∧ T = [(0, .s (.ptr 0 0 0)), (2, .s (.int .i64 ((0 : Nat) : Int))), (3, .s (.ptr 6 0 0)), (4, .s (.int .i64 ((k : Nat) : Int)))] ∧ H = [BKb 4 (.gro 5 3 4), IB (X0.length + 1) (fillT (X0 ++ [77]) 1 k), IB (X1.length + 1) (X1 ++ [77]), IB X2.length X2, IB X3.length X3, RB (R3 (.slice 1 0 0 X0.length (X0.length + 1)) .nils 1 (R3 (.slice 2 0 0 X1.length (X1.length + 1)) .nils 2 (R3 (.slice 3 0 0 X2.length X2.length) .nils 3 (R3 (.slice 4 0 0 X3.length X3.length) .nils 4 [])))), RB (R3 (.slice 1 0 0 X0.length (X0.length + 1)) .nils 1 [])]) (X0.length) ⟨0, by omega, rfl, rfl, rfl⟩ (wk hE [0, 1, 2, 3, 4, 5, 6]) ?_
   rintro n_ T_ H_ ⟨k, hk, rfl, rfl, rfl⟩
   have hfl := fillT_len (X0 ++ [77]) 1 k
   have hal : (X0 ++ [77]).length = X0.length + 1 := by simp
   refine w_seq (qz hP hn ?_)
   refine o3 ?_
   refine o2 ?_
   refine s_nil trivial (n_wp ?_)
   refine w_if rfl (fun h_t25 => ?_) (fun h_t25 => ?_)
   · refine w_skip (n_wp (w_seq (w_block ?_)))
     refine g_any hP hn ?_
     refine o3 ?_
     refine o2 ?_
     refine s_op (k_call [] (con := mark_c 1 (by decide))) ?_
     refine s_op k_ix ?_
     refine s_st k_st ?_
     refine s_nil (by kernel_rfl) ?_
     refine n_blo (n_wp (g_reg hP hn ?_))
     refine o3 ?_
     refine s_nil trivial ?_
     exact n_round (X0.length - (k + 1)) (by omega) ⟨k + 1, by omega, rfl, rfl, rfl⟩ (wk hE [0, 1, 2, 3, 4, 5, 6])
   · obtain rfl : k = X0.length := by omega
     rw [fillT_a]
     refine w_exit (x_thn (x_thn (x_eq (n_blo (n_wp (g_reg hP hn ?_))))))
     refine o3 ?_
     refine s_nil trivial ?_
     exact n_round 3 (by omega) (.inr (.inl ⟨rfl, rfl, rfl⟩)) (wk hE [0, 1, 2, 3, 4, 5])
 · refine w_seq (qz hP hn ?_)
   refine o4 ?_
   refine o3 ?_
   refine s_nil trivial (n_wp ?_)
   refine w_T rfl ?_ 
   refine w_skip (n_wp (w_seq (w_block (qz hP hn ?_))))
   refine o3 ?_
   refine o2 ?_
   refine s_op (k_ixG 3 1) ?_
   refine s_op (k_ld (h := by exact a_load_agg (sub := (R3 (.slice 2 0 0 X1.length (X1.length + 1)) .nils 2 [])) (r := (R3 (.slice 2 0 0 X1.length (X1.length + 1)) .nils 2 (R3 (.slice 3 0 0 X2.length X2.length) .nils 3 (R3 (.slice 4 0 0 X3.length X3.length) .nils 4 [])))) rfl rfl (by kernel_rfl) (by kernel_rfl))) ?_
   refine s_op k_al ?_
   refine s_st (k_st (h := by exact a_store_agg rfl rfl rfl (put_w (by kernel_rfl)) (by exact Nat.le_of_ble_eq_true rfl) (by kernel_rfl) (by repeat (first | exact hset_0 | apply hset_s)))) ?_
   refine qx hP hn ?_
   refine s_op k_as ?_
   refine s_nil trivial (n_wp (w_block ?_))
   refine c_loop (fun m_ T H => ∃ k, k ≤ X1.length ∧ m_ = X1.length - k ∧ T = [(0, .s (.ptr 0 0 0)), (2, .s (.int .i64 ((1 : Nat) : Int))), (3, .s (.ptr 6 0 0)), (4, .s (.int .i64 ((k : Nat) : Int)))] ∧ H = [BKb 4 (.gro 5 3 4), IB (X0.length + 1) (List.replicate X0.length 1 ++ [77]), IB (X1.length + 1) (fillT (X1 ++ [77]) 2 k), IB X2.length X2, IB X3.length X3, RB (R3 (.slice 1 0 0 X0.length (X0.length + 1)) .nils 1 (R3 (.slice 2 0 0 X1.length (X1.length + 1)) .nils 2 (R3 (.slice 3 0 0 X2.length X2.length) .nils 3 (R3 (.slice 4 0 0 X3.length X3.length) .nils 4 [])))), RB (R3 (.slice 2 0 0 X1.length (X1.length + 1)) .nils 2 [])]) (X1.length) ⟨0, by omega, rfl, rfl, rfl⟩ (wk hE [0, 1, 2, 3, 4, 5, 6]) ?_
   rintro n_ T_ H_ ⟨k, hk, rfl, rfl, rfl⟩
   have hfl := fillT_len (X1 ++ [77]) 2 k
   have hal : (X1 ++ [77]).length = X1.length + 1 := by simp
   refine w_seq (qz hP hn ?_)
   refine o3 ?_
   refine o2 ?_
   refine s_nil trivial (n_wp ?_)
   refine w_if rfl (fun h_t25 => ?_) (fun h_t25 => ?_)
   · refine w_skip (n_wp (w_seq (w_block ?_)))
     refine g_any hP hn ?_
     refine o3 ?_
     refine o2 ?_
     refine s_op (k_call [] (con := mark_c 2 (by decide))) ?_
     refine s_op k_ix ?_
     refine s_st k_st ?_
     refine s_nil (by kernel_rfl) ?_
     refine n_blo (n_wp (g_reg hP hn ?_))
     refine o3 ?_
     refine s_nil trivial ?_
     exact n_round (X1.length - (k + 1)) (by omega) ⟨k + 1, by omega, rfl, rfl, rfl⟩ (wk hE [0, 1, 2, 3, 4, 5, 6])
   · obtain rfl : k = X1.length := by omega
     rw [fillT_a]
     refine w_exit (x_thn (x_thn (x_eq (n_blo (n_wp (g_reg hP hn ?_))))))
     refine o3 ?_
     refine s_nil trivial ?_
     exact n_round 2 (by omega) (.inr (.inr (.inl ⟨rfl, rfl, rfl⟩))) (wk hE [0, 1, 2, 3, 4, 5])
 · refine w_seq (qz hP hn ?_)
   refine o4 ?_
   refine o3 ?_
   refine s_nil trivial (n_wp ?_)
   refine w_T rfl ?_ 
   refine w_skip (n_wp (w_seq (w_block (qz hP hn ?_))))
   refine o3 ?_
   refine o2 ?_
   refine s_op (k_ixG 6 2) ?_
   refine s_op (k_ld (h := by exact a_load_agg (sub := (R3 (.slice 3 0 0 X2.length X2.length) .nils 3 [])) (r := (R3 (.slice 3 0 0 X2.length X2.length) .nils 3 (R3 (.slice 4 0 0 X3.length X3.length) .nils 4 []))) rfl rfl (by kernel_rfl) (by kernel_rfl))) ?_
   refine s_op k_al ?_
   refine s_st (k_st (h := by exact a_store_agg rfl rfl rfl (put_w (by kernel_rfl)) (by exact Nat.le_of_ble_eq_true rfl) (by kernel_rfl) (by repeat (first | exact hset_0 | apply hset_s)))) ?_
   refine qx hP hn ?_
   refine s_op k_as ?_
   refine s_nil trivial (n_wp (w_block ?_))
   refine c_loop (fun m_ T H => ∃ k, k ≤ X2.length ∧ m_ = X2.length - k ∧ T = [(0, .s (.ptr 0 0 0)), (2, .s (.int .i64 ((2 : Nat) : Int))), (3, .s (.ptr 6 0 0)), (4, .s (.int .i64 ((k : Nat) : Int)))] ∧ H = [BKb 4 (.gro 5 3 4), IB (X0.length + 1) (List.replicate X0.length 1 ++ [77]), IB (X1.length + 1) (List.replicate X1.length 2 ++ [77]), IB X2.length (fillT X2 3 k), IB X3.length X3, RB (R3 (.slice 1 0 0 X0.length (X0.length + 1)) .nils 1 (R3 (.slice 2 0 0 X1.length (X1.length + 1)) .nils 2 (R3 (.slice 3 0 0 X2.length X2.length) .nils 3 (R3 (.slice 4 0 0 X3.length X3.length) .nils 4 [])))), RB (R3 (.slice 3 0 0 X2.length X2.length) .nils 3 [])]) (X2.length) ⟨0, by omega, rfl, rfl, rfl⟩ (wk hE [0, 1, 2, 3, 4, 5, 6]) ?_
   rintro n_ T_ H_ ⟨k, hk, rfl, rfl, rfl⟩
   have hfl := fillT_len X2 3 k
   refine w_seq (qz hP hn ?_)
   refine o3 ?_
   refine o2 ?_
   refine s_nil trivial (n_wp ?_)
   refine w_if rfl (fun h_t25 => ?_) (fun h_t25 => ?_)
   · refine w_skip (n_wp (w_seq (w_block ?_)))
     refine g_any hP hn ?_
     refine o3 ?_
     refine o2 ?_
     refine s_op (k_call [] (con := mark_c 3 (by decide))) ?_
     refine s_op k_ix ?_
     refine s_st k_st ?_
     refine s_nil (by kernel_rfl) ?_
     refine n_blo (n_wp (g_reg hP hn ?_))
     refine o3 ?_
     refine s_nil trivial ?_
     exact n_round (X2.length - (k + 1)) (by omega) ⟨k + 1, by omega, rfl, rfl, rfl⟩ (wk hE [0, 1, 2, 3, 4, 5, 6])
   · obtain rfl : k = X2.length := by omega
     rw [fillT_all]
     refine w_exit (x_thn (x_thn (x_eq (n_blo (n_wp (g_reg hP hn ?_))))))
     refine o3 ?_
     refine s_nil trivial ?_
     exact n_round 1 (by omega) (.inr (.inr (.inr (.inl ⟨rfl, rfl, rfl⟩)))) (wk hE [0, 1, 2, 3, 4, 5])
 · refine w_seq (qz hP hn ?_)
   refine o4 ?_
   refine o3 ?_
   refine s_nil trivial (n_wp ?_)
   refine w_T rfl ?_ 
   refine w_skip (n_wp (w_seq (w_block (qz hP hn ?_))))
   refine o3 ?_
   refine o2 ?_
   refine s_op (k_ixG 9 3) ?_
   refine s_op (k_ld (h := by exact a_load_agg (sub := (R3 (.slice 4 0 0 X3.length X3.length) .nils 4 [])) (r := (R3 (.slice 4 0 0 X3.length X3.length) .nils 4 [])) rfl rfl (by kernel_rfl) (by kernel_rfl))) ?_
   refine s_op k_al ?_
   refine s_st (k_st (h := by exact a_store_agg rfl rfl rfl (put_w (by kernel_rfl)) (by exact Nat.le_of_ble_eq_true rfl) (by kernel_rfl) (by repeat (first | exact hset_0 | apply hset_s)))) ?_
   refine qx hP hn ?_
   refine s_op k_as ?_
   refine s_nil trivial (n_wp (w_block ?_))
   refine c_loop (fun m_ T H => ∃ k, k ≤ X3.length ∧ m_ = X3.length - k ∧ T = [(0, .s (.ptr 0 0 0)), (2, .s (.int .i64 ((3 : Nat) : Int))), (3, .s (.ptr 6 0 0)), (4, .s (.int .i64 ((k : Nat) : Int)))] ∧ H = [BKb 4 (.gro 5 3 4), IB (X0.length + 1) (List.replicate X0.length 1 ++ [77]), IB (X1.length + 1) (List.replicate X1.length 2 ++ [77]), IB X2.length (List.replicate X2.length 3), IB X3.length (fillT X3 4 k), RB (R3 (.slice 1 0 0 X0.length (X0.length + 1)) .nils 1 (R3 (.slice 2 0 0 X1.length (X1.length + 1)) .nils 2 (R3 (.slice 3 0 0 X2.length X2.length) .nils 3 (R3 (.slice 4 0 0 X3.length X3.length) .nils 4 [])))), RB (R3 (.slice 4 0 0 X3.length X3.length) .nils 4 [])]) (X3.length) ⟨0, by omega, rfl, rfl, rfl⟩ (wk hE [0, 1, 2, 3, 4, 5, 6]) ?_
   rintro n_ T_ H_ ⟨k, hk, rfl, rfl, rfl⟩
   have hfl := fillT_len X3 4 k
   refine w_seq (qz hP hn ?_)
   refine o3 ?_
   refine o2 ?_
   refine s_nil trivial (n_wp ?_)
   refine w_if rfl (fun h_t25 => ?_) (fun h_t25 => ?_)
   · refine w_skip (n_wp (w_seq (w_block ?_)))
     refine g_any hP hn ?_
     refine o3 ?_
     refine o2 ?_
     refine s_op (k_call [] (con := mark_c 4 (by decide))) ?_
     refine s_op k_ix ?_
     refine s_st k_st ?_
     refine s_nil (by kernel_rfl) ?_
     refine n_blo (n_wp (g_reg hP hn ?_))
     refine o3 ?_
     refine s_nil trivial ?_
     exact n_round (X3.length - (k + 1)) (by omega) ⟨k + 1, by omega, rfl, rfl, rfl⟩ (wk hE [0, 1, 2, 3, 4, 5, 6])
   · obtain rfl : k = X3.length := by omega
     rw [fillT_all]
     refine w_exit (x_thn (x_thn (x_eq (n_blo (n_wp (g_reg hP hn ?_))))))
     refine o3 ?_
     refine s_nil trivial ?_
     exact n_round 0 (by omega) (.inr (.inr (.inr (.inr (⟨rfl, rfl, rfl⟩))))) (wk hE [0, 1, 2, 3, 4, 5])
 · refine w_seq (qz hP hn ?_)
   refine o4 ?_
   refine o3 ?_
   refine s_nil trivial (n_wp ?_)
   refine w_F rfl ?_ 
   refine w_exit (x_thn (x_thn (x_eq ?_)))
   exact d_ret hP hn hE [0, 1, 2, 3, 4, 5] (ret_none Tryz.results48)

theorem grow_AABB (X0 : List Int) (hX0 : X0.length ≤ 100000) (X1 : List Int) (hX1 : X1.length ≤ 100000) (X2 : List Int) (hX2 : X2.length ≤ 100000) (X3 : List Int) (hX3 : X3.length ≤ 100000) : Con Tryz.prog 63 [.s (.ptr 0 0 0)] [BKb 4 (.gro 5 3 4), IB (X0.length + 1) (List.replicate X0.length 1 ++ [77]), IB (X1.length + 1) (List.replicate X1.length 2 ++ [77]), IB X2.length (List.replicate X2.length 3), IB X3.length (List.replicate X3.length 4), RB (R3 (.slice 1 0 0 X0.length (X0.length + 1)) .nils 1 (R3 (.slice 2 0 0 X1.length (X1.length + 1)) .nils 2 (R3 (.slice 3 0 0 X2.length X2.length) .nils 3 (R3 (.slice 4 0 0 X3.length X3.length) .nils 4 []))))] (.tup []) [BKb 4 (.gro 5 3 4), IB (X0.length + 1) (List.replicate (X0.length + 1) 1), IB (X1.length + 1) (List.replicate (X1.length + 1) 2), IB X2.length (List.replicate X2.length 3), IB X3.length (List.replicate X3.length 4), RB (R3 (.slice 1 0 0 X0.length (X0.length + 1)) (.gro 6 1 (X0.length + 40)) 1 (R3 (.slice 2 0 0 X1.length (X1.length + 1)) (.gro 7 1 (X1.length + 40)) 2 (R3 (.slice 3 0 0 X2.length X2.length) (.gro 8 1 (X2.length + 40)) 3 (R3 (.slice 4 0 0 X3.length X3.length) (.gro 9 1 (X3.length + 40)) 4 [])))), IB (X0.length + 40) (List.replicate (X0.length + 40) 1), IB (X1.length + 40) (List.replicate (X1.length + 40) 2), IB (X2.length + 40) (List.replicate (X2.length + 40) 3), IB (X3.length + 40) (List.replicate (X3.length + 40) 4)] := by
 refine con_in 42 Tryz.func63 rfl rfl (m := 6) rfl ?_
 intro E hP hn hE
 refine qz hP hn ?_
 refine s_op k_as ?_
 refine s_nil trivial (n_wp (w_block ?_))
 refine c_loop (fun m_ T H => (m_ = 4 ∧ T = [(0, .s (.ptr 0 0 0)), (2, .s (.int .i64 ((0 : Nat) : Int)))] ∧ H = [BKb 4 (.gro 5 3 4), IB (X0.length + 1) (List.replicate X0.length 1 ++ [77]), IB (X1.length + 1) (List.replicate X1.length 2 ++ [77]), IB X2.length (List.replicate X2.length 3), IB X3.length (List.replicate X3.length 4), RB (R3 (.slice 1 0 0 X0.length (X0.length + 1)) .nils 1 (R3 (.slice 2 0 0 X1.length (X1.length + 1)) .nils 2 (R3 (.slice 3 0 0 X2.length X2.length) .nils 3 (R3 (.slice 4 0 0 X3.length X3.length) .nils 4 []))))]) ∨ (m_ = 3 ∧ T = [(0, .s (.ptr 0 0 0)), (2, .s (.int .i64 ((1 : Nat) : Int)))] ∧ H = [BKb 4 (.gro 5 3 4), IB (X0.length + 1) (List.replicate (X0.length + 1) 1), IB (X1.length + 1) (List.replicate X1.length 2 ++ [77]), IB X2.length (List.replicate X2.length 3), IB X3.length (List.replicate X3.length 4), RB (R3 (.slice 1 0 0 X0.length (X0.length + 1)) (.gro 6 1 (X0.length + 40)) 1 (R3 (.slice 2 0 0 X1.length (X1.length + 1)) .nils 2 (R3 (.slice 3 0 0 X2.length X2.length) .nils 3 (R3 (.slice 4 0 0 X3.length X3.length) .nils 4 [])))), IB (X0.length + 40) (List.replicate (X0.length + 40) 1)]) ∨ (m_ = 2 ∧ T = [(0, .s (.ptr 0 0 0)), (2, .s (.int .i64 ((2 : Nat) : Int)))] ∧ H = [BKb 4 (.gro 5 3 4), IB (X0.length + 1) (List.replicate (X0.length + 1) 1), IB (X1.length + 1) (List.replicate (X1.length + 1) 2), IB X2.length (List.replicate X2.length 3), IB X3.length (List.replicate X3.length 4), RB (R3 (.slice 1 0 0 X0.length (X0.length + 1)) (.gro 6 1 (X0.length + 40)) 1 (R3 (.slice 2 0 0 X1.length (X1.length + 1)) (.gro 7 1 (X1.length + 40)) 2 (R3 (.slice 3 0 0 X2.length X2.length) .nils 3 (R3 (.slice 4 0 0 X3.length X3.length) .nils 4 [])))), IB (X0.length + 40) (List.replicate (X0.length + 40) 1), IB (X1.length + 40) (List.replicate (X1.length + 40) 2)]) ∨ (m_ = 1 ∧ T = [(0, .s (.ptr 0 0 0)), (2, .s (.int .i64 ((3 : Nat) : Int)))] ∧ H = [BKb 4 (.gro 5 3 4), IB (X0.length + 1) (List.replicate (X0.length + 1) 1), IB (X1.length + 1) (List.replicate (X1.length + 1) 2), IB X2.length (List.replicate X2.length 3), IB X3.length (List.replicate X3.length 4), RB (R3 (.slice 1 0 0 X0.length (X0.length + 1)) (.gro 6 1 (X0.length + 40)) 1 (R3 (.slice 2 0 0 X1.length (X1.length + 1)) (.gro 7 1 (X1.length + 40)) 2 (R3 (.slice 3 0 0 X2.length X2.length) (.gro 8 1 (X2.length + 40)) 3 (R3 (.slice 4 0 0 X3.length X3.length) .nils 4 [])))), IB (X0.length + 40) (List.replicate (X0.length + 40) 1), IB (X1.length + 40) (List.replicate (X1.length + 40) 2), IB (X2.length + 40) (List.replicate (X2.length + 40) 3)]) ∨ (m_ = 0 ∧ T = [(0, .s (.ptr 0 0 0)), (2, .s (.int .i64 ((4 : Nat) : Int)))] ∧ H = [BKb 4 (.gro 5 3 4), IB (X0.length + 1) (List.replicate (X0.length + 1) 1), IB (X1.length + 1) (List.replicate (X1.length + 1) 2), IB X2.length (List.replicate X2.length 3), IB X3.length (List.replicate X3.length 4), RB (R3 (.slice 1 0 0 X0.length (X0.length + 1)) (.gro 6 1 (X0.length + 40)) 1 (R3 (.slice 2 0 0 X1.length (X1.length + 1)) (.gro 7 1 (X1.length + 40)) 2 (R3 (.slice 3 0 0 X2.length X2.length) (.gro 8 1 (X2.length + 40)) 3 (R3 (.slice 4 0 0 X3.length X3.length) (.gro 9 1 (X3.length + 40)) 4 [])))), IB (X0.length + 40) (List.replicate (X0.length + 40) 1), IB (X1.length + 40) (List.replicate (X1.length + 40) 2), IB (X2.length + 40) (List.replicate (X2.length + 40) 3), IB (X3.length + 40) (List.replicate (X3.length + 40) 4)])) (4) (.inl ⟨rfl, rfl, rfl⟩) (wk hE [0, 1, 2, 3, 4, 5]) ?_
 rintro n_ T_ H_ (⟨rfl, rfl, rfl⟩ | ⟨rfl, rfl, rfl⟩ | ⟨rfl, rfl, rfl⟩ | ⟨rfl, rfl, rfl⟩ | ⟨rfl, rfl, rfl⟩)
 · refine w_seq (qz hP hn ?_)
   refine o4 ?_
   refine o3 ?_
   refine s_nil trivial (n_wp ?_)
   refine w_T rfl ?_ 
   refine w_skip (n_wp (w_seq (w_block (qz hP hn ?_))))
   refine o3 ?_
   refine o2 ?_
   refine s_op (k_ixG 0 0) ?_
   refine s_op (k_ld (h := by exact a_load_agg (sub := (R3 (.slice 1 0 0 X0.length (X0.length + 1)) .nils 1 [])) (r := (R3 (.slice 1 0 0 X0.length (X0.length + 1)) .nils 1 (R3 (.slice 2 0 0 X1.length (X1.length + 1)) .nils 2 (R3 (.slice 3 0 0 X2.length X2.length) .nils 3 (R3 (.slice 4 0 0 X3.length X3.length) .nils 4 []))))) rfl rfl (by kernel_rfl) (by kernel_rfl))) ?_
   refine s_op k_al ?_
   refine s_st (k_st (h := by exact a_store_agg rfl rfl rfl (put_w (by kernel_rfl)) (by exact Nat.le_of_ble_eq_true rfl) (by kernel_rfl) (by repeat (first | exact hset_0 | apply hset_s)))) ?_
   refine qx hP hn ?_
   refine o3 ?_
   refine s_nil trivial (n_wp (w_seq (qz hP hn ?_)))
   refine s_op k_as ?_
   refine s_nil trivial (n_wp (w_block ?_))
   refine c_loop (fun m_ T H => (m_ = 40 ∧ T = [(0, .s (.ptr 0 0 0)), (2, .s (.int .i64 ((0 : Nat) : Int))), (3, .s (.ptr 6 0 0)), (4, .s (.slice 1 0 0 X0.length (X0.length + 1))), (5, .s (.int .i64 ((0 : Nat) : Int)))] ∧ H = [BKb 4 (.gro 5 3 4), IB (X0.length + 1) (List.replicate X0.length 1 ++ [77]), IB (X1.length + 1) (List.replicate X1.length 2 ++ [77]), IB X2.length (List.replicate X2.length 3), IB X3.length (List.replicate X3.length 4), RB (R3 (.slice 1 0 0 X0.length (X0.length + 1)) .nils 1 (R3 (.slice 2 0 0 X1.length (X1.length + 1)) .nils 2 (R3 (.slice 3 0 0 X2.length X2.length) .nils 3 (R3 (.slice 4 0 0 X3.length X3.length) .nils 4 [])))), RB (R3 (.slice 1 0 0 X0.length (X0.length + 1)) .nils 1 [])]) ∨ (m_ = 39 ∧ T = [(0, .s (.ptr 0 0 0)), (2, .s (.int .i64 ((0 : Nat) : Int))), (3, .s (.ptr 6 0 0)), (4, .s (.slice 1 0 0 (X0.length + 1) (X0.length + 1))), (5, .s (.int .i64 ((1 : Nat) : Int)))] ∧ H = [BKb 4 (.gro 5 3 4), IB (X0.length + 1) (List.replicate (X0.length + 1) 1), IB (X1.length + 1) (List.replicate X1.length 2 ++ [77]), IB X2.length (List.replicate X2.length 3), IB X3.length (List.replicate X3.length 4), RB (R3 (.slice 1 0 0 X0.length (X0.length + 1)) .nils 1 (R3 (.slice 2 0 0 X1.length (X1.length + 1)) .nils 2 (R3 (.slice 3 0 0 X2.length X2.length) .nils 3 (R3 (.slice 4 0 0 X3.length X3.length) .nils 4 [])))), RB (R3 (.slice 1 0 0 X0.length (X0.length + 1)) .nils 1 [])]) ∨ (∃ k, 2 ≤ k ∧ k ≤ 40 ∧ m_ = 40 - k ∧ T = [(0, .s (.ptr 0 0 0)), (2, .s (.int .i64 ((0 : Nat) : Int))), (3, .s (.ptr 6 0 0)), (4, .s (.gro 7 1 (X0.length + k))), (5, .s (.int .i64 ((k : Nat) : Int)))] ∧ H = [BKb 4 (.gro 5 3 4), IB (X0.length + 1) (List.replicate (X0.length + 1) 1), IB (X1.length + 1) (List.replicate X1.length 2 ++ [77]), IB X2.length (List.replicate X2.length 3), IB X3.length (List.replicate X3.length 4), RB (R3 (.slice 1 0 0 X0.length (X0.length + 1)) .nils 1 (R3 (.slice 2 0 0 X1.length (X1.length + 1)) .nils 2 (R3 (.slice 3 0 0 X2.length X2.length) .nils 3 (R3 (.slice 4 0 0 X3.length X3.length) .nils 4 [])))), RB (R3 (.slice 1 0 0 X0.length (X0.length + 1)) .nils 1 []), IB (X0.length + k) (List.replicate (X0.length + k) 1)])) (40) (.inl ⟨rfl, rfl, rfl⟩) (wk hE [0, 1, 2, 3, 4, 5, 6]) ?_
   rintro n_ T_ H_ (⟨rfl, rfl, rfl⟩ | ⟨rfl, rfl, rfl⟩ | ⟨k, hk1, hk2, rfl, rfl, rfl⟩)
   · refine w_seq (qz hP hn ?_)
     refine o2 ?_
     refine s_nil trivial (n_wp ?_)
     refine w_T rfl ?_ 
     refine w_skip (n_wp (w_seq (w_block (g_reg hP hn ?_))))
     refine o3 ?_
     refine s_op (k_call [] (con := mark_c 1 (by decide))) ?_
     refine s_op k_bsf ?_
     refine s_op (k_apj (List.replicate (X0.length + 1) 1) (hl' := rep_j _ _)) ?_
     refine s_op k_as ?_
     refine s_nil trivial (n_blo (n_wp (g_reg hP hn ?_)))
     refine o3 ?_
     refine s_nil trivial ?_
     exact n_round 39 (by omega) (.inr (.inl ⟨rfl, rfl, rfl⟩)) (wk hE [0, 1, 2, 3, 4, 5, 6])
   · refine w_seq (qz hP hn ?_)
     refine o2 ?_
     refine s_nil trivial (n_wp ?_)
     refine w_T rfl ?_ 
     refine w_skip (n_wp (w_seq (w_block (g_reg hP hn ?_))))
     refine o3 ?_
     refine s_op (k_call [] (con := mark_c 1 (by decide))) ?_
     refine s_op k_bsf ?_
     refine s_op (k_apf (c := X0.length + 2) (l' := List.replicate (X0.length + 2) 1) (hl' := rep_s _ _) (h0 := by exact Nat.zero_lt_one) (hbig := by show X0.length + 1 + 1 ≤ 1000000; omega)) ?_
     refine s_op k_as ?_
     refine s_nil trivial (n_blo (n_wp (g_reg hP hn ?_)))
     refine o3 ?_
     refine s_nil trivial ?_
     exact n_round 38 (by omega) (.inr (.inr ⟨2, by omega, by omega, rfl, rfl, rfl⟩)) (wk hE [0, 1, 2, 3, 4, 5, 6, 8])
   · refine w_seq (qz hP hn ?_)
     refine o2 ?_
     refine s_nil trivial (n_wp ?_)
     refine w_if rfl (fun h_t25 => ?_) (fun h_t25 => ?_)
     · refine w_skip (n_wp (w_seq (w_block (g_reg hP hn ?_))))
       refine o3 ?_
       refine s_op (k_call [] (con := mark_c 1 (by decide))) ?_
       refine s_op k_bsf ?_
       refine s_op (k_apg (c := X0.length + (k + 1)) (l' := List.replicate (X0.length + (k + 1)) 1) (hl' := rep_t _ _) (hq := by exact Nat.le_refl _) (hbig := by show X0.length + k + 1 ≤ 1000000; omega)) ?_
       refine s_op k_as ?_
       refine s_nil trivial (n_blo (n_wp (g_reg hP hn ?_)))
       refine o3 ?_
       refine s_nil trivial ?_
       exact n_round (40 - (k + 1)) (by omega) (.inr (.inr ⟨k + 1, by omega, by omega, rfl, rfl, rfl⟩)) (wk hE [0, 1, 2, 3, 4, 5, 6, 9])
     · obtain rfl : k = 40 := by omega
       refine w_exit (x_thn (x_thn (x_eq (n_wp (g_reg hP hn ?_)))))
       refine o4 ?_
       refine o2 ?_
       refine s_op (k_ixG 0 0) ?_
       refine s_op k_fa ?_
       refine s_st (k_st (h := by exact a_store_one rfl rfl SV.noConfusion rfl rfl (hset_seg (by repeat (first | apply sset_s _ rfl rfl | exact sset_0)) (by repeat (first | exact hset_0 | apply hset_s))))) ?_
       refine s_nil trivial (n_blo (n_wp (g_reg hP hn ?_)))
       refine o3 ?_
       refine s_nil trivial ?_
       exact n_round 3 (by omega) (.inr (.inl ⟨rfl, rfl, rfl⟩)) (wk hE [0, 1, 2, 3, 4, 5, 7])
 · refine w_seq (qz hP hn ?_)
   refine o4 ?_
   refine o3 ?_
   refine s_nil trivial (n_wp ?_)
   refine w_T rfl ?_ 
   refine w_skip (n_wp (w_seq (w_block (qz hP hn ?_))))
   refine o3 ?_
   refine o2 ?_
   refine s_op (k_ixG 3 1) ?_
   refine s_op (k_ld (h := by exact a_load_agg (sub := (R3 (.slice 2 0 0 X1.length (X1.length + 1)) .nils 2 [])) (r := (R3 (.slice 2 0 0 X1.length (X1.length + 1)) .nils 2 (R3 (.slice 3 0 0 X2.length X2.length) .nils 3 (R3 (.slice 4 0 0 X3.length X3.length) .nils 4 [])))) rfl rfl (by kernel_rfl) (by kernel_rfl))) ?_
   refine s_op k_al ?_
   refine s_st (k_st (h := by exact a_store_agg rfl rfl rfl (put_w (by kernel_rfl)) (by exact Nat.le_of_ble_eq_true rfl) (by kernel_rfl) (by repeat (first | exact hset_0 | apply hset_s)))) ?_
   refine qx hP hn ?_
   refine o3 ?_
   refine s_nil trivial (n_wp (w_seq (qz hP hn ?_)))
   refine s_op k_as ?_
   refine s_nil trivial (n_wp (w_block ?_))
   refine c_loop (fun m_ T H => (m_ = 40 ∧ T = [(0, .s (.ptr 0 0 0)), (2, .s (.int .i64 ((1 : Nat) : Int))), (3, .s (.ptr 7 0 0)), (4, .s (.slice 2 0 0 X1.length (X1.length + 1))), (5, .s (.int .i64 ((0 : Nat) : Int)))] ∧ H = [BKb 4 (.gro 5 3 4), IB (X0.length + 1) (List.replicate (X0.length + 1) 1), IB (X1.length + 1) (List.replicate X1.length 2 ++ [77]), IB X2.length (List.replicate X2.length 3), IB X3.length (List.replicate X3.length 4), RB (R3 (.slice 1 0 0 X0.length (X0.length + 1)) (.gro 6 1 (X0.length + 40)) 1 (R3 (.slice 2 0 0 X1.length (X1.length + 1)) .nils 2 (R3 (.slice 3 0 0 X2.length X2.length) .nils 3 (R3 (.slice 4 0 0 X3.length X3.length) .nils 4 [])))), IB (X0.length + 40) (List.replicate (X0.length + 40) 1), RB (R3 (.slice 2 0 0 X1.length (X1.length + 1)) .nils 2 [])]) ∨ (m_ = 39 ∧ T = [(0, .s (.ptr 0 0 0)), (2, .s (.int .i64 ((1 : Nat) : Int))), (3, .s (.ptr 7 0 0)), (4, .s (.slice 2 0 0 (X1.length + 1) (X1.length + 1))), (5, .s (.int .i64 ((1 : Nat) : Int)))] ∧ H = [BKb 4 (.gro 5 3 4), IB (X0.length + 1) (List.replicate (X0.length + 1) 1), IB (X1.length + 1) (List.replicate (X1.length + 1) 2), IB X2.length (List.replicate X2.length 3), IB X3.length (List.replicate X3.length 4), RB (R3 (.slice 1 0 0 X0.length (X0.length + 1)) (.gro 6 1 (X0.length + 40)) 1 (R3 (.slice 2 0 0 X1.length (X1.length + 1)) .nils 2 (R3 (.slice 3 0 0 X2.length X2.length) .nils 3 (R3 (.slice 4 0 0 X3.length X3.length) .nils 4 [])))), IB (X0.length + 40) (List.replicate (X0.length + 40) 1), RB (R3 (.slice 2 0 0 X1.length (X1.length + 1)) .nils 2 [])]) ∨ (∃ k, 2 ≤ k ∧ k ≤ 40 ∧ m_ = 40 - k ∧ T = [(0, .s (.ptr 0 0 0)), (2, .s (.int .i64 ((1 : Nat) : Int))), (3, .s (.ptr 7 0 0)), (4, .s (.gro 8 1 (X1.length + k))), (5, .s (.int .i64 ((k : Nat) : Int)))] ∧ H = [BKb 4 (.gro 5 3 4), IB (X0.length + 1) (List.replicate (X0.length + 1) 1), IB (X1.length + 1) (List.replicate (X1.length + 1) 2), IB X2.length (List.replicate X2.length 3), IB X3.length (List.replicate X3.length 4), RB (R3 (.slice 1 0 0 X0.length (X0.length + 1)) (.gro 6 1 (X0.length + 40)) 1 (R3 (.slice 2 0 0 X1.length (X1.length + 1)) .nils 2 (R3 (.slice 3 0 0 X2.length X2.length) .nils 3 (R3 (.slice 4 0 0 X3.length X3.length) .nils 4 [])))), IB (X0.length + 40) (List.replicate (X0.length + 40) 1), RB (R3 (.slice 2 0 0 X1.length (X1.length + 1)) .nils 2 []), IB (X1.length + k) (List.replicate (X1.length + k) 2)])) (40) (.inl ⟨rfl, rfl, rfl⟩) (wk hE [0, 1, 2, 3, 4, 5, 6, 7]) ?_
   rintro n_ T_ H_ (⟨rfl, rfl, rfl⟩ | ⟨rfl, rfl, rfl⟩ | ⟨k, hk1, hk2, rfl, rfl, rfl⟩)
   · refine w_seq (qz hP hn ?_)
     refine o2 ?_
     refine s_nil trivial (n_wp ?_)
     refine w_T rfl ?_ 
     refine w_skip (n_wp (w_seq (w_block (g_reg hP hn ?_))))
     refine o3 ?_
     refine s_op (k_call [] (con := mark_c 2 (by decide))) ?_
     refine s_op k_bsf ?_
     refine s_op (k_apj (List.replicate (X1.length + 1) 2) (hl' := rep_j _ _)) ?_
     refine s_op k_as ?_
     refine s_nil trivial (n_blo (n_wp (g_reg hP hn ?_)))
     refine o3 ?_
     refine s_nil trivial ?_
     exact n_round 39 (by omega) (.inr (.inl ⟨rfl, rfl, rfl⟩)) (wk hE [0, 1, 2, 3, 4, 5, 6, 7])
   · refine w_seq (qz hP hn ?_)
     refine o2 ?_
     refine s_nil trivial (n_wp ?_)
     refine w_T rfl ?_ 
     refine w_skip (n_wp (w_seq (w_block (g_reg hP hn ?_))))
     refine o3 ?_
     refine s_op (k_call [] (con := mark_c 2 (by decide))) ?_
     refine s_op k_bsf ?_
     refine s_op (k_apf (c := X1.length + 2) (l' := List.replicate (X1.length + 2) 2) (hl' := rep_s _ _) (h0 := by exact Nat.zero_lt_one) (hbig := by show X1.length + 1 + 1 ≤ 1000000; omega)) ?_
     refine s_op k_as ?_
     refine s_nil trivial (n_blo (n_wp (g_reg hP hn ?_)))
     refine o3 ?_
     refine s_nil trivial ?_
     exact n_round 38 (by omega) (.inr (.inr ⟨2, by omega, by omega, rfl, rfl, rfl⟩)) (wk hE [0, 1, 2, 3, 4, 5, 6, 7, 9])
   · refine w_seq (qz hP hn ?_)
     refine o2 ?_
     refine s_nil trivial (n_wp ?_)
     refine w_if rfl (fun h_t25 => ?_) (fun h_t25 => ?_)
     · refine w_skip (n_wp (w_seq (w_block (g_reg hP hn ?_))))
       refine o3 ?_
       refine s_op (k_call [] (con := mark_c 2 (by decide))) ?_
       refine s_op k_bsf ?_
       refine s_op (k_apg (c := X1.length + (k + 1)) (l' := List.replicate (X1.length + (k + 1)) 2) (hl' := rep_t _ _) (hq := by exact Nat.le_refl _) (hbig := by show X1.length + k + 1 ≤ 1000000; omega)) ?_
       refine s_op k_as ?_
       refine s_nil trivial (n_blo (n_wp (g_reg hP hn ?_)))
       refine o3 ?_
       refine s_nil trivial ?_
       exact n_round (40 - (k + 1)) (by omega) (.inr (.inr ⟨k + 1, by omega, by omega, rfl, rfl, rfl⟩)) (wk hE [0, 1, 2, 3, 4, 5, 6, 7, 10])
     · obtain rfl : k = 40 := by omega
       refine w_exit (x_thn (x_thn (x_eq (n_wp (g_reg hP hn ?_)))))
       refine o4 ?_
       refine o2 ?_
       refine s_op (k_ixG 3 1) ?_
       refine s_op k_fa ?_
       refine s_st (k_st (h := by exact a_store_one rfl rfl SV.noConfusion rfl rfl (hset_seg (by repeat (first | apply sset_s _ rfl rfl | exact sset_0)) (by repeat (first | exact hset_0 | apply hset_s))))) ?_
       refine s_nil trivial (n_blo (n_wp (g_reg hP hn ?_)))
       refine o3 ?_
       refine s_nil trivial ?_
       exact n_round 2 (by omega) (.inr (.inr (.inl ⟨rfl, rfl, rfl⟩))) (wk hE [0, 1, 2, 3, 4, 5, 6, 8])
 · refine w_seq (qz hP hn ?_)
   refine o4 ?_
   refine o3 ?_
   refine s_nil trivial (n_wp ?_)
   refine w_T rfl ?_ 
   refine w_skip (n_wp (w_seq (w_block (qz hP hn ?_))))
   refine o3 ?_
   refine o2 ?_
   refine s_op (k_ixG 6 2) ?_
   refine s_op (k_ld (h := by exact a_load_agg (sub := (R3 (.slice 3 0 0 X2.length X2.length) .nils 3 [])) (r := (R3 (.slice 3 0 0 X2.length X2.length) .nils 3 (R3 (.slice 4 0 0 X3.length X3.length) .nils 4 []))) rfl rfl (by kernel_rfl) (by kernel_rfl))) ?_
   refine s_op k_al ?_
   refine s_st (k_st (h := by exact a_store_agg rfl rfl rfl (put_w (by kernel_rfl)) (by exact Nat.le_of_ble_eq_true rfl) (by kernel_rfl) (by repeat (first | exact hset_0 | apply hset_s)))) ?_
   refine qx hP hn ?_
   refine o3 ?_
   refine s_nil trivial (n_wp (w_seq (qz hP hn ?_)))
   refine s_op k_as ?_
   refine s_nil trivial (n_wp (w_block ?_))
   refine c_loop (fun m_ T H => (m_ = 40 ∧ T = [(0, .s (.ptr 0 0 0)), (2, .s (.int .i64 ((2 : Nat) : Int))), (3, .s (.ptr 8 0 0)), (4, .s (.slice 3 0 0 X2.length X2.length)), (5, .s (.int .i64 ((0 : Nat) : Int)))] ∧ H = [BKb 4 (.gro 5 3 4), IB (X0.length + 1) (List.replicate (X0.length + 1) 1), IB (X1.length + 1) (List.replicate (X1.length + 1) 2), IB X2.length (List.replicate X2.length 3), IB X3.length (List.replicate X3.length 4), RB (R3 (.slice 1 0 0 X0.length (X0.length + 1)) (.gro 6 1 (X0.length + 40)) 1 (R3 (.slice 2 0 0 X1.length (X1.length + 1)) (.gro 7 1 (X1.length + 40)) 2 (R3 (.slice 3 0 0 X2.length X2.length) .nils 3 (R3 (.slice 4 0 0 X3.length X3.length) .nils 4 [])))), IB (X0.length + 40) (List.replicate (X0.length + 40) 1), IB (X1.length + 40) (List.replicate (X1.length + 40) 2), RB (R3 (.slice 3 0 0 X2.length X2.length) .nils 3 [])]) ∨ (∃ k, 1 ≤ k ∧ k ≤ 40 ∧ m_ = 40 - k ∧ T = [(0, .s (.ptr 0 0 0)), (2, .s (.int .i64 ((2 : Nat) : Int))), (3, .s (.ptr 8 0 0)), (4, .s (.gro 9 1 (X2.length + k))), (5, .s (.int .i64 ((k : Nat) : Int)))] ∧ H = [BKb 4 (.gro 5 3 4), IB (X0.length + 1) (List.replicate (X0.length + 1) 1), IB (X1.length + 1) (List.replicate (X1.length + 1) 2), IB X2.length (List.replicate X2.length 3), IB X3.length (List.replicate X3.length 4), RB (R3 (.slice 1 0 0 X0.length (X0.length + 1)) (.gro 6 1 (X0.length + 40)) 1 (R3 (.slice 2 0 0 X1.length (X1.length + 1)) (.gro 7 1 (X1.length + 40)) 2 (R3 (.slice 3 0 0 X2.length X2.length) .nils 3 (R3 (.slice 4 0 0 X3.length X3.length) .nils 4 [])))), IB (X0.length + 40) (List.replicate (X0.length + 40) 1), IB (X1.length + 40) (List.replicate (X1.length + 40) 2), RB (R3 (.slice 3 0 0 X2.length X2.length) .nils 3 []), IB (X2.length + k) (List.replicate (X2.length + k) 3)])) (40) (.inl ⟨rfl, rfl, rfl⟩) (wk hE [0, 1, 2, 3, 4, 5, 6, 7, 8]) ?_
   rintro n_ T_ H_ (⟨rfl, rfl, rfl⟩ | ⟨k, hk1, hk2, rfl, rfl, rfl⟩)
   · refine w_seq (qz hP hn ?_)
     refine o2 ?_
     refine s_nil trivial (n_wp ?_)
     refine w_T rfl ?_ 
     refine w_skip (n_wp (w_seq (w_block (g_reg hP hn ?_))))
     refine o3 ?_
     refine s_op (k_call [] (con := mark_c 3 (by decide))) ?_
     refine s_op k_bsf ?_
     refine s_op (k_apf (c := X2.length + 1) (l' := List.replicate (X2.length + 1) 3) (hl' := rep_s _ _) (h0 := by exact Nat.zero_lt_one) (hbig := by show X2.length + 1 ≤ 1000000; omega)) ?_
     refine s_op k_as ?_
     refine s_nil trivial (n_blo (n_wp (g_reg hP hn ?_)))
     refine o3 ?_
     refine s_nil trivial ?_
     exact n_round 39 (by omega) (.inr ⟨1, by omega, by omega, rfl, rfl, rfl⟩) (wk hE [0, 1, 2, 3, 4, 5, 6, 7, 8, 10])
   · refine w_seq (qz hP hn ?_)
     refine o2 ?_
     refine s_nil trivial (n_wp ?_)
     refine w_if rfl (fun h_t25 => ?_) (fun h_t25 => ?_)
     · refine w_skip (n_wp (w_seq (w_block (g_reg hP hn ?_))))
       refine o3 ?_
       refine s_op (k_call [] (con := mark_c 3 (by decide))) ?_
       refine s_op k_bsf ?_
       refine s_op (k_apg (c := X2.length + (k + 1)) (l' := List.replicate (X2.length + (k + 1)) 3) (hl' := rep_t _ _) (hq := by exact Nat.le_refl _) (hbig := by show X2.length + k + 1 ≤ 1000000; omega)) ?_
       refine s_op k_as ?_
       refine s_nil trivial (n_blo (n_wp (g_reg hP hn ?_)))
       refine o3 ?_
       refine s_nil trivial ?_
       exact n_round (40 - (k + 1)) (by omega) (.inr ⟨k + 1, by omega, by omega, rfl, rfl, rfl⟩) (wk hE [0, 1, 2, 3, 4, 5, 6, 7, 8, 11])
     · obtain rfl : k = 40 := by omega
       refine w_exit (x_thn (x_thn (x_eq (n_wp (g_reg hP hn ?_)))))
       refine o4 ?_
       refine o2 ?_
       refine s_op (k_ixG 6 2) ?_
       refine s_op k_fa ?_
       refine s_st (k_st (h := by exact a_store_one rfl rfl SV.noConfusion rfl rfl (hset_seg (by repeat (first | apply sset_s _ rfl rfl | exact sset_0)) (by repeat (first | exact hset_0 | apply hset_s))))) ?_
       refine s_nil trivial (n_blo (n_wp (g_reg hP hn ?_)))
       refine o3 ?_
       refine s_nil trivial ?_
       exact n_round 1 (by omega) (.inr (.inr (.inr (.inl ⟨rfl, rfl, rfl⟩)))) (wk hE [0, 1, 2, 3, 4, 5, 6, 7, 9])
 · refine w_seq (qz hP hn ?_)
   refine o4 ?_
   refine o3 ?_
   refine s_nil trivial (n_wp ?_)
   refine w_T rfl ?_ 
   refine w_skip (n_wp (w_seq (w_block (qz hP hn ?_))))
   refine o3 ?_
   refine o2 ?_
   refine s_op (k_ixG 9 3) ?_
   refine s_op (k_ld (h := by exact a_load_agg (sub := (R3 (.slice 4 0 0 X3.length X3.length) .nils 4 [])) (r := (R3 (.slice 4 0 0 X3.length X3.length) .nils 4 [])) rfl rfl (by kernel_rfl) (by kernel_rfl))) ?_
   refine s_op k_al ?_
   refine s_st (k_st (h := by exact a_store_agg rfl rfl rfl (put_w (by kernel_rfl)) (by exact Nat.le_of_ble_eq_true rfl) (by kernel_rfl) (by repeat (first | exact hset_0 | apply hset_s)))) ?_
   refine qx hP hn ?_
   refine o3 ?_
   refine s_nil trivial (n_wp (w_seq (qz hP hn ?_)))
   refine s_op k_as ?_
   refine s_nil trivial (n_wp (w_block ?_))
   refine c_loop (fun m_ T H => (m_ = 40 ∧ T = [(0, .s (.ptr 0 0 0)), (2, .s (.int .i64 ((3 : Nat) : Int))), (3, .s (.ptr 9 0 0)), (4, .s (.slice 4 0 0 X3.length X3.length)), (5, .s (.int .i64 ((0 : Nat) : Int)))] ∧ H = [BKb 4 (.gro 5 3 4), IB (X0.length + 1) (List.replicate (X0.length + 1) 1), IB (X1.length + 1) (List.replicate (X1.length + 1) 2), IB X2.length (List.replicate X2.length 3), IB X3.length (List.replicate X3.length 4), RB (R3 (.slice 1 0 0 X0.length (X0.length + 1)) (.gro 6 1 (X0.length + 40)) 1 (R3 (.slice 2 0 0 X1.length (X1.length + 1)) (.gro 7 1 (X1.length + 40)) 2 (R3 (.slice 3 0 0 X2.length X2.length) (.gro 8 1 (X2.length + 40)) 3 (R3 (.slice 4 0 0 X3.length X3.length) .nils 4 [])))), IB (X0.length + 40) (List.replicate (X0.length + 40) 1), IB (X1.length + 40) (List.replicate (X1.length + 40) 2), IB (X2.length + 40) (List.replicate (X2.length + 40) 3), RB (R3 (.slice 4 0 0 X3.length X3.length) .nils 4 [])]) ∨ (∃ k, 1 ≤ k ∧ k ≤ 40 ∧ m_ = 40 - k ∧ T = [(0, .s (.ptr 0 0 0)), (2, .s (.int .i64 ((3 : Nat) : Int))), (3, .s (.ptr 9 0 0)), (4, .s (.gro 10 1 (X3.length + k))), (5, .s (.int .i64 ((k : Nat) : Int)))] ∧ H = [BKb 4 (.gro 5 3 4), IB (X0.length + 1) (List.replicate (X0.length + 1) 1), IB (X1.length + 1) (List.replicate (X1.length + 1) 2), IB X2.length (List.replicate X2.length 3), IB X3.length (List.replicate X3.length 4), RB (R3 (.slice 1 0 0 X0.length (X0.length + 1)) (.gro 6 1 (X0.length + 40)) 1 (R3 (.slice 2 0 0 X1.length (X1.length + 1)) (.gro 7 1 (X1.length + 40)) 2 (R3 (.slice 3 0 0 X2.length X2.length) (.gro 8 1 (X2.length + 40)) 3 (R3 (.slice 4 0 0 X3.length X3.length) .nils 4 [])))), IB (X0.length + 40) (List.replicate (X0.length + 40) 1), IB (X1.length + 40) (List.replicate (X1.length + 40) 2), IB (X2.length + 40) (List.replicate (X2.length + 40) 3), RB (R3 (.slice 4 0 0 X3.length X3.length) .nils 4 []), IB (X3.length + k) (List.replicate (X3.length + k) 4)])) (40) (.inl ⟨rfl, rfl, rfl⟩) (wk hE [0, 1, 2, 3, 4, 5, 6, 7, 8, 9]) ?_
   rintro n_ T_ H_ (⟨rfl, rfl, rfl⟩ | ⟨k, hk1, hk2, rfl, rfl, rfl⟩)
   · refine w_seq (qz hP hn ?_)
     refine o2 ?_
     refine s_nil trivial (n_wp ?_)
     refine w_T rfl ?_ 
     refine w_skip (n_wp (w_seq (w_block (g_reg hP hn ?_))))
     refine o3 ?_
     refine s_op (k_call [] (con := mark_c 4 (by decide))) ?_
     refine s_op k_bsf ?_
     refine s_op (k_apf (c := X3.length + 1) (l' := List.replicate (X3.length + 1) 4) (hl' := rep_s _ _) (h0 := by exact Nat.zero_lt_one) (hbig := by show X3.length + 1 ≤ 1000000; omega)) ?_
     refine s_op k_as ?_
     refine s_nil trivial (n_blo (n_wp (g_reg hP hn ?_)))
     refine o3 ?_
     refine s_nil trivial ?_
     exact n_round 39 (by omega) (.inr ⟨1, by omega, by omega, rfl, rfl, rfl⟩) (wk hE [0, 1, 2, 3, 4, 5, 6, 7, 8, 9, 11])
   · refine w_seq (qz hP hn ?_)
     refine o2 ?_
     refine s_nil trivial (n_wp ?_)
     refine w_if rfl (fun h_t25 => ?_) (fun h_t25 => ?_)
     · refine w_skip (n_wp (w_seq (w_block (g_reg hP hn ?_))))
       refine o3 ?_
       refine s_op (k_call [] (con := mark_c 4 (by decide))) ?_
       refine s_op k_bsf ?_
       refine s_op (k_apg (c := X3.length + (k + 1)) (l' := List.replicate (X3.length + (k + 1)) 4) (hl' := rep_t _ _) (hq := by exact Nat.le_refl _) (hbig := by show X3.length + k + 1 ≤ 1000000; omega)) ?_
       refine s_op k_as ?_
       refine s_nil trivial (n_blo (n_wp (g_reg hP hn ?_)))
       refine o3 ?_
       refine s_nil trivial ?_
       exact n_round (40 - (k + 1)) (by omega) (.inr ⟨k + 1, by omega, by omega, rfl, rfl, rfl⟩) (wk hE [0, 1, 2, 3, 4, 5, 6, 7, 8, 9, 12])
     · obtain rfl : k = 40 := by omega
       refine w_exit (x_thn (x_thn (x_eq (n_wp (g_reg hP hn ?_)))))
       refine o4 ?_
       refine o2 ?_
       refine s_op (k_ixG 9 3) ?_
       refine s_op k_fa ?_
       refine s_st (k_st (h := by exact a_store_one rfl rfl SV.noConfusion rfl rfl (hset_seg (by repeat (first | apply sset_s _ rfl rfl | exact sset_0)) (by repeat (first | exact hset_0 | apply hset_s))))) ?_
       refine s_nil trivial (n_blo (n_wp (g_reg hP hn ?_)))
       refine o3 ?_
       refine s_nil trivial ?_
       exact n_round 0 (by omega) (.inr (.inr (.inr (.inr (⟨rfl, rfl, rfl⟩))))) (wk hE [0, 1, 2, 3, 4, 5, 6, 7, 8, 10])
 · refine w_seq (qz hP hn ?_)
   refine o4 ?_
   refine o3 ?_
   refine s_nil trivial (n_wp ?_)
   refine w_F rfl ?_ 
   refine w_exit (x_thn (x_thn (x_eq ?_)))
   exact d_ret hP hn hE [0, 1, 2, 3, 4, 5, 6, 7, 8, 9] (ret_none Tryz.results63)

theorem look_AABB (X0 : List Int) (hX0 : X0.length ≤ 100000) (X1 : List Int) (hX1 : X1.length ≤ 100000) (X2 : List Int) (hX2 : X2.length ≤ 100000) (X3 : List Int) (hX3 : X3.length ≤ 100000) : Con Tryz.prog 78 [.s (.ptr 0 0 0)] [BKb 4 (.gro 5 3 4), IB (X0.length + 1) (List.replicate (X0.length + 1) 1), IB (X1.length + 1) (List.replicate (X1.length + 1) 2), IB X2.length (List.replicate X2.length 3), IB X3.length (List.replicate X3.length 4), RB (R3 (.slice 1 0 0 X0.length (X0.length + 1)) (.gro 6 1 (X0.length + 40)) 1 (R3 (.slice 2 0 0 X1.length (X1.length + 1)) (.gro 7 1 (X1.length + 40)) 2 (R3 (.slice 3 0 0 X2.length X2.length) (.gro 8 1 (X2.length + 40)) 3 (R3 (.slice 4 0 0 X3.length X3.length) (.gro 9 1 (X3.length + 40)) 4 [])))), IB (X0.length + 40) (List.replicate (X0.length + 40) 1), IB (X1.length + 40) (List.replicate (X1.length + 40) 2), IB (X2.length + 40) (List.replicate (X2.length + 40) 3), IB (X3.length + 40) (List.replicate (X3.length + 40) 4)] (.s (.bool true)) [BKb 4 (.gro 5 3 4), IB (X0.length + 1) (List.replicate (X0.length + 1) 1), IB (X1.length + 1) (List.replicate (X1.length + 1) 2), IB X2.length (List.replicate X2.length 3), IB X3.length (List.replicate X3.length 4), RB (R3 (.slice 1 0 0 X0.length (X0.length + 1)) (.gro 6 1 (X0.length + 40)) 1 (R3 (.slice 2 0 0 X1.length (X1.length + 1)) (.gro 7 1 (X1.length + 40)) 2 (R3 (.slice 3 0 0 X2.length X2.length) (.gro 8 1 (X2.length + 40)) 3 (R3 (.slice 4 0 0 X3.length X3.length) (.gro 9 1 (X3.length + 40)) 4 [])))), IB (X0.length + 40) (List.replicate (X0.length + 40) 1), IB (X1.length + 40) (List.replicate (X1.length + 40) 2), IB (X2.length + 40) (List.replicate (X2.length + 40) 3), IB (X3.length + 40) (List.replicate (X3.length + 40) 4)] := by
 refine con_in 64 Tryz.func78 rfl rfl (m := 10) rfl ?_
 intro E hP hn hE
 refine qz hP hn ?_
 refine s_op k_as ?_
 refine s_nil trivial (n_wp (w_seq (qz hP hn ?_)))
 refine s_op k_as ?_
 refine s_nil trivial (n_wp (w_block ?_))
 refine c_loop (fun m_ T H => (m_ = 4 ∧ T = [(0, .s (.ptr 0 0 0)), (3, .s (.int .i64 ((0 : Nat) : Int)))] ∧ H = [BKb 4 (.gro 5 3 4), IB (X0.length + 1) (List.replicate (X0.length + 1) 1), IB (X1.length + 1) (List.replicate (X1.length + 1) 2), IB X2.length (List.replicate X2.length 3), IB X3.length (List.replicate X3.length 4), RB (R3 (.slice 1 0 0 X0.length (X0.length + 1)) (.gro 6 1 (X0.length + 40)) 1 (R3 (.slice 2 0 0 X1.length (X1.length + 1)) (.gro 7 1 (X1.length + 40)) 2 (R3 (.slice 3 0 0 X2.length X2.length) (.gro 8 1 (X2.length + 40)) 3 (R3 (.slice 4 0 0 X3.length X3.length) (.gro 9 1 (X3.length + 40)) 4 [])))), IB (X0.length + 40) (List.replicate (X0.length + 40) 1), IB (X1.length + 40) (List.replicate (X1.length + 40) 2), IB (X2.length + 40) (List.replicate (X2.length + 40) 3), IB (X3.length + 40) (List.replicate (X3.length + 40) 4)]) ∨ (m_ = 3 ∧ T = [(0, .s (.ptr 0 0 0)), (3, .s (.int .i64 ((1 : Nat) : Int)))] ∧ H = [BKb 4 (.gro 5 3 4), IB (X0.length + 1) (List.replicate (X0.length + 1) 1), IB (X1.length + 1) (List.replicate (X1.length + 1) 2), IB X2.length (List.replicate X2.length 3), IB X3.length (List.replicate X3.length 4), RB (R3 (.slice 1 0 0 X0.length (X0.length + 1)) (.gro 6 1 (X0.length + 40)) 1 (R3 (.slice 2 0 0 X1.length (X1.length + 1)) (.gro 7 1 (X1.length + 40)) 2 (R3 (.slice 3 0 0 X2.length X2.length) (.gro 8 1 (X2.length + 40)) 3 (R3 (.slice 4 0 0 X3.length X3.length) (.gro 9 1 (X3.length + 40)) 4 [])))), IB (X0.length + 40) (List.replicate (X0.length + 40) 1), IB (X1.length + 40) (List.replicate (X1.length + 40) 2), IB (X2.length + 40) (List.replicate (X2.length + 40) 3), IB (X3.length + 40) (List.replicate (X3.length + 40) 4)]) ∨ (m_ = 2 ∧ T = [(0, .s (.ptr 0 0 0)), (3, .s (.int .i64 ((2 : Nat) : Int)))] ∧ H = [BKb 4 (.gro 5 3 4), IB (X0.length + 1) (List.replicate (X0.length + 1) 1), IB (X1.length + 1) (List.replicate (X1.length + 1) 2), IB X2.length (List.replicate X2.length 3), IB X3.length (List.replicate X3.length 4), RB (R3 (.slice 1 0 0 X0.length (X0.length + 1)) (.gro 6 1 (X0.length + 40)) 1 (R3 (.slice 2 0 0 X1.length (X1.length + 1)) (.gro 7 1 (X1.length + 40)) 2 (R3 (.slice 3 0 0 X2.length X2.length) (.gro 8 1 (X2.length + 40)) 3 (R3 (.slice 4 0 0 X3.length X3.length) (.gro 9 1 (X3.length + 40)) 4 [])))), IB (X0.length + 40) (List.replicate (X0.length + 40) 1), IB (X1.length + 40) (List.replicate (X1.length + 40) 2), IB (X2.length + 40) (List.replicate (X2.length + 40) 3), IB (X3.length + 40) (List.replicate (X3.length + 40) 4)]) ∨ (m_ = 1 ∧ T = [(0, .s (.ptr 0 0 0)), (3, .s (.int .i64 ((3 : Nat) : Int)))] ∧ H = [BKb 4 (.gro 5 3 4), IB (X0.length + 1) (List.replicate (X0.length + 1) 1), IB (X1.length + 1) (List.replicate (X1.length + 1) 2), IB X2.length (List.replicate X2.length 3), IB X3.length (List.replicate X3.length 4), RB (R3 (.slice 1 0 0 X0.length (X0.length + 1)) (.gro 6 1 (X0.length + 40)) 1 (R3 (.slice 2 0 0 X1.length (X1.length + 1)) (.gro 7 1 (X1.length + 40)) 2 (R3 (.slice 3 0 0 X2.length X2.length) (.gro 8 1 (X2.length + 40)) 3 (R3 (.slice 4 0 0 X3.length X3.length) (.gro 9 1 (X3.length + 40)) 4 [])))), IB (X0.length + 40) (List.replicate (X0.length + 40) 1), IB (X1.length + 40) (List.replicate (X1.length + 40) 2), IB (X2.length + 40) (List.replicate (X2.length + 40) 3), IB (X3.length + 40) (List.replicate (X3.length + 40) 4)]) ∨ (m_ = 0 ∧ T = [(0, .s (.ptr 0 0 0)), (3, .s (.int .i64 ((4 : Nat) : Int)))] ∧ H = [BKb 4 (.gro 5 3 4), IB (X0.length + 1) (List.replicate (X0.length + 1) 1), IB (X1.length + 1) (List.replicate (X1.length + 1) 2), IB X2.length (List.replicate X2.length 3), IB X3.length (List.replicate X3.length 4), RB (R3 (.slice 1 0 0 X0.length (X0.length + 1)) (.gro 6 1 (X0.length + 40)) 1 (R3 (.slice 2 0 0 X1.length (X1.length + 1)) (.gro 7 1 (X1.length + 40)) 2 (R3 (.slice 3 0 0 X2.length X2.length) (.gro 8 1 (X2.length + 40)) 3 (R3 (.slice 4 0 0 X3.length X3.length) (.gro 9 1 (X3.length + 40)) 4 [])))), IB (X0.length + 40) (List.replicate (X0.length + 40) 1), IB (X1.length + 40) (List.replicate (X1.length + 40) 2), IB (X2.length + 40) (List.replicate (X2.length + 40) 3), IB (X3.length + 40) (List.replicate (X3.length + 40) 4)])) (4) (.inl ⟨rfl, rfl, rfl⟩) (wk hE [0, 1, 2, 3, 4, 5, 6, 7, 8, 9]) ?_
 rintro n_ T_ H_ (⟨rfl, rfl, rfl⟩ | ⟨rfl, rfl, rfl⟩ | ⟨rfl, rfl, rfl⟩ | ⟨rfl, rfl, rfl⟩ | ⟨rfl, rfl, rfl⟩)
 · refine w_seq (qz hP hn ?_)
   refine o4 ?_
   refine o3 ?_
   refine s_nil trivial (n_wp ?_)
   refine w_T rfl ?_ 
   refine w_skip (n_wp (w_seq (w_block (qz hP hn ?_))))
   refine o3 ?_
   refine o2 ?_
   refine s_op (k_ixG 0 0) ?_
   refine s_op (k_ld (h := by exact a_load_agg (sub := (R3 (.slice 1 0 0 X0.length (X0.length + 1)) (.gro 6 1 (X0.length + 40)) 1 [])) (r := (R3 (.slice 1 0 0 X0.length (X0.length + 1)) (.gro 6 1 (X0.length + 40)) 1 (R3 (.slice 2 0 0 X1.length (X1.length + 1)) (.gro 7 1 (X1.length + 40)) 2 (R3 (.slice 3 0 0 X2.length X2.length) (.gro 8 1 (X2.length + 40)) 3 (R3 (.slice 4 0 0 X3.length X3.length) (.gro 9 1 (X3.length + 40)) 4 []))))) rfl rfl (by kernel_rfl) (by kernel_rfl))) ?_
   refine s_op k_al ?_
   refine s_st (k_st (h := by exact a_store_agg rfl rfl rfl (put_w (by kernel_rfl)) (by exact Nat.le_of_ble_eq_true rfl) (by kernel_rfl) (by repeat (first | exact hset_0 | apply hset_s)))) ?_
   refine s_nil trivial (n_wp (w_seq (qz hP hn ?_)))
   refine o4 ?_
   refine o3 ?_
   refine s_op (l_bin rfl rfl (b_neq (r := false) (decide_eq_false (by omega)))) ?_
   refine s_nil trivial (n_wp ?_)
   refine w_F rfl ?_ 
   refine w_skip (n_wp (qz hP hn ?_))
   refine s_op k_as ?_
   refine s_nil trivial (n_wp (w_block ?_))
   refine c_loop (fun m_ T H => ∃ k, k ≤ X0.length + 40 ∧ m_ = X0.length + 40 - k ∧ T = [(0, .s (.ptr 0 0 0)), (3, .s (.int .i64 ((0 : Nat) : Int))), (4, .s (.ptr 10 0 0)), (5, .s (.int .i64 ((k : Nat) : Int)))] ∧ H = [BKb 4 (.gro 5 3 4), IB (X0.length + 1) (List.replicate (X0.length + 1) 1), IB (X1.length + 1) (List.replicate (X1.length + 1) 2), IB X2.length (List.replicate X2.length 3), IB X3.length (List.replicate X3.length 4), RB (R3 (.slice 1 0 0 X0.length (X0.length + 1)) (.gro 6 1 (X0.length + 40)) 1 (R3 (.slice 2 0 0 X1.length (X1.length + 1)) (.gro 7 1 (X1.length + 40)) 2 (R3 (.slice 3 0 0 X2.length X2.length) (.gro 8 1 (X2.length + 40)) 3 (R3 (.slice 4 0 0 X3.length X3.length) (.gro 9 1 (X3.length + 40)) 4 [])))), IB (X0.length + 40) (List.replicate (X0.length + 40) 1), IB (X1.length + 40) (List.replicate (X1.length + 40) 2), IB (X2.length + 40) (List.replicate (X2.length + 40) 3), IB (X3.length + 40) (List.replicate (X3.length + 40) 4), RB (R3 (.slice 1 0 0 X0.length (X0.length + 1)) (.gro 6 1 (X0.length + 40)) 1 [])]) (X0.length + 40) ⟨0, by omega, rfl, rfl, rfl⟩ (wk hE [0, 1, 2, 3, 4, 5, 6, 7, 8, 9, 10]) ?_
   rintro n_ T_ H_ ⟨k, hk, rfl, rfl, rfl⟩
   refine w_seq (qz hP hn ?_)
   refine o3 ?_
   refine o2 ?_
   refine s_nil trivial (n_wp ?_)
   refine w_if rfl (fun h_t34 => ?_) (fun h_t34 => ?_)
   · refine w_skip (n_wp (w_seq (w_block (w_seq ?_))))
     refine g_any hP hn ?_
     refine o4 ?_
     refine o3 ?_
     refine s_op (k_call [] (con := is_t 1 _ (by decide) (rep_g _ _ _ (by omega)))) ?_
     refine o2 ?_
     refine s_on rfl rfl rfl k_mv ?_
     refine s_on rfl rfl rfl k_fa ?_
     refine s_on rfl rfl rfl k_ld ?_
     refine s_on rfl rfl rfl k_len ?_
     refine s_on rfl rfl rfl k_lss ?_
     refine s_on rfl rfl rfl k_mv ?_
     refine s_opt rfl rfl (fun hB => by rw [hB]; (try simp only [Bool.or_eq_true, Bool.or_eq_false_iff, Bool.and_eq_true, Bool.not_eq_true', Bool.not_eq_false', decide_eq_true_eq, decide_eq_false_iff_not] at hB); exact k_fa) ?_
     refine s_opt rfl rfl (fun hB => by rw [hB]; (try simp only [Bool.or_eq_true, Bool.or_eq_false_iff, Bool.and_eq_true, Bool.not_eq_true', Bool.not_eq_false', decide_eq_true_eq, decide_eq_false_iff_not] at hB); exact k_ld) ?_
     refine s_opt rfl rfl (fun hB => by rw [hB]; (try simp only [Bool.or_eq_true, Bool.or_eq_false_iff, Bool.and_eq_true, Bool.not_eq_true', Bool.not_eq_false', decide_eq_true_eq, decide_eq_false_iff_not] at hB); exact k_mv) ?_
     refine s_opt rfl rfl (fun hB => by rw [hB]; (try simp only [Bool.or_eq_true, Bool.or_eq_false_iff, Bool.and_eq_true, Bool.not_eq_true', Bool.not_eq_false', decide_eq_true_eq, decide_eq_false_iff_not] at hB); exact k_ix) ?_
     refine s_opt rfl rfl (fun hB => by rw [hB]; (try simp only [Bool.or_eq_true, Bool.or_eq_false_iff, Bool.and_eq_true, Bool.not_eq_true', Bool.not_eq_false', decide_eq_true_eq, decide_eq_false_iff_not] at hB); exact k_ld) ?_
     refine s_opt rfl rfl (fun hB => by rw [hB]; (try simp only [Bool.or_eq_true, Bool.or_eq_false_iff, Bool.and_eq_true, Bool.not_eq_true', Bool.not_eq_false', decide_eq_true_eq, decide_eq_false_iff_not] at hB); exact k_fa) ?_
     refine s_opt rfl rfl (fun hB => by rw [hB]; (try simp only [Bool.or_eq_true, Bool.or_eq_false_iff, Bool.and_eq_true, Bool.not_eq_true', Bool.not_eq_false', decide_eq_true_eq, decide_eq_false_iff_not] at hB); exact k_ld) ?_
     refine s_opt rfl rfl (fun hB => by rw [hB]; (try simp only [Bool.or_eq_true, Bool.or_eq_false_iff, Bool.and_eq_true, Bool.not_eq_true', Bool.not_eq_false', decide_eq_true_eq, decide_eq_false_iff_not] at hB); exact k_call [] (con := is_t 1 _ (by decide) (rep_g _ _ _ (by omega)))) ?_
     refine s_opt rfl rfl (fun hB => by rw [hB]; (try simp only [Bool.or_eq_true, Bool.or_eq_false_iff, Bool.and_eq_true, Bool.not_eq_true', Bool.not_eq_false', decide_eq_true_eq, decide_eq_false_iff_not] at hB); exact k_not) ?_
     refine s_on rfl rfl rfl k_pk ?_
     refine s_op k_pk ?_
     refine s_nil (by kernel_rfl) ?_
     refine n_wp ?_
     refine w_F rfl ?_ (by first | rfl | exact Bool.and_false _ | simp)
     refine w_skip (n_blo (n_wp (g_reg hP hn ?_)))
     refine o3 ?_
     refine s_nil trivial ?_
     exact n_round (X0.length + 40 - (k + 1)) (by omega) ⟨k + 1, by omega, rfl, rfl, rfl⟩ (wk hE [0, 1, 2, 3, 4, 5, 6, 7, 8, 9, 10])
   · obtain rfl : k = X0.length + 40 := by omega
     refine w_exit (x_thn (x_thn (x_eq (n_blo (n_wp (g_reg hP hn ?_))))))
     refine o3 ?_
     refine s_nil trivial ?_
     exact n_round 3 (by omega) (.inr (.inl ⟨rfl, rfl, rfl⟩)) (wk hE [0, 1, 2, 3, 4, 5, 6, 7, 8, 9])
 · refine w_seq (qz hP hn ?_)
   refine o4 ?_
   refine o3 ?_
   refine s_nil trivial (n_wp ?_)
   refine w_T rfl ?_ 
   refine w_skip (n_wp (w_seq (w_block (qz hP hn ?_))))
   refine o3 ?_
   refine o2 ?_
   refine s_op (k_ixG 3 1) ?_
   refine s_op (k_ld (h := by exact a_load_agg (sub := (R3 (.slice 2 0 0 X1.length (X1.length + 1)) (.gro 7 1 (X1.length + 40)) 2 [])) (r := (R3 (.slice 2 0 0 X1.length (X1.length + 1)) (.gro 7 1 (X1.length + 40)) 2 (R3 (.slice 3 0 0 X2.length X2.length) (.gro 8 1 (X2.length + 40)) 3 (R3 (.slice 4 0 0 X3.length X3.length) (.gro 9 1 (X3.length + 40)) 4 [])))) rfl rfl (by kernel_rfl) (by kernel_rfl))) ?_
   refine s_op k_al ?_
   refine s_st (k_st (h := by exact a_store_agg rfl rfl rfl (put_w (by kernel_rfl)) (by exact Nat.le_of_ble_eq_true rfl) (by kernel_rfl) (by repeat (first | exact hset_0 | apply hset_s)))) ?_
   refine s_nil trivial (n_wp (w_seq (qz hP hn ?_)))
   refine o4 ?_
   refine o3 ?_
   refine s_op (l_bin rfl rfl (b_neq (r := false) (decide_eq_false (by omega)))) ?_
   refine s_nil trivial (n_wp ?_)
   refine w_F rfl ?_ 
   refine w_skip (n_wp (qz hP hn ?_))
   refine s_op k_as ?_
   refine s_nil trivial (n_wp (w_block ?_))
   refine c_loop (fun m_ T H => ∃ k, k ≤ X1.length + 40 ∧ m_ = X1.length + 40 - k ∧ T = [(0, .s (.ptr 0 0 0)), (3, .s (.int .i64 ((1 : Nat) : Int))), (4, .s (.ptr 10 0 0)), (5, .s (.int .i64 ((k : Nat) : Int)))] ∧ H = [BKb 4 (.gro 5 3 4), IB (X0.length + 1) (List.replicate (X0.length + 1) 1), IB (X1.length + 1) (List.replicate (X1.length + 1) 2), IB X2.length (List.replicate X2.length 3), IB X3.length (List.replicate X3.length 4), RB (R3 (.slice 1 0 0 X0.length (X0.length + 1)) (.gro 6 1 (X0.length + 40)) 1 (R3 (.slice 2 0 0 X1.length (X1.length + 1)) (.gro 7 1 (X1.length + 40)) 2 (R3 (.slice 3 0 0 X2.length X2.length) (.gro 8 1 (X2.length + 40)) 3 (R3 (.slice 4 0 0 X3.length X3.length) (.gro 9 1 (X3.length + 40)) 4 [])))), IB (X0.length + 40) (List.replicate (X0.length + 40) 1), IB (X1.length + 40) (List.replicate (X1.length + 40) 2), IB (X2.length + 40) (List.replicate (X2.length + 40) 3), IB (X3.length + 40) (List.replicate (X3.length + 40) 4), RB (R3 (.slice 2 0 0 X1.length (X1.length + 1)) (.gro 7 1 (X1.length + 40)) 2 [])]) (X1.length + 40) ⟨0, by omega, rfl, rfl, rfl⟩ (wk hE [0, 1, 2, 3, 4, 5, 6, 7, 8, 9, 10]) ?_
   rintro n_ T_ H_ ⟨k, hk, rfl, rfl, rfl⟩
   refine w_seq (qz hP hn ?_)
   refine o3 ?_
   refine o2 ?_
   refine s_nil trivial (n_wp ?_)
   refine w_if rfl (fun h_t34 => ?_) (fun h_t34 => ?_)
   · refine w_skip (n_wp (w_seq (w_block (w_seq ?_))))
     refine g_any hP hn ?_
     refine o4 ?_
     refine o3 ?_
     refine s_op (k_call [] (con := is_t 2 _ (by decide) (rep_g _ _ _ (by omega)))) ?_
     refine o2 ?_
     refine s_on rfl rfl rfl k_mv ?_
     refine s_on rfl rfl rfl k_fa ?_
     refine s_on rfl rfl rfl k_ld ?_
     refine s_on rfl rfl rfl k_len ?_
     refine s_on rfl rfl rfl k_lss ?_
     refine s_on rfl rfl rfl k_mv ?_
     refine s_opt rfl rfl (fun hB => by rw [hB]; (try simp only [Bool.or_eq_true, Bool.or_eq_false_iff, Bool.and_eq_true, Bool.not_eq_true', Bool.not_eq_false', decide_eq_true_eq, decide_eq_false_iff_not] at hB); exact k_fa) ?_
     refine s_opt rfl rfl (fun hB => by rw [hB]; (try simp only [Bool.or_eq_true, Bool.or_eq_false_iff, Bool.and_eq_true, Bool.not_eq_true', Bool.not_eq_false', decide_eq_true_eq, decide_eq_false_iff_not] at hB); exact k_ld) ?_
     refine s_opt rfl rfl (fun hB => by rw [hB]; (try simp only [Bool.or_eq_true, Bool.or_eq_false_iff, Bool.and_eq_true, Bool.not_eq_true', Bool.not_eq_false', decide_eq_true_eq, decide_eq_false_iff_not] at hB); exact k_mv) ?_
     refine s_opt rfl rfl (fun hB => by rw [hB]; (try simp only [Bool.or_eq_true, Bool.or_eq_false_iff, Bool.and_eq_true, Bool.not_eq_true', Bool.not_eq_false', decide_eq_true_eq, decide_eq_false_iff_not] at hB); exact k_ix) ?_
     refine s_opt rfl rfl (fun hB => by rw [hB]; (try simp only [Bool.or_eq_true, Bool.or_eq_false_iff, Bool.and_eq_true, Bool.not_eq_true', Bool.not_eq_false', decide_eq_true_eq, decide_eq_false_iff_not] at hB); exact k_ld) ?_
     refine s_opt rfl rfl (fun hB => by rw [hB]; (try simp only [Bool.or_eq_true, Bool.or_eq_false_iff, Bool.and_eq_true, Bool.not_eq_true', Bool.not_eq_false', decide_eq_true_eq, decide_eq_false_iff_not] at hB); exact k_fa) ?_
     refine s_opt rfl rfl (fun hB => by rw [hB]; (try simp only [Bool.or_eq_true, Bool.or_eq_false_iff, Bool.and_eq_true, Bool.not_eq_true', Bool.not_eq_false', decide_eq_true_eq, decide_eq_false_iff_not] at hB); exact k_ld) ?_
     refine s_opt rfl rfl (fun hB => by rw [hB]; (try simp only [Bool.or_eq_true, Bool.or_eq_false_iff, Bool.and_eq_true, Bool.not_eq_true', Bool.not_eq_false', decide_eq_true_eq, decide_eq_false_iff_not] at hB); exact k_call [] (con := is_t 2 _ (by decide) (rep_g _ _ _ (by omega)))) ?_
     refine s_opt rfl rfl (fun hB => by rw [hB]; (try simp only [Bool.or_eq_true, Bool.or_eq_false_iff, Bool.and_eq_true, Bool.not_eq_true', Bool.not_eq_false', decide_eq_true_eq, decide_eq_false_iff_not] at hB); exact k_not) ?_
     refine s_on rfl rfl rfl k_pk ?_
     refine s_op k_pk ?_
     refine s_nil (by kernel_rfl) ?_
     refine n_wp ?_
     refine w_F rfl ?_ (by first | rfl | exact Bool.and_false _ | simp)
     refine w_skip (n_blo (n_wp (g_reg hP hn ?_)))
     refine o3 ?_
     refine s_nil trivial ?_
     exact n_round (X1.length + 40 - (k + 1)) (by omega) ⟨k + 1, by omega, rfl, rfl, rfl⟩ (wk hE [0, 1, 2, 3, 4, 5, 6, 7, 8, 9, 10])
   · obtain rfl : k = X1.length + 40 := by omega
     refine w_exit (x_thn (x_thn (x_eq (n_blo (n_wp (g_reg hP hn ?_))))))
     refine o3 ?_
     refine s_nil trivial ?_
     exact n_round 2 (by omega) (.inr (.inr (.inl ⟨rfl, rfl, rfl⟩))) (wk hE [0, 1, 2, 3, 4, 5, 6, 7, 8, 9])
 · refine w_seq (qz hP hn ?_)
   refine o4 ?_
   refine o3 ?_
   refine s_nil trivial (n_wp ?_)
   refine w_T rfl ?_ 
   refine w_skip (n_wp (w_seq (w_block (qz hP hn ?_))))
   refine o3 ?_
   refine o2 ?_
   refine s_op (k_ixG 6 2) ?_
   refine s_op (k_ld (h := by exact a_load_agg (sub := (R3 (.slice 3 0 0 X2.length X2.length) (.gro 8 1 (X2.length + 40)) 3 [])) (r := (R3 (.slice 3 0 0 X2.length X2.length) (.gro 8 1 (X2.length + 40)) 3 (R3 (.slice 4 0 0 X3.length X3.length) (.gro 9 1 (X3.length + 40)) 4 []))) rfl rfl (by kernel_rfl) (by kernel_rfl))) ?_
   refine s_op k_al ?_
   refine s_st (k_st (h := by exact a_store_agg rfl rfl rfl (put_w (by kernel_rfl)) (by exact Nat.le_of_ble_eq_true rfl) (by kernel_rfl) (by repeat (first | exact hset_0 | apply hset_s)))) ?_
   refine s_nil trivial (n_wp (w_seq (qz hP hn ?_)))
   refine o4 ?_
   refine o3 ?_
   refine s_op (l_bin rfl rfl (b_neq (r := false) (decide_eq_false (by omega)))) ?_
   refine s_nil trivial (n_wp ?_)
   refine w_F rfl ?_ 
   refine w_skip (n_wp (qz hP hn ?_))
   refine s_op k_as ?_
   refine s_nil trivial (n_wp (w_block ?_))
   refine c_loop (fun m_ T H => ∃ k, k ≤ X2.length + 40 ∧ m_ = X2.length + 40 - k ∧ T = [(0, .s (.ptr 0 0 0)), (3, .s (.int .i64 ((2 : Nat) : Int))), (4, .s (.ptr 10 0 0)), (5, .s (.int .i64 ((k : Nat) : Int)))] ∧ H = [BKb 4 (.gro 5 3 4), IB (X0.length + 1) (List.replicate (X0.length + 1) 1), IB (X1.length + 1) (List.replicate (X1.length + 1) 2), IB X2.length (List.replicate X2.length 3), IB X3.length (List.replicate X3.length 4), RB (R3 (.slice 1 0 0 X0.length (X0.length + 1)) (.gro 6 1 (X0.length + 40)) 1 (R3 (.slice 2 0 0 X1.length (X1.length + 1)) (.gro 7 1 (X1.length + 40)) 2 (R3 (.slice 3 0 0 X2.length X2.length) (.gro 8 1 (X2.length + 40)) 3 (R3 (.slice 4 0 0 X3.length X3.length) (.gro 9 1 (X3.length + 40)) 4 [])))), IB (X0.length + 40) (List.replicate (X0.length + 40) 1), IB (X1.length + 40) (List.replicate (X1.length + 40) 2), IB (X2.length + 40) (List.replicate (X2.length + 40) 3), IB (X3.length + 40) (List.replicate (X3.length + 40) 4), RB (R3 (.slice 3 0 0 X2.length X2.length) (.gro 8 1 (X2.length + 40)) 3 [])]) (X2.length + 40) ⟨0, by omega, rfl, rfl, rfl⟩ (wk hE [0, 1, 2, 3, 4, 5, 6, 7, 8, 9, 10]) ?_
   rintro n_ T_ H_ ⟨k, hk, rfl, rfl, rfl⟩
   refine w_seq (qz hP hn ?_)
   refine o3 ?_
   refine o2 ?_
   refine s_nil trivial (n_wp ?_)
   refine w_if rfl (fun h_t34 => ?_) (fun h_t34 => ?_)
   · refine w_skip (n_wp (w_seq (w_block (w_seq ?_))))
     refine g_any hP hn ?_
     refine o4 ?_
     refine o3 ?_
     refine s_op (k_call [] (con := is_t 3 _ (by decide) (rep_g _ _ _ (by omega)))) ?_
     refine o2 ?_
     refine s_on rfl rfl rfl k_mv ?_
     refine s_on rfl rfl rfl k_fa ?_
     refine s_on rfl rfl rfl k_ld ?_
     refine s_on rfl rfl rfl k_len ?_
     refine s_on rfl rfl rfl k_lss ?_
     refine s_on rfl rfl rfl k_mv ?_
     refine s_opt rfl rfl (fun hB => by rw [hB]; (try simp only [Bool.or_eq_true, Bool.or_eq_false_iff, Bool.and_eq_true, Bool.not_eq_true', Bool.not_eq_false', decide_eq_true_eq, decide_eq_false_iff_not] at hB); exact k_fa) ?_
     refine s_opt rfl rfl (fun hB => by rw [hB]; (try simp only [Bool.or_eq_true, Bool.or_eq_false_iff, Bool.and_eq_true, Bool.not_eq_true', Bool.not_eq_false', decide_eq_true_eq, decide_eq_false_iff_not] at hB); exact k_ld) ?_
     refine s_opt rfl rfl (fun hB => by rw [hB]; (try simp only [Bool.or_eq_true, Bool.or_eq_false_iff, Bool.and_eq_true, Bool.not_eq_true', Bool.not_eq_false', decide_eq_true_eq, decide_eq_false_iff_not] at hB); exact k_mv) ?_
     refine s_opt rfl rfl (fun hB => by rw [hB]; (try simp only [Bool.or_eq_true, Bool.or_eq_false_iff, Bool.and_eq_true, Bool.not_eq_true', Bool.not_eq_false', decide_eq_true_eq, decide_eq_false_iff_not] at hB); exact k_ix) ?_
     refine s_opt rfl rfl (fun hB => by rw [hB]; (try simp only [Bool.or_eq_true, Bool.or_eq_false_iff, Bool.and_eq_true, Bool.not_eq_true', Bool.not_eq_false', decide_eq_true_eq, decide_eq_false_iff_not] at hB); exact k_ld) ?_
     refine s_opt rfl rfl (fun hB => by rw [hB]; (try simp only [Bool.or_eq_true, Bool.or_eq_false_iff, Bool.and_eq_true, Bool.not_eq_true', Bool.not_eq_false', decide_eq_true_eq, decide_eq_false_iff_not] at hB); exact k_fa) ?_
     refine s_opt rfl rfl (fun hB => by rw [hB]; (try simp only [Bool.or_eq_true, Bool.or_eq_false_iff, Bool.and_eq_true, Bool.not_eq_true', Bool.not_eq_false', decide_eq_true_eq, decide_eq_false_iff_not] at hB); exact k_ld) ?_
     refine s_opt rfl rfl (fun hB => by rw [hB]; (try simp only [Bool.or_eq_true, Bool.or_eq_false_iff, Bool.and_eq_true, Bool.not_eq_true', Bool.not_eq_false', decide_eq_true_eq, decide_eq_false_iff_not] at hB); exact k_call [] (con := is_t 3 _ (by decide) (rep_g _ _ _ (by omega)))) ?_
     refine s_opt rfl rfl (fun hB => by rw [hB]; (try simp only [Bool.or_eq_true, Bool.or_eq_false_iff, Bool.and_eq_true, Bool.not_eq_true', Bool.not_eq_false', decide_eq_true_eq, decide_eq_false_iff_not] at hB); exact k_not) ?_
     refine s_on rfl rfl rfl k_pk ?_
     refine s_op k_pk ?_
     refine s_nil (by kernel_rfl) ?_
     refine n_wp ?_
     refine w_F rfl ?_ (by first | rfl | exact Bool.and_false _ | simp)
     refine w_skip (n_blo (n_wp (g_reg hP hn ?_)))
     refine o3 ?_
     refine s_nil trivial ?_
     exact n_round (X2.length + 40 - (k + 1)) (by omega) ⟨k + 1, by omega, rfl, rfl, rfl⟩ (wk hE [0, 1, 2, 3, 4, 5, 6, 7, 8, 9, 10])
   · obtain rfl : k = X2.length + 40 := by omega
     refine w_exit (x_thn (x_thn (x_eq (n_blo (n_wp (g_reg hP hn ?_))))))
     refine o3 ?_
     refine s_nil trivial ?_
     exact n_round 1 (by omega) (.inr (.inr (.inr (.inl ⟨rfl, rfl, rfl⟩)))) (wk hE [0, 1, 2, 3, 4, 5, 6, 7, 8, 9])
 · refine w_seq (qz hP hn ?_)
   refine o4 ?_
   refine o3 ?_
   refine s_nil trivial (n_wp ?_)
   refine w_T rfl ?_ 
   refine w_skip (n_wp (w_seq (w_block (qz hP hn ?_))))
   refine o3 ?_
   refine o2 ?_
   refine s_op (k_ixG 9 3) ?_
   refine s_op (k_ld (h := by exact a_load_agg (sub := (R3 (.slice 4 0 0 X3.length X3.length) (.gro 9 1 (X3.length + 40)) 4 [])) (r := (R3 (.slice 4 0 0 X3.length X3.length) (.gro 9 1 (X3.length + 40)) 4 [])) rfl rfl (by kernel_rfl) (by kernel_rfl))) ?_
   refine s_op k_al ?_
   refine s_st (k_st (h := by exact a_store_agg rfl rfl rfl (put_w (by kernel_rfl)) (by exact Nat.le_of_ble_eq_true rfl) (by kernel_rfl) (by repeat (first | exact hset_0 | apply hset_s)))) ?_
   refine s_nil trivial (n_wp (w_seq (qz hP hn ?_)))
   refine o4 ?_
   refine o3 ?_
   refine s_op (l_bin rfl rfl (b_neq (r := false) (decide_eq_false (by omega)))) ?_
   refine s_nil trivial (n_wp ?_)
   refine w_F rfl ?_ 
   refine w_skip (n_wp (qz hP hn ?_))
   refine s_op k_as ?_
   refine s_nil trivial (n_wp (w_block ?_))
   refine c_loop (fun m_ T H => ∃ k, k ≤ X3.length + 40 ∧ m_ = X3.length + 40 - k ∧ T = [(0, .s (.ptr 0 0 0)), (3, .s (.int .i64 ((3 : Nat) : Int))), (4, .s (.ptr 10 0 0)), (5, .s (.int .i64 ((k : Nat) : Int)))] ∧ H = [BKb 4 (.gro 5 3 4), IB (X0.length + 1) (List.replicate (X0.length + 1) 1), IB (X1.length + 1) (List.replicate (X1.length + 1) 2), IB X2.length (List.replicate X2.length 3), IB X3.length (List.replicate X3.length 4), RB (R3 (.slice 1 0 0 X0.length (X0.length + 1)) (.gro 6 1 (X0.length + 40)) 1 (R3 (.slice 2 0 0 X1.length (X1.length + 1)) (.gro 7 1 (X1.length + 40)) 2 (R3 (.slice 3 0 0 X2.length X2.length) (.gro 8 1 (X2.length + 40)) 3 (R3 (.slice 4 0 0 X3.length X3.length) (.gro 9 1 (X3.length + 40)) 4 [])))), IB (X0.length + 40) (List.replicate (X0.length + 40) 1), IB (X1.length + 40) (List.replicate (X1.length + 40) 2), IB (X2.length + 40) (List.replicate (X2.length + 40) 3), IB (X3.length + 40) (List.replicate (X3.length + 40) 4), RB (R3 (.slice 4 0 0 X3.length X3.length) (.gro 9 1 (X3.length + 40)) 4 [])]) (X3.length + 40) ⟨0, by omega, rfl, rfl, rfl⟩ (wk hE [0, 1, 2, 3, 4, 5, 6, 7, 8, 9, 10]) ?_
   rintro n_ T_ H_ ⟨k, hk, rfl, rfl, rfl⟩
   refine w_seq (qz hP hn ?_)
   refine o3 ?_
   refine o2 ?_
   refine s_nil trivial (n_wp ?_)
   refine w_if rfl (fun h_t34 => ?_) (fun h_t34 => ?_)
   · refine w_skip (n_wp (w_seq (w_block (w_seq ?_))))
     refine g_any hP hn ?_
     refine o4 ?_
     refine o3 ?_
     refine s_op (k_call [] (con := is_t 4 _ (by decide) (rep_g _ _ _ (by omega)))) ?_
     refine o2 ?_
     refine s_on rfl rfl rfl k_mv ?_
     refine s_on rfl rfl rfl k_fa ?_
     refine s_on rfl rfl rfl k_ld ?_
     refine s_on rfl rfl rfl k_len ?_
     refine s_on rfl rfl rfl k_lss ?_
     refine s_on rfl rfl rfl k_mv ?_
     refine s_opt rfl rfl (fun hB => by rw [hB]; (try simp only [Bool.or_eq_true, Bool.or_eq_false_iff, Bool.and_eq_true, Bool.not_eq_true', Bool.not_eq_false', decide_eq_true_eq, decide_eq_false_iff_not] at hB); exact k_fa) ?_
     refine s_opt rfl rfl (fun hB => by rw [hB]; (try simp only [Bool.or_eq_true, Bool.or_eq_false_iff, Bool.and_eq_true, Bool.not_eq_true', Bool.not_eq_false', decide_eq_true_eq, decide_eq_false_iff_not] at hB); exact k_ld) ?_
     refine s_opt rfl rfl (fun hB => by rw [hB]; (try simp only [Bool.or_eq_true, Bool.or_eq_false_iff, Bool.and_eq_true, Bool.not_eq_true', Bool.not_eq_false', decide_eq_true_eq, decide_eq_false_iff_not] at hB); exact k_mv) ?_
     refine s_opt rfl rfl (fun hB => by rw [hB]; (try simp only [Bool.or_eq_true, Bool.or_eq_false_iff, Bool.and_eq_true, Bool.not_eq_true', Bool.not_eq_false', decide_eq_true_eq, decide_eq_false_iff_not] at hB); exact k_ix) ?_
     refine s_opt rfl rfl (fun hB => by rw [hB]; (try simp only [Bool.or_eq_true, Bool.or_eq_false_iff, Bool.and_eq_true, Bool.not_eq_true', Bool.not_eq_false', decide_eq_true_eq, decide_eq_false_iff_not] at hB); exact k_ld) ?_
     refine s_opt rfl rfl (fun hB => by rw [hB]; (try simp only [Bool.or_eq_true, Bool.or_eq_false_iff, Bool.and_eq_true, Bool.not_eq_true', Bool.not_eq_false', decide_eq_true_eq, decide_eq_false_iff_not] at hB); exact k_fa) ?_
     refine s_opt rfl rfl (fun hB => by rw [hB]; (try simp only [Bool.or_eq_true, Bool.or_eq_false_iff, Bool.and_eq_true, Bool.not_eq_true', Bool.not_eq_false', decide_eq_true_eq, decide_eq_false_iff_not] at hB); exact k_ld) ?_
     refine s_opt rfl rfl (fun hB => by rw [hB]; (try simp only [Bool.or_eq_true, Bool.or_eq_false_iff, Bool.and_eq_true, Bool.not_eq_true', Bool.not_eq_false', decide_eq_true_eq, decide_eq_false_iff_not] at hB); exact k_call [] (con := is_t 4 _ (by decide) (rep_g _ _ _ (by omega)))) ?_
     refine s_opt rfl rfl (fun hB => by rw [hB]; (try simp only [Bool.or_eq_true, Bool.or_eq_false_iff, Bool.and_eq_true, Bool.not_eq_true', Bool.not_eq_false', decide_eq_true_eq, decide_eq_false_iff_not] at hB); exact k_not) ?_
     refine s_on rfl rfl rfl k_pk ?_
     refine s_op k_pk ?_
     refine s_nil (by kernel_rfl) ?_
     refine n_wp ?_
     refine w_F rfl ?_ (by first | rfl | exact Bool.and_false _ | simp)
     refine w_skip (n_blo (n_wp (g_reg hP hn ?_)))
     refine o3 ?_
     refine s_nil trivial ?_
     exact n_round (X3.length + 40 - (k + 1)) (by omega) ⟨k + 1, by omega, rfl, rfl, rfl⟩ (wk hE [0, 1, 2, 3, 4, 5, 6, 7, 8, 9, 10])
   · obtain rfl : k = X3.length + 40 := by omega
     refine w_exit (x_thn (x_thn (x_eq (n_blo (n_wp (g_reg hP hn ?_))))))
     refine o3 ?_
     refine s_nil trivial ?_
     exact n_round 0 (by omega) (.inr (.inr (.inr (.inr (⟨rfl, rfl, rfl⟩))))) (wk hE [0, 1, 2, 3, 4, 5, 6, 7, 8, 9])
 · refine w_seq (qz hP hn ?_)
   refine o4 ?_
   refine o3 ?_
   refine s_nil trivial (n_wp ?_)
   refine w_F rfl ?_ 
   refine w_exit (x_thn (x_thn (x_eq (n_wp (qz hP hn ?_)))))
   refine s_op k_as ?_
   refine s_nil trivial (n_wp (w_ret ?_))
   exact d_ret hP hn hE [0, 1, 2, 3, 4, 5, 6, 7, 8, 9] (by first | exact r_tmp Tryz.results78 | exact r_tmpa Tryz.results78)

theorem fill_AABC (X0 : List Int) (hX0 : X0.length ≤ 100000) (X1 : List Int) (hX1 : X1.length ≤ 100000) (X2 : List Int) (hX2 : X2.length ≤ 100000) : Con Tryz.prog 48 [.s (.ptr 0 0 0)] [BKb 4 (.gro 4 3 4), IB (X0.length + 1) (X0 ++ [77]), IB (X1.length + 1) (X1 ++ [77]), IB X2.length X2, RB (R3 (.slice 1 0 0 X0.length (X0.length + 1)) .nils 1 (R3 (.slice 2 0 0 X1.length (X1.length + 1)) .nils 2 (R3 (.slice 3 0 0 X2.length X2.length) .nils 3 (R3 .nils .nils 4 []))))] (.tup []) [BKb 4 (.gro 4 3 4), IB (X0.length + 1) (List.replicate X0.length 1 ++ [77]), IB (X1.length + 1) (List.replicate X1.length 2 ++ [77]), IB X2.length (List.replicate X2.length 3), RB (R3 (.slice 1 0 0 X0.length (X0.length + 1)) .nils 1 (R3 (.slice 2 0 0 X1.length (X1.length + 1)) .nils 2 (R3 (.slice 3 0 0 X2.length X2.length) .nils 3 (R3 .nils .nils 4 []))))] := by
 refine con_in 35 Tryz.func48 rfl rfl (m := 5) rfl ?_
 intro E hP hn hE
 refine qz hP hn ?_
 refine s_op k_as ?_
 refine s_nil trivial (n_wp (w_block ?_))
 refine c_loop (fun m_ T H => (m_ = 4 ∧ T = [(0, .s (.ptr 0 0 0)), (2, .s (.int .i64 ((0 : Nat) : Int)))] ∧ H = [BKb 4 (.gro 4 3 4), IB (X0.length + 1) (X0 ++ [77]), IB (X1.length + 1) (X1 ++ [77]), IB X2.length X2, RB (R3 (.slice 1 0 0 X0.length (X0.length + 1)) .nils 1 (R3 (.slice 2 0 0 X1.length (X1.length + 1)) .nils 2 (R3 (.slice 3 0 0 X2.length X2.length) .nils 3 (R3 .nils .nils 4 []))))]) ∨ (m_ = 3 ∧ T = [(0, .s (.ptr 0 0 0)), (2, .s (.int .i64 ((1 : Nat) : Int)))] ∧ H = [BKb 4 (.gro 4 3 4), IB (X0.length + 1) (List.replicate X0.length 1 ++ [77]), IB (X1.length + 1) (X1 ++ [77]), IB X2.length X2, RB (R3 (.slice 1 0 0 X0.length (X0.length + 1)) .nils 1 (R3 (.slice 2 0 0 X1.length (X1.length + 1)) .nils 2 (R3 (.slice 3 0 0 X2.length X2.length) .nils 3 (R3 .nils .nils 4 []))))]) ∨ (m_ = 2 ∧ T = [(0, .s (.ptr 0 0 0)), (2, .s (.int .i64 ((2 : Nat) : Int)))] ∧ H = [BKb 4 (.gro 4 3 4), IB (X0.length + 1) (List.replicate X0.length 1 ++ [77]), IB (X1.length + 1) (List.replicate X1.length 2 ++ [77]), IB X2.length X2, RB (R3 (.slice 1 0 0 X0.length (X0.length + 1)) .nils 1 (R3 (.slice 2 0 0 X1.length (X1.length + 1)) .nils 2 (R3 (.slice 3 0 0 X2.length X2.length) .nils 3 (R3 .nils .nils 4 []))))]) ∨ (m_ = 1 ∧ T = [(0, .s (.ptr 0 0 0)), (2, .s (.int .i64 ((3 : Nat) : Int)))] ∧ H = [BKb 4 (.gro 4 3 4), IB (X0.length + 1) (List.replicate X0.length 1 ++ [77]), IB (X1.length + 1) (List.replicate X1.length 2 ++ [77]), IB X2.length (List.replicate X2.length 3), RB (R3 (.slice 1 0 0 X0.length (X0.length + 1)) .nils 1 (R3 (.slice 2 0 0 X1.length (X1.length + 1)) .nils 2 (R3 (.slice 3 0 0 X2.length X2.length) .nils 3 (R3 .nils .nils 4 []))))]) ∨ (m_ = 0 ∧ T = [(0, .s (.ptr 0 0 0)), (2, .s (.int .i64 ((4 : Nat) : Int)))] ∧ H = [BKb 4 (.gro 4 3 4), IB (X0.length + 1) (List.replicate X0.length 1 ++ [77]), IB (X1.length + 1) (List.replicate X1.length 2 ++ [77]), IB X2.length (List.replicate X2.length 3), RB (R3 (.slice 1 0 0 X0.length (X0.length + 1)) .nils 1 (R3 (.slice 2 0 0 X1.length (X1.length + 1)) .nils 2 (R3 (.slice 3 0 0 X2.length X2.length) .nils 3 (R3 .nils .nils 4 []))))])) (4) (.inl ⟨rfl, rfl, rfl⟩) (wk hE [0, 1, 2, 3, 4]) ?_
 rintro n_ T_ H_ (⟨rfl, rfl, rfl⟩ | ⟨rfl, rfl, rfl⟩ | ⟨rfl, rfl, rfl⟩ | ⟨rfl, rfl, rfl⟩ | ⟨rfl, rfl, rfl⟩)
 · refine w_seq (qz hP hn ?_)
   refine o4 ?_
   refine o3 ?_
   refine s_nil trivial (n_wp ?_)
   refine w_T rfl ?_ 
   refine w_skip (n_wp (w_seq (w_block (qz hP hn ?_))))
   refine o3 ?_
   refine o2 ?_
   refine s_op (k_ixG 0 0) ?_
   refine s_op (k_ld (h := by exact a_load_agg (sub := (R3 (.slice 1 0 0 X0.length (X0.length + 1)) .nils 1 [])) (r := (R3 (.slice 1 0 0 X0.length (X0.length + 1)) .nils 1 (R3 (.slice 2 0 0 X1.length (X1.length + 1)) .nils 2 (R3 (.slice 3 0 0 X2.length X2.length) .nils 3 (R3 .nils .nils 4 []))))) rfl rfl (by kernel_rfl) (by kernel_rfl))) ?_
   refine s_op k_al ?_
   refine s_st (k_st (h := by exact a_store_agg rfl rfl rfl (put_w (by kernel_rfl)) (by exact Nat.le_of_ble_eq_true rfl) (by kernel_rfl) (by repeat (first | exact hset_0 | apply hset_s)))) ?_
   refine qx hP hn ?_
   refine s_op k_as ?_
   refine s_nil trivial (n_wp (w_block ?_))
   refine c_loop (fun m_ T H => ∃ k, k ≤ X0.length ∧ m_ = X0.length - k ∧ T = [(0, .s (.ptr 0 0 0)), (2, .s (.int .i64 ((0 : Nat) : Int))), (3, .s (.ptr 5 0 0)), (4, .s (.int .i64 ((k : Nat) : Int)))] ∧ H = [BKb 4 (.gro 4 3 4), IB (X0.length + 1) (fillT (X0 ++ [77]) 1 k), IB (X1.length + 1) (X1 ++ [77]), IB X2.length X2, RB (R3 (.slice 1 0 0 X0.length (X0.length + 1)) .nils 1 (R3 (.slice 2 0 0 X1.length (X1.length + 1)) .nils 2 (R3 (.slice 3 0 0 X2.length X2.length) .nils 3 (R3 .nils .nils 4 [])))), RB (R3 (.slice 1 0 0 X0.length (X0.length + 1)) .nils 1 [])]) (X0.length) ⟨0, by omega, rfl, rfl, rfl⟩ (wk hE [0, 1, 2, 3, 4, 5]) ?_
   rintro n_ T_ H_ ⟨k, hk, rfl, rfl, rfl⟩
   have hfl := fillT_len (X0 ++ [77]) 1 k
   have hal : (X0 ++ [77]).length = X0.length + 1 := by simp
   refine w_seq (qz hP hn ?_)
   refine o3 ?_
   refine o2 ?_
   refine s_nil trivial (n_wp ?_)
   refine w_if rfl (fun h_t25 => ?_) (fun h_t25 => ?_)
   · refine w_skip (n_wp (w_seq (w_block ?_)))
     refine g_any hP hn ?_
     refine o3 ?_
     refine o2 ?_
     refine s_op (k_call [] (con := mark_c 1 (by decide))) ?_
     refine s_op k_ix ?_
     refine s_st k_st ?_
     refine s_nil (by kernel_rfl) ?_
     refine n_blo (n_wp (g_reg hP hn ?_))
     refine o3 ?_
     refine s_nil trivial ?_
     exact n_round (X0.length - (k + 1)) (by omega) ⟨k + 1, by omega, rfl, rfl, rfl⟩ (wk hE [0, 1, 2, 3, 4, 5])
   · obtain rfl : k = X0.length := by omega
     rw [fillT_a]
     refine w_exit (x_thn (x_thn (x_eq (n_blo (n_wp (g_reg hP hn ?_))))))
     refine o3 ?_
     refine s_nil trivial ?_
     exact n_round 3 (by omega) (.inr (.inl ⟨rfl, rfl, rfl⟩)) (wk hE [0, 1, 2, 3, 4])
 · refine w_seq (qz hP hn ?_)
   refine o4 ?_
   refine o3 ?_
   refine s_nil trivial (n_wp ?_)
   refine w_T rfl ?_ 
   refine w_skip (n_wp (w_seq (w_block (qz hP hn ?_))))
   refine o3 ?_
   refine o2 ?_
   refine s_op (k_ixG 3 1) ?_
   refine s_op (k_ld (h := by exact a_load_agg (sub := (R3 (.slice 2 0 0 X1.length (X1.length + 1)) .nils 2 [])) (r := (R3 (.slice 2 0 0 X1.length (X1.length + 1)) .nils 2 (R3 (.slice 3 0 0 X2.length X2.length) .nils 3 (R3 .nils .nils 4 [])))) rfl rfl (by kernel_rfl) (by kernel_rfl))) ?_
   refine s_op k_al ?_
   refine s_st (k_st (h := by exact a_store_agg rfl rfl rfl (put_w (by kernel_rfl)) (by exact Nat.le_of_ble_eq_true rfl) (by kernel_rfl) (by repeat (first | exact hset_0 | apply hset_s)))) ?_
   refine qx hP hn ?_
   refine s_op k_as ?_
   refine s_nil trivial (n_wp (w_block ?_))
   refine c_loop (fun m_ T H => ∃ k, k ≤ X1.length ∧ m_ = X1.length - k ∧ T = [(0, .s (.ptr 0 0 0)), (2, .s (.int .i64 ((1 : Nat) : Int))), (3, .s (.ptr 5 0 0)), (4, .s (.int .i64 ((k : Nat) : Int)))] ∧ H = [BKb 4 (.gro 4 3 4), IB (X0.length + 1) (List.replicate X0.length 1 ++ [77]), IB (X1.length + 1) (fillT (X1 ++ [77]) 2 k), IB X2.length X2, RB (R3 (.slice 1 0 0 X0.length (X0.length + 1)) .nils 1 (R3 (.slice 2 0 0 X1.length (X1.length + 1)) .nils 2 (R3 (.slice 3 0 0 X2.length X2.length) .nils 3 (R3 .nils .nils 4 [])))), RB (R3 (.slice 2 0 0 X1.length (X1.length + 1)) .nils 2 [])]) (X1.length) ⟨0, by omega, rfl, rfl, rfl⟩ (wk hE [0, 1, 2, 3, 4, 5]) ?_
   rintro n_ T_ H_ ⟨k, hk, rfl, rfl, rfl⟩
   have hfl := fillT_len (X1 ++ [77]) 2 k
   have hal : (X1 ++ [77]).length = X1.length + 1 := by simp
   refine w_seq (qz hP hn ?_)
   refine o3 ?_
   refine o2 ?_
   refine s_nil trivial (n_wp ?_)
   refine w_if rfl (fun h_t25 => ?_) (fun h_t25 => ?_)
   · refine w_skip (n_wp (w_seq (w_block ?_)))
     refine g_any hP hn ?_
     refine o3 ?_
     refine o2 ?_
     refine s_op (k_call [] (con := mark_c 2 (by decide))) ?_
     refine s_op k_ix ?_
     refine s_st k_st ?_
     refine s_nil (by kernel_rfl) ?_
     refine n_blo (n_wp (g_reg hP hn ?_))
     refine o3 ?_
     refine s_nil trivial ?_
     exact n_round (X1.length - (k + 1)) (by omega) ⟨k + 1, by omega, rfl, rfl, rfl⟩ (wk hE [0, 1, 2, 3, 4, 5])
   · obtain rfl : k = X1.length := by omega
     rw [fillT_a]
     refine w_exit (x_thn (x_thn (x_eq (n_blo (n_wp (g_reg hP hn ?_))))))
     refine o3 ?_
     refine s_nil trivial ?_
     exact n_round 2 (by omega) (.inr (.inr (.inl ⟨rfl, rfl, rfl⟩))) (wk hE [0, 1, 2, 3, 4])
 · refine w_seq (qz hP hn ?_)
   refine o4 ?_
   refine o3 ?_
   refine s_nil trivial (n_wp ?_)
   refine w_T rfl ?_ 
   refine w_skip (n_wp (w_seq (w_block (qz hP hn ?_))))
   refine o3 ?_
   refine o2 ?_
   refine s_op (k_ixG 6 2) ?_
   refine s_op (k_ld (h := by exact a_load_agg (sub := (R3 (.slice 3 0 0 X2.length X2.length) .nils 3 [])) (r := (R3 (.slice 3 0 0 X2.length X2.length) .nils 3 (R3 .nils .nils 4 []))) rfl rfl (by kernel_rfl) (by kernel_rfl))) ?_
   refine s_op k_al ?_
   refine s_st (k_st (h := by exact a_store_agg rfl rfl rfl (put_w (by kernel_rfl)) (by exact Nat.le_of_ble_eq_true rfl) (by kernel_rfl) (by repeat (first | exact hset_0 | apply hset_s)))) ?_
   refine qx hP hn ?_
   refine s_op k_as ?_
   refine s_nil trivial (n_wp (w_block ?_))
   refine c_loop (fun m_ T H => ∃ k, k ≤ X2.length ∧ m_ = X2.length - k ∧ T = [(0, .s (.ptr 0 0 0)), (2, .s (.int .i64 ((2 : Nat) : Int))), (3, .s (.ptr 5 0 0)), (4, .s (.int .i64 ((k : Nat) : Int)))] ∧ H = [BKb 4 (.gro 4 3 4), IB (X0.length + 1) (List.replicate X0.length 1 ++ [77]), IB (X1.length + 1) (List.replicate X1.length 2 ++ [77]), IB X2.length (fillT X2 3 k), RB (R3 (.slice 1 0 0 X0.length (X0.length + 1)) .nils 1 (R3 (.slice 2 0 0 X1.length (X1.length + 1)) .nils 2 (R3 (.slice 3 0 0 X2.length X2.length) .nils 3 (R3 .nils .nils 4 [])))), RB (R3 (.slice 3 0 0 X2.length X2.length) .nils 3 [])]) (X2.length) ⟨0, by omega, rfl, rfl, rfl⟩ (wk hE [0, 1, 2, 3, 4, 5]) ?_
   rintro n_ T_ H_ ⟨k, hk, rfl, rfl, rfl⟩
   have hfl := fillT_len X2 3 k
   refine w_seq (qz hP hn ?_)
   refine o3 ?_
   refine o2 ?_
   refine s_nil trivial (n_wp ?_)
   refine w_if rfl (fun h_t25 => ?_) (fun h_t25 => ?_)
   · refine w_skip (n_wp (w_seq (w_block ?_)))
     refine g_any hP hn ?_
     refine o3 ?_
     refine o2 ?_
     refine s_op (k_call [] (con := mark_c 3 (by decide))) ?_
     refine s_op k_ix ?_
     refine s_st k_st ?_
     refine s_nil (by kernel_rfl) ?_
     refine n_blo (n_wp (g_reg hP hn ?_))
     refine o3 ?_
     refine s_nil trivial ?_
     exact n_round (X2.length - (k + 1)) (by omega) ⟨k + 1, by omega, rfl, rfl, rfl⟩ (wk hE [0, 1, 2, 3, 4, 5])
   · obtain rfl : k = X2.length := by omega
     rw [fillT_all]
     refine w_exit (x_thn (x_thn (x_eq (n_blo (n_wp (g_reg hP hn ?_))))))
     refine o3 ?_
     refine s_nil trivial ?_
     exact n_round 1 (by omega) (.inr (.inr (.inr (.inl ⟨rfl, rfl, rfl⟩)))) (wk hE [0, 1, 2, 3, 4])
 · refine w_seq (qz hP hn ?_)
   refine o4 ?_
   refine o3 ?_
   refine s_nil trivial (n_wp ?_)
   refine w_T rfl ?_ 
   refine w_skip (n_wp (w_seq (w_block (qz hP hn ?_))))
   refine o3 ?_
   refine o2 ?_
   refine s_op (k_ixG 9 3) ?_
   refine s_op (k_ld (h := by exact a_load_agg (sub := (R3 .nils .nils 4 [])) (r := (R3 .nils .nils 4 [])) rfl rfl (by kernel_rfl) (by kernel_rfl))) ?_
   refine s_op k_al ?_
   refine s_st (k_st (h := by exact a_store_agg rfl rfl rfl (put_w (by kernel_rfl)) (by exact Nat.le_of_ble_eq_true rfl) (by kernel_rfl) (by repeat (first | exact hset_0 | apply hset_s)))) ?_
   refine qx hP hn ?_
   refine s_op k_as ?_
   refine s_nil trivial (n_wp (w_block ?_))
   refine c_loop (fun m_ T H => m_ = 0 ∧ T = [(0, .s (.ptr 0 0 0)), (2, .s (.int .i64 ((3 : Nat) : Int))), (3, .s (.ptr 5 0 0)), (4, .s (.int .i64 ((0 : Nat) : Int)))] ∧ H = [BKb 4 (.gro 4 3 4), IB (X0.length + 1) (List.replicate X0.length 1 ++ [77]), IB (X1.length + 1) (List.replicate X1.length 2 ++ [77]), IB X2.length (List.replicate X2.length 3), RB (R3 (.slice 1 0 0 X0.length (X0.length + 1)) .nils 1 (R3 (.slice 2 0 0 X1.length (X1.length + 1)) .nils 2 (R3 (.slice 3 0 0 X2.length X2.length) .nils 3 (R3 .nils .nils 4 [])))), RB (R3 .nils .nils 4 [])]) (0) ⟨rfl, rfl, rfl⟩ (wk hE [0, 1, 2, 3, 4, 5]) ?_
   rintro n_ T_ H_ ⟨rfl, rfl, rfl⟩
   refine w_seq (qz hP hn ?_)
   refine o3 ?_
   refine o2 ?_
   refine s_nil trivial (n_wp ?_)
   refine w_F rfl ?_ 
   refine w_exit (x_thn (x_thn (x_eq (n_blo (n_wp (g_reg hP hn ?_))))))
   refine o3 ?_
   refine s_nil trivial ?_
   exact n_round 0 (by omega) (.inr (.inr (.inr (.inr (⟨rfl, rfl, rfl⟩))))) (wk hE [0, 1, 2, 3, 4])
 · refine w_seq (qz hP hn ?_)
   refine o4 ?_
   refine o3 ?_
   refine s_nil trivial (n_wp ?_)
   refine w_F rfl ?_ 
   refine w_exit (x_thn (x_thn (x_eq ?_)))
   exact d_ret hP hn hE [0, 1, 2, 3, 4] (ret_none Tryz.results48)

theorem grow_AABC (X0 : List Int) (hX0 : X0.length ≤ 100000) (X1 : List Int) (hX1 : X1.length ≤ 100000) (X2 : List Int) (hX2 : X2.length ≤ 100000) : Con Tryz.prog 63 [.s (.ptr 0 0 0)] [BKb 4 (.gro 4 3 4), IB (X0.length + 1) (List.replicate X0.length 1 ++ [77]), IB (X1.length + 1) (List.replicate X1.length 2 ++ [77]), IB X2.length (List.replicate X2.length 3), RB (R3 (.slice 1 0 0 X0.length (X0.length + 1)) .nils 1 (R3 (.slice 2 0 0 X1.length (X1.length + 1)) .nils 2 (R3 (.slice 3 0 0 X2.length X2.length) .nils 3 (R3 .nils .nils 4 []))))] (.tup []) [BKb 4 (.gro 4 3 4), IB (X0.length + 1) (List.replicate (X0.length + 1) 1), IB (X1.length + 1) (List.replicate (X1.length + 1) 2), IB X2.length (List.replicate X2.length 3), RB (R3 (.slice 1 0 0 X0.length (X0.length + 1)) (.gro 5 1 (X0.length + 40)) 1 (R3 (.slice 2 0 0 X1.length (X1.length + 1)) (.gro 6 1 (X1.length + 40)) 2 (R3 (.slice 3 0 0 X2.length X2.length) (.gro 7 1 (X2.length + 40)) 3 (R3 .nils (.gro 8 1 (0 + 40)) 4 [])))), IB (X0.length + 40) (List.replicate (X0.length + 40) 1), IB (X1.length + 40) (List.replicate (X1.length + 40) 2), IB (X2.length + 40) (List.replicate (X2.length + 40) 3), IB (0 + 40) (List.replicate (0 + 40) 4)] := by
 refine con_in 42 Tryz.func63 rfl rfl (m := 5) rfl ?_
 intro E hP hn hE
 refine qz hP hn ?_
 refine s_op k_as ?_
 refine s_nil trivial (n_wp (w_block ?_))
 refine c_loop (fun m_ T H => (m_ = 4 ∧ T = [(0, .s (.ptr 0 0 0)), (2, .s (.int .i64 ((0 : Nat) : Int)))] ∧ H = [BKb 4 (.gro 4 3 4), IB (X0.length + 1) (List.replicate X0.length 1 ++ [77]), IB (X1.length + 1) (List.replicate X1.length 2 ++ [77]), IB X2.length (List.replicate X2.length 3), RB (R3 (.slice 1 0 0 X0.length (X0.length + 1)) .nils 1 (R3 (.slice 2 0 0 X1.length (X1.length + 1)) .nils 2 (R3 (.slice 3 0 0 X2.length X2.length) .nils 3 (R3 .nils .nils 4 []))))]) ∨ (m_ = 3 ∧ T = [(0, .s (.ptr 0 0 0)), (2, .s (.int .i64 ((1 : Nat) : Int)))] ∧ H = [BKb 4 (.gro 4 3 4), IB (X0.length + 1) (List.replicate (X0.length + 1) 1), IB (X1.length + 1) (List.replicate X1.length 2 ++ [77]), IB X2.length (List.replicate X2.length 3), RB (R3 (.slice 1 0 0 X0.length (X0.length + 1)) (.gro 5 1 (X0.length + 40)) 1 (R3 (.slice 2 0 0 X1.length (X1.length + 1)) .nils 2 (R3 (.slice 3 0 0 X2.length X2.length) .nils 3 (R3 .nils .nils 4 [])))), IB (X0.length + 40) (List.replicate (X0.length + 40) 1)]) ∨ (m_ = 2 ∧ T = [(0, .s (.ptr 0 0 0)), (2, .s (.int .i64 ((2 : Nat) : Int)))] ∧ H = [BKb 4 (.gro 4 3 4), IB (X0.length + 1) (List.replicate (X0.length + 1) 1), IB (X1.length + 1) (List.replicate (X1.length + 1) 2), IB X2.length (List.replicate X2.length 3), RB (R3 (.slice 1 0 0 X0.length (X0.length + 1)) (.gro 5 1 (X0.length + 40)) 1 (R3 (.slice 2 0 0 X1.length (X1.length + 1)) (.gro 6 1 (X1.length + 40)) 2 (R3 (.slice 3 0 0 X2.length X2.length) .nils 3 (R3 .nils .nils 4 [])))), IB (X0.length + 40) (List.replicate (X0.length + 40) 1), IB (X1.length + 40) (List.replicate (X1.length + 40) 2)]) ∨ (m_ = 1 ∧ T = [(0, .s (.ptr 0 0 0)), (2, .s (.int .i64 ((3 : Nat) : Int)))] ∧ H = [BKb 4 (.gro 4 3 4), IB (X0.length + 1) (List.replicate (X0.length + 1) 1), IB (X1.length + 1) (List.replicate (X1.length + 1) 2), IB X2.length (List.replicate X2.length 3), RB (R3 (.slice 1 0 0 X0.length (X0.length + 1)) (.gro 5 1 (X0.length + 40)) 1 (R3 (.slice 2 0 0 X1.length (X1.length + 1)) (.gro 6 1 (X1.length + 40)) 2 (R3 (.slice 3 0 0 X2.length X2.length) (.gro 7 1 (X2.length + 40)) 3 (R3 .nils .nils 4 [])))), IB (X0.length + 40) (List.replicate (X0.length + 40) 1), IB (X1.length + 40) (List.replicate (X1.length + 40) 2), IB (X2.length + 40) (List.replicate (X2.length + 40) 3)]) ∨ (m_ = 0 ∧ T = [(0, .s (.ptr 0 0 0)), (2, .s (.int .i64 ((4 : Nat) : Int)))] ∧ H = [BKb 4 (.gro 4 3 4), IB (X0.length + 1) (List.replicate (X0.length + 1) 1), IB (X1.length + 1) (List.replicate (X1.length + 1) 2), IB X2.length (List.replicate X2.length 3), RB (R3 (.slice 1 0 0 X0.length (X0.length + 1)) (.gro 5 1 (X0.length + 40)) 1 (R3 (.slice 2 0 0 X1.length (X1.length + 1)) (.gro 6 1 (X1.length + 40)) 2 (R3 (.slice 3 0 0 X2.length X2.length) (.gro 7 1 (X2.length + 40)) 3 (R3 .nils (.gro 8 1 (0 + 40)) 4 [])))), IB (X0.length + 40) (List.replicate (X0.length + 40) 1), IB (X1.length + 40) (List.replicate (X1.length + 40) 2), IB (X2.length + 40) (List.replicate (X2.length + 40) 3), IB (0 + 40) (List.replicate (0 + 40) 4)])) (4) (.inl ⟨rfl, rfl, rfl⟩) (wk hE [0, 1, 2, 3, 4]) ?_
 rintro n_ T_ H_ (⟨rfl, rfl, rfl⟩ | ⟨rfl, rfl, rfl⟩ | ⟨rfl, rfl, rfl⟩ | ⟨rfl, rfl, rfl⟩ | ⟨rfl, rfl, rfl⟩)
 · refine w_seq (qz hP hn ?_)
   refine o4 ?_
   refine o3 ?_
   refine s_nil trivial (n_wp ?_)
   refine w_T rfl ?_ 
   refine w_skip (n_wp (w_seq (w_block (qz hP hn ?_))))
   refine o3 ?_
   refine o2 ?_
   refine s_op (k_ixG 0 0) ?_
   refine s_op (k_ld (h := by exact a_load_agg (sub := (R3 (.slice 1 0 0 X0.length (X0.length + 1)) .nils 1 [])) (r := (R3 (.slice 1 0 0 X0.length (X0.length + 1)) .nils 1 (R3 (.slice 2 0 0 X1.length (X1.length + 1)) .nils 2 (R3 (.slice 3 0 0 X2.length X2.length) .nils 3 (R3 .nils .nils 4 []))))) rfl rfl (by kernel_rfl) (by kernel_rfl))) ?_
   refine s_op k_al ?_
   refine s_st (k_st (h := by exact a_store_agg rfl rfl rfl (put_w (by kernel_rfl)) (by exact Nat.le_of_ble_eq_true rfl) (by kernel_rfl) (by repeat (first | exact hset_0 | apply hset_s)))) ?_
   refine qx hP hn ?_
   refine o3 ?_
   refine s_nil trivial (n_wp (w_seq (qz hP hn ?_)))
   refine s_op k_as ?_
   refine s_nil trivial (n_wp (w_block ?_))
   refine c_loop (fun m_ T H => (m_ = 40 ∧ T = [(0, .s (.ptr 0 0 0)), (2, .s (.int .i64 ((0 : Nat) : Int))), (3, .s (.ptr 5 0 0)), (4, .s (.slice 1 0 0 X0.length (X0.length + 1))), (5, .s (.int .i64 ((0 : Nat) : Int)))] ∧ H = [BKb 4 (.gro 4 3 4), IB (X0.length + 1) (List.replicate X0.length 1 ++ [77]), IB (X1.length + 1) (List.replicate X1.length 2 ++ [77]), IB X2.length (List.replicate X2.length 3), RB (R3 (.slice 1 0 0 X0.length (X0.length + 1)) .nils 1 (R3 (.slice 2 0 0 X1.length (X1.length + 1)) .nils 2 (R3 (.slice 3 0 0 X2.length X2.length) .nils 3 (R3 .nils .nils 4 [])))), RB (R3 (.slice 1 0 0 X0.length (X0.length + 1)) .nils 1 [])]) ∨ (m_ = 39 ∧ T = [(0, .s (.ptr 0 0 0)), (2, .s (.int .i64 ((0 : Nat) : Int))), (3, .s (.ptr 5 0 0)), (4, .s (.slice 1 0 0 (X0.length + 1) (X0.length + 1))), (5, .s (.int .i64 ((1 : Nat) : Int)))] ∧ H = [BKb 4 (.gro 4 3 4), IB (X0.length + 1) (List.replicate (X0.length + 1) 1), IB (X1.length + 1) (List.replicate X1.length 2 ++ [77]), IB X2.length (List.replicate X2.length 3), RB (R3 (.slice 1 0 0 X0.length (X0.length + 1)) .nils 1 (R3 (.slice 2 0 0 X1.length (X1.length + 1)) .nils 2 (R3 (.slice 3 0 0 X2.length X2.length) .nils 3 (R3 .nils .nils 4 [])))), RB (R3 (.slice 1 0 0 X0.length (X0.length + 1)) .nils 1 [])]) ∨ (∃ k, 2 ≤ k ∧ k ≤ 40 ∧ m_ = 40 - k ∧ T = [(0, .s (.ptr 0 0 0)), (2, .s (.int .i64 ((0 : Nat) : Int))), (3, .s (.ptr 5 0 0)), (4, .s (.gro 6 1 (X0.length + k))), (5, .s (.int .i64 ((k : Nat) : Int)))] ∧ H = [BKb 4 (.gro 4 3 4), IB (X0.length + 1) (List.replicate (X0.length + 1) 1), IB (X1.length + 1) (List.replicate X1.length 2 ++ [77]), IB X2.length (List.replicate X2.length 3), RB (R3 (.slice 1 0 0 X0.length (X0.length + 1)) .nils 1 (R3 (.slice 2 0 0 X1.length (X1.length + 1)) .nils 2 (R3 (.slice 3 0 0 X2.length X2.length) .nils 3 (R3 .nils .nils 4 [])))), RB (R3 (.slice 1 0 0 X0.length (X0.length + 1)) .nils 1 []), IB (X0.length + k) (List.replicate (X0.length + k) 1)])) (40) (.inl ⟨rfl, rfl, rfl⟩) (wk hE [0, 1, 2, 3, 4, 5]) ?_
   rintro n_ T_ H_ (⟨rfl, rfl, rfl⟩ | ⟨rfl, rfl, rfl⟩ | ⟨k, hk1, hk2, rfl, rfl, rfl⟩)
   · refine w_seq (qz hP hn ?_)
     refine o2 ?_
     refine s_nil trivial (n_wp ?_)
     refine w_T rfl ?_ 
     refine w_skip (n_wp (w_seq (w_block (g_reg hP hn ?_))))
     refine o3 ?_
     refine s_op (k_call [] (con := mark_c 1 (by decide))) ?_
     refine s_op k_bsf ?_
     refine s_op (k_apj (List.replicate (X0.length + 1) 1) (hl' := rep_j _ _)) ?_
     refine s_op k_as ?_
     refine s_nil trivial (n_blo (n_wp (g_reg hP hn ?_)))
     refine o3 ?_
     refine s_nil trivial ?_
     exact n_round 39 (by omega) (.inr (.inl ⟨rfl, rfl, rfl⟩)) (wk hE [0, 1, 2, 3, 4, 5])
   · refine w_seq (qz hP hn ?_)
     refine o2 ?_
     refine s_nil trivial (n_wp ?_)
     refine w_T rfl ?_ 
     refine w_skip (n_wp (w_seq (w_block (g_reg hP hn ?_))))
     refine o3 ?_
     refine s_op (k_call [] (con := mark_c 1 (by decide))) ?_
     refine s_op k_bsf ?_
     refine s_op (k_apf (c := X0.length + 2) (l' := List.replicate (X0.length + 2) 1) (hl' := rep_s _ _) (h0 := by exact Nat.zero_lt_one) (hbig := by show X0.length + 1 + 1 ≤ 1000000; omega)) ?_
     refine s_op k_as ?_
     refine s_nil trivial (n_blo (n_wp (g_reg hP hn ?_)))
     refine o3 ?_
     refine s_nil trivial ?_
     exact n_round 38 (by omega) (.inr (.inr ⟨2, by omega, by omega, rfl, rfl, rfl⟩)) (wk hE [0, 1, 2, 3, 4, 5, 7])
   · refine w_seq (qz hP hn ?_)
     refine o2 ?_
     refine s_nil trivial (n_wp ?_)
     refine w_if rfl (fun h_t25 => ?_) (fun h_t25 => ?_)
     · refine w_skip (n_wp (w_seq (w_block (g_reg hP hn ?_))))
       refine o3 ?_
       refine s_op (k_call [] (con := mark_c 1 (by decide))) ?_
       refine s_op k_bsf ?_
       refine s_op (k_apg (c := X0.length + (k + 1)) (l' := List.replicate (X0.length + (k + 1)) 1) (hl' := rep_t _ _) (hq := by exact Nat.le_refl _) (hbig := by show X0.length + k + 1 ≤ 1000000; omega)) ?_
       refine s_op k_as ?_
       refine s_nil trivial (n_blo (n_wp (g_reg hP hn ?_)))
       refine o3 ?_
       refine s_nil trivial ?_
       exact n_round (40 - (k + 1)) (by omega) (.inr (.inr ⟨k + 1, by omega, by omega, rfl, rfl, rfl⟩)) (wk hE [0, 1, 2, 3, 4, 5, 8])
     · obtain rfl : k = 40 := by omega
       refine w_exit (x_thn (x_thn (x_eq (n_wp (g_reg hP hn ?_)))))
       refine o4 ?_
       refine o2 ?_
       refine s_op (k_ixG 0 0) ?_
       refine s_op k_fa ?_
       refine s_st (k_st (h := by exact a_store_one rfl rfl SV.noConfusion rfl rfl (hset_seg (by repeat (first | apply sset_s _ rfl rfl | exact sset_0)) (by repeat (first | exact hset_0 | apply hset_s))))) ?_
       refine s_nil trivial (n_blo (n_wp (g_reg hP hn ?_)))
       refine o3 ?_
       refine s_nil trivial ?_
       exact n_round 3 (by omega) (.inr (.inl ⟨rfl, rfl, rfl⟩)) (wk hE [0, 1, 2, 3, 4, 6])
 · refine w_seq (qz hP hn ?_)
   refine o4 ?_
   refine o3 ?_
   refine s_nil trivial (n_wp ?_)
   refine w_T rfl ?_ 
   refine w_skip (n_wp (w_seq (w_block (qz hP hn ?_))))
   refine o3 ?_
   refine o2 ?_
   refine s_op (k_ixG 3 1) ?_
   refine s_op (k_ld (h := by exact a_load_agg (sub := (R3 (.slice 2 0 0 X1.length (X1.length + 1)) .nils 2 [])) (r := (R3 (.slice 2 0 0 X1.length (X1.length + 1)) .nils 2 (R3 (.slice 3 0 0 X2.length X2.length) .nils 3 (R3 .nils .nils 4 [])))) rfl rfl (by kernel_rfl) (by kernel_rfl))) ?_
   refine s_op k_al ?_
   refine s_st (k_st (h := by exact a_store_agg rfl rfl rfl (put_w (by kernel_rfl)) (by exact Nat.le_of_ble_eq_true rfl) (by kernel_rfl) (by repeat (first | exact hset_0 | apply hset_s)))) ?_
   refine qx hP hn ?_
   refine o3 ?_
   refine s_nil trivial (n_wp (w_seq (qz hP hn ?_)))
   refine s_op k_as ?_
   refine s_nil trivial (n_wp (w_block ?_))
   refine c_loop (fun m_ T H => (m_ = 40 ∧ T = [(0, .s (.ptr 0 0 0)), (2, .s (.int .i64 ((1 : Nat) : Int))), (3, .s (.ptr 6 0 0)), (4, .s (.slice 2 0 0 X1.length (X1.length + 1))), (5, .s (.int .i64 ((0 : Nat) : Int)))] ∧ H = [BKb 4 (.gro 4 3 4), IB (X0.length + 1) (List.replicate (X0.length + 1) 1), IB (X1.length + 1) (List.replicate X1.length 2 ++ [77]), IB X2.length (List.replicate X2.length 3), RB (R3 (.slice 1 0 0 X0.length (X0.length + 1)) (.gro 5 1 (X0.length + 40)) 1 (R3 (.slice 2 0 0 X1.length (X1.length + 1)) .nils 2 (R3 (.slice 3 0 0 X2.length X2.length) .nils 3 (R3 .nils .nils 4 [])))), IB (X0.length + 40) (List.replicate (X0.length + 40) 1), RB (R3 (.slice 2 0 0 X1.length (X1.length + 1)) .nils 2 [])]) ∨ (m_ = 39 ∧ T = [(0, .s (.ptr 0 0 0)), (2, .s (.int .i64 ((1 : Nat) : Int))), (3, .s (.ptr 6 0 0)), (4, .s (.slice 2 0 0 (X1.length + 1) (X1.length + 1))), (5, .s (.int .i64 ((1 : Nat) : Int)))] ∧ H = [BKb 4 (.gro 4 3 4), IB (X0.length + 1) (List.replicate (X0.length + 1) 1), IB (X1.length + 1) (List.replicate (X1.length + 1) 2), IB X2.length (List.replicate X2.length 3), RB (R3 (.slice 1 0 0 X0.length (X0.length + 1)) (.gro 5 1 (X0.length + 40)) 1 (R3 (.slice 2 0 0 X1.length (X1.length + 1)) .nils 2 (R3 (.slice 3 0 0 X2.length X2.length) .nils 3 (R3 .nils .nils 4 [])))), IB (X0.length + 40) (List.replicate (X0.length + 40) 1), RB (R3 (.slice 2 0 0 X1.length (X1.length + 1)) .nils 2 [])]) ∨ (∃ k, 2 ≤ k ∧ k ≤ 40 ∧ m_ = 40 - k ∧ T = [(0, .s (.ptr 0 0 0)), (2, .s (.int .i64 ((1 : Nat) : Int))), (3, .s (.ptr 6 0 0)), (4, .s (.gro 7 1 (X1.length + k))), (5, .s (.int .i64 ((k : Nat) : Int)))] ∧ H = [BKb 4 (.gro 4 3 4), IB (X0.length + 1) (List.replicate (X0.length + 1) 1), IB (X1.length + 1) (List.replicate (X1.length + 1) 2), IB X2.length (List.replicate X2.length 3), RB (R3 (.slice 1 0 0 X0.length (X0.length + 1)) (.gro 5 1 (X0.length + 40)) 1 (R3 (.slice 2 0 0 X1.length (X1.length + 1)) .nils 2 (R3 (.slice 3 0 0 X2.length X2.length) .nils 3 (R3 .nils .nils 4 [])))), IB (X0.length + 40) (List.replicate (X0.length + 40) 1), RB (R3 (.slice 2 0 0 X1.length (X1.length + 1)) .nils 2 []), IB (X1.length + k) (List.replicate (X1.length + k) 2)])) (40) (.inl ⟨rfl, rfl, rfl⟩) (wk hE [0, 1, 2, 3, 4, 5, 6]) ?_
   rintro n_ T_ H_ (⟨rfl, rfl, rfl⟩ | ⟨rfl, rfl, rfl⟩ | ⟨k, hk1, hk2, rfl, rfl, rfl⟩)
   · refine w_seq (qz hP hn ?_)
     refine o2 ?_
     refine s_nil trivial (n_wp ?_)
     refine w_T rfl ?_ 
     refine w_skip (n_wp (w_seq (w_block (g_reg hP hn ?_))))
     refine o3 ?_
     refine s_op (k_call [] (con := mark_c 2 (by decide))) ?_
     refine s_op k_bsf ?_
     refine s_op (k_apj (List.replicate (X1.length + 1) 2) (hl' := rep_j _ _)) ?_
     refine s_op k_as ?_
     refine s_nil trivial (n_blo (n_wp (g_reg hP hn ?_)))
     refine o3 ?_
     refine s_nil trivial ?_
     exact n_round 39 (by omega) (.inr (.inl ⟨rfl, rfl, rfl⟩)) (wk hE [0, 1, 2, 3, 4, 5, 6])
   · refine w_seq (qz hP hn ?_)
     refine o2 ?_
     refine s_nil trivial (n_wp ?_)
     refine w_T rfl ?_ 
     refine w_skip (n_wp (w_seq (w_block (g_reg hP hn ?_))))
     refine o3 ?_
     refine s_op (k_call [] (con := mark_c 2 (by decide))) ?_
     refine s_op k_bsf ?_
     refine s_op (k_apf (c := X1.length + 2) (l' := List.replicate (X1.length + 2) 2) (hl' := rep_s _ _) (h0 := by exact Nat.zero_lt_one) (hbig := by show X1.length + 1 + 1 ≤ 1000000; omega)) ?_
     refine s_op k_as ?_
     refine s_nil trivial (n_blo (n_wp (g_reg hP hn ?_)))
     refine o3 ?_
     refine s_nil trivial ?_
     exact n_round 38 (by omega) (.inr (.inr ⟨2, by omega, by omega, rfl, rfl, rfl⟩)) (wk hE [0, 1, 2, 3, 4, 5, 6, 8])
   · refine w_seq (qz hP hn ?_)
     refine o2 ?_
     refine s_nil trivial (n_wp ?_)
     refine w_if rfl (fun h_t25 => ?_) (fun h_t25 => ?_)
     · refine w_skip (n_wp (w_seq (w_block (g_reg hP hn ?_))))
       refine o3 ?_
       refine s_op (k_call [] (con := mark_c 2 (by decide))) ?_
       refine s_op k_bsf ?_
       refine s_op (k_apg (c := X1.length + (k + 1)) (l' := List.replicate (X1.length + (k + 1)) 2) (hl' := rep_t _ _) (hq := by exact Nat.le_refl _) (hbig := by show X1.length + k + 1 ≤ 1000000; omega)) ?_
       refine s_op k_as ?_
       refine s_nil trivial (n_blo (n_wp (g_reg hP hn ?_)))
       refine o3 ?_
       refine s_nil trivial ?_
       exact n_round (40 - (k + 1)) (by omega) (.inr (.inr ⟨k + 1, by omega, by omega, rfl, rfl, rfl⟩)) (wk hE [0, 1, 2, 3, 4, 5, 6, 9])
     · obtain rfl : k = 40 := by omega
       refine w_exit (x_thn (x_thn (x_eq (n_wp (g_reg hP hn ?_)))))
       refine o4 ?_
       refine o2 ?_
       refine s_op (k_ixG 3 1) ?_
       refine s_op k_fa ?_
       refine s_st (k_st (h := by exact a_store_one rfl rfl SV.noConfusion rfl rfl (hset_seg (by repeat (first | apply sset_s _ rfl rfl | exact sset_0)) (by repeat (first | exact hset_0 | apply hset_s))))) ?_
       refine s_nil trivial (n_blo (n_wp (g_reg hP hn ?_)))
       refine o3 ?_
       refine s_nil trivial ?_
       exact n_round 2 (by omega) (.inr (.inr (.inl ⟨rfl, rfl, rfl⟩))) (wk hE [0, 1, 2, 3, 4, 5, 7])
 · refine w_seq (qz hP hn ?_)
   refine o4 ?_
   refine o3 ?_
   refine s_nil trivial (n_wp ?_)
   refine w_T rfl ?_ 
   refine w_skip (n_wp (w_seq (w_block (qz hP hn ?_))))
   refine o3 ?_
   refine o2 ?_
   refine s_op (k_ixG 6 2) ?_
   refine s_op (k_ld (h := by exact a_load_agg (sub := (R3 (.slice 3 0 0 X2.length X2.length) .nils 3 [])) (r := (R3 (.slice 3 0 0 X2.length X2.length) .nils 3 (R3 .nils .nils 4 []))) rfl rfl (by kernel_rfl) (by kernel_rfl))) ?_
   refine s_op k_al ?_
   refine s_st (k_st (h := by exact a_store_agg rfl rfl rfl (put_w (by kernel_rfl)) (by exact Nat.le_of_ble_eq_true rfl) (by kernel_rfl) (by repeat (first | exact hset_0 | apply hset_s)))) ?_
   refine qx hP hn ?_
   refine o3 ?_
   refine s_nil trivial (n_wp (w_seq (qz hP hn ?_)))
   refine s_op k_as ?_
   refine s_nil trivial (n_wp (w_block ?_))
   refine c_loop (fun m_ T H => (m_ = 40 ∧ T = [(0, .s (.ptr 0 0 0)), (2, .s (.int .i64 ((2 : Nat) : Int))), (3, .s (.ptr 7 0 0)), (4, .s (.slice 3 0 0 X2.length X2.length)), (5, .s (.int .i64 ((0 : Nat) : Int)))] ∧ H = [BKb 4 (.gro 4 3 4), IB (X0.length + 1) (List.replicate (X0.length + 1) 1), IB (X1.length + 1) (List.replicate (X1.length + 1) 2), IB X2.length (List.replicate X2.length 3), RB (R3 (.slice 1 0 0 X0.length (X0.length + 1)) (.gro 5 1 (X0.length + 40)) 1 (R3 (.slice 2 0 0 X1.length (X1.length + 1)) (.gro 6 1 (X1.length + 40)) 2 (R3 (.slice 3 0 0 X2.length X2.length) .nils 3 (R3 .nils .nils 4 [])))), IB (X0.length + 40) (List.replicate (X0.length + 40) 1), IB (X1.length + 40) (List.replicate (X1.length + 40) 2), RB (R3 (.slice 3 0 0 X2.length X2.length) .nils 3 [])]) ∨ (∃ k, 1 ≤ k ∧ k ≤ 40 ∧ m_ = 40 - k ∧ T = [(0, .s (.ptr 0 0 0)), (2, .s (.int .i64 ((2 : Nat) : Int))), (3, .s (.ptr 7 0 0)), (4, .s (.gro 8 1 (X2.length + k))), (5, .s (.int .i64 ((k : Nat) : Int)))] ∧ H = [BKb 4 (.gro 4 3 4), IB (X0.length + 1) (List.replicate (X0.length + 1) 1), IB (X1.length + 1) (List.replicate (X1.length + 1) 2), IB X2.length (List.replicate X2.length 3), RB (R3 (.slice 1 0 0 X0.length (X0.length + 1)) (.gro 5 1 (X0.length + 40)) 1 (R3 (.slice 2 0 0 X1.length (X1.length + 1)) (.gro 6 1 (X1.length + 40)) 2 (R3 (.slice 3 0 0 X2.length X2.length) .nils 3 (R3 .nils .nils 4 [])))), IB (X0.length + 40) (List.replicate (X0.length + 40) 1), IB (X1.length + 40) (List.replicate (X1.length + 40) 2), RB (R3 (.slice 3 0 0 X2.length X2.length) .nils 3 []), IB (X2.length + k) (List.replicate (X2.length + k) 3)])) (40) (.inl ⟨rfl, rfl, rfl⟩) (wk hE [0, 1, 2, 3, 4, 5, 6, 7]) ?_
   rintro n_ T_ H_ (⟨rfl, rfl, rfl⟩ | ⟨k, hk1, hk2, rfl, rfl, rfl⟩)
   · refine w_seq (qz hP hn ?_)
     refine o2 ?_
     refine s_nil trivial (n_wp ?_)
     refine w_T rfl ?_ 
     refine w_skip (n_wp (w_seq (w_block (g_reg hP hn ?_))))
     refine o3 ?_
     refine s_op (k_call [] (con := mark_c 3 (by decide))) ?_
     refine s_op k_bsf ?_
     refine s_op (k_apf (c := X2.length + 1) (l' := List.replicate (X2.length + 1) 3) (hl' := rep_s _ _) (h0 := by exact Nat.zero_lt_one) (hbig := by show X2.length + 1 ≤ 1000000; omega)) ?_
     refine s_op k_as ?_
     refine s_nil trivial (n_blo (n_wp (g_reg hP hn ?_)))
     refine o3 ?_
     refine s_nil trivial ?_
     exact n_round 39 (by omega) (.inr ⟨1, by omega, by omega, rfl, rfl, rfl⟩) (wk hE [0, 1, 2, 3, 4, 5, 6, 7, 9])
   · refine w_seq (qz hP hn ?_)
     refine o2 ?_
     refine s_nil trivial (n_wp ?_)
     refine w_if rfl (fun h_t25 => ?_) (fun h_t25 => ?_)
     · refine w_skip (n_wp (w_seq (w_block (g_reg hP hn ?_))))
       refine o3 ?_
       refine s_op (k_call [] (con := mark_c 3 (by decide))) ?_
       refine s_op k_bsf ?_
       refine s_op (k_apg (c := X2.length + (k + 1)) (l' := List.replicate (X2.length + (k + 1)) 3) (hl' := rep_t _ _) (hq := by exact Nat.le_refl _) (hbig := by show X2.length + k + 1 ≤ 1000000; omega)) ?_
       refine s_op k_as ?_
       refine s_nil trivial (n_blo (n_wp (g_reg hP hn ?_)))
       refine o3 ?_
       refine s_nil trivial ?_
       exact n_round (40 - (k + 1)) (by omega) (.inr ⟨k + 1, by omega, by omega, rfl, rfl, rfl⟩) (wk hE [0, 1, 2, 3, 4, 5, 6, 7, 10])
     · obtain rfl : k = 40 := by omega
       refine w_exit (x_thn (x_thn (x_eq (n_wp (g_reg hP hn ?_)))))
       refine o4 ?_
       refine o2 ?_
       refine s_op (k_ixG 6 2) ?_
       refine s_op k_fa ?_
       refine s_st (k_st (h := by exact a_store_one rfl rfl SV.noConfusion rfl rfl (hset_seg (by repeat (first | apply sset_s _ rfl rfl | exact sset_0)) (by repeat (first | exact hset_0 | apply hset_s))))) ?_
       refine s_nil trivial (n_blo (n_wp (g_reg hP hn ?_)))
       refine o3 ?_
       refine s_nil trivial ?_
       exact n_round 1 (by omega) (.inr (.inr (.inr (.inl ⟨rfl, rfl, rfl⟩)))) (wk hE [0, 1, 2, 3, 4, 5, 6, 8])
 · refine w_seq (qz hP hn ?_)
   refine o4 ?_
   refine o3 ?_
   refine s_nil trivial (n_wp ?_)
   refine w_T rfl ?_ 
   refine w_skip (n_wp (w_seq (w_block (qz hP hn ?_))))
   refine o3 ?_
   refine o2 ?_
   refine s_op (k_ixG 9 3) ?_
   refine s_op (k_ld (h := by exact a_load_agg (sub := (R3 .nils .nils 4 [])) (r := (R3 .nils .nils 4 [])) rfl rfl (by kernel_rfl) (by kernel_rfl))) ?_
   refine s_op k_al ?_
   refine s_st (k_st (h := by exact a_store_agg rfl rfl rfl (put_w (by kernel_rfl)) (by exact Nat.le_of_ble_eq_true rfl) (by kernel_rfl) (by repeat (first | exact hset_0 | apply hset_s)))) ?_
   refine qx hP hn ?_
   refine o3 ?_
   refine s_nil trivial (n_wp (w_seq (w_seq ?_)))
   refine w_weak (weak_gro 4 1 9 (segs := [.ints .u8 (0 + 0) (List.replicate (0 + 0) 4)]) rfl rfl rfl) ?_
   refine g_reg hP hn ?_
   refine s_op k_as ?_
   refine s_nil trivial (n_wp (w_block ?_))
   refine c_loop (fun m_ T H => ∃ k, 0 ≤ k ∧ k ≤ 40 ∧ m_ = 40 - k ∧ T = [(0, .s (.ptr 0 0 0)), (2, .s (.int .i64 ((3 : Nat) : Int))), (3, .s (.ptr 8 0 0)), (4, .s (.gro 9 1 (0 + k))), (5, .s (.int .i64 ((k : Nat) : Int)))] ∧ H = [BKb 4 (.gro 4 3 4), IB (X0.length + 1) (List.replicate (X0.length + 1) 1), IB (X1.length + 1) (List.replicate (X1.length + 1) 2), IB X2.length (List.replicate X2.length 3), RB (R3 (.slice 1 0 0 X0.length (X0.length + 1)) (.gro 5 1 (X0.length + 40)) 1 (R3 (.slice 2 0 0 X1.length (X1.length + 1)) (.gro 6 1 (X1.length + 40)) 2 (R3 (.slice 3 0 0 X2.length X2.length) (.gro 7 1 (X2.length + 40)) 3 (R3 .nils .nils 4 [])))), IB (X0.length + 40) (List.replicate (X0.length + 40) 1), IB (X1.length + 40) (List.replicate (X1.length + 40) 2), IB (X2.length + 40) (List.replicate (X2.length + 40) 3), RB (R3 .nils .nils 4 []), IB (0 + k) (List.replicate (0 + k) 4)]) (40) ⟨0, by omega, by omega, rfl, rfl, rfl⟩ (wk hE [0, 1, 2, 3, 4, 5, 6, 7, 8, 9]) ?_
   rintro n_ T_ H_ ⟨k, hk1, hk2, rfl, rfl, rfl⟩
   · refine w_seq (qz hP hn ?_)
     refine o2 ?_
     refine s_nil trivial (n_wp ?_)
     refine w_if rfl (fun h_t25 => ?_) (fun h_t25 => ?_)
     · refine w_skip (n_wp (w_seq (w_block (g_reg hP hn ?_))))
       refine o3 ?_
       refine s_op (k_call [] (con := mark_c 4 (by decide))) ?_
       refine s_op k_bsf ?_
       refine s_op (k_apg (c := 0 + (k + 1)) (l' := List.replicate (0 + (k + 1)) 4) (hl' := rep_t _ _) (hq := by exact Nat.le_refl _) (hbig := by show 0 + k + 1 ≤ 1000000; omega)) ?_
       refine s_op k_as ?_
       refine s_nil trivial (n_blo (n_wp (g_reg hP hn ?_)))
       refine o3 ?_
       refine s_nil trivial ?_
       exact n_round (40 - (k + 1)) (by omega) (⟨k + 1, by omega, by omega, rfl, rfl, rfl⟩) (wk hE [0, 1, 2, 3, 4, 5, 6, 7, 8, 11])
     · obtain rfl : k = 40 := by omega
       refine w_exit (x_thn (x_thn (x_eq (n_wp (g_reg hP hn ?_)))))
       refine o4 ?_
       refine o2 ?_
       refine s_op (k_ixG 9 3) ?_
       refine s_op k_fa ?_
       refine s_st (k_st (h := by exact a_store_one rfl rfl SV.noConfusion rfl rfl (hset_seg (by repeat (first | apply sset_s _ rfl rfl | exact sset_0)) (by repeat (first | exact hset_0 | apply hset_s))))) ?_
       refine s_nil trivial (n_blo (n_wp (g_reg hP hn ?_)))
       refine o3 ?_
       refine s_nil trivial ?_
       exact n_round 0 (by omega) (.inr (.inr (.inr (.inr (⟨rfl, rfl, rfl⟩))))) (wk hE [0, 1, 2, 3, 4, 5, 6, 7, 9])
 · refine w_seq (qz hP hn ?_)
   refine o4 ?_
   refine o3 ?_
   refine s_nil trivial (n_wp ?_)
   refine w_F rfl ?_ 
   refine w_exit (x_thn (x_thn (x_eq ?_)))
   exact d_ret hP hn hE [0, 1, 2, 3, 4, 5, 6, 7, 8] (ret_none Tryz.results63)

theorem look_AABC (X0 : List Int) (hX0 : X0.length ≤ 100000) (X1 : List Int) (hX1 : X1.length ≤ 100000) (X2 : List Int) (hX2 : X2.length ≤ 100000) : Con Tryz.prog 78 [.s (.ptr 0 0 0)] [BKb 4 (.gro 4 3 4), IB (X0.length + 1) (List.replicate (X0.length + 1) 1), IB (X1.length + 1) (List.replicate (X1.length + 1) 2), IB X2.length (List.replicate X2.length 3), RB (R3 (.slice 1 0 0 X0.length (X0.length + 1)) (.gro 5 1 (X0.length + 40)) 1 (R3 (.slice 2 0 0 X1.length (X1.length + 1)) (.gro 6 1 (X1.length + 40)) 2 (R3 (.slice 3 0 0 X2.length X2.length) (.gro 7 1 (X2.length + 40)) 3 (R3 .nils (.gro 8 1 (0 + 40)) 4 [])))), IB (X0.length + 40) (List.replicate (X0.length + 40) 1), IB (X1.length + 40) (List.replicate (X1.length + 40) 2), IB (X2.length + 40) (List.replicate (X2.length + 40) 3), IB (0 + 40) (List.replicate (0 + 40) 4)] (.s (.bool true)) [BKb 4 (.gro 4 3 4), IB (X0.length + 1) (List.replicate (X0.length + 1) 1), IB (X1.length + 1) (List.replicate (X1.length + 1) 2), IB X2.length (List.replicate X2.length 3), RB (R3 (.slice 1 0 0 X0.length (X0.length + 1)) (.gro 5 1 (X0.length + 40)) 1 (R3 (.slice 2 0 0 X1.length (X1.length + 1)) (.gro 6 1 (X1.length + 40)) 2 (R3 (.slice 3 0 0 X2.length X2.length) (.gro 7 1 (X2.length + 40)) 3 (R3 .nils (.gro 8 1 (0 + 40)) 4 [])))), IB (X0.length + 40) (List.replicate (X0.length + 40) 1), IB (X1.length + 40) (List.replicate (X1.length + 40) 2), IB (X2.length + 40) (List.replicate (X2.length + 40) 3), IB (0 + 40) (List.replicate (0 + 40) 4)] := by
 refine con_in 64 Tryz.func78 rfl rfl (m := 9) rfl ?_
 intro E hP hn hE
 refine qz hP hn ?_
 refine s_op k_as ?_
 refine s_nil trivial (n_wp (w_seq (qz hP hn ?_)))
 refine s_op k_as ?_
 refine s_nil trivial (n_wp (w_block ?_))
 refine c_loop (fun m_ T H => (m_ = 4 ∧ T = [(0, .s (.ptr 0 0 0)), (3, .s (.int .i64 ((0 : Nat) : Int)))] ∧ H = [BKb 4 (.gro 4 3 4), IB (X0.length + 1) (List.replicate (X0.length + 1) 1), IB (X1.length + 1) (List.replicate (X1.length + 1) 2), IB X2.length (List.replicate X2.length 3), RB (R3 (.slice 1 0 0 X0.length (X0.length + 1)) (.gro 5 1 (X0.length + 40)) 1 (R3 (.slice 2 0 0 X1.length (X1.length + 1)) (.gro 6 1 (X1.length + 40)) 2 (R3 (.slice 3 0 0 X2.length X2.length) (.gro 7 1 (X2.length + 40)) 3 (R3 .nils (.gro 8 1 (0 + 40)) 4 [])))), IB (X0.length + 40) (List.replicate (X0.length + 40) 1), IB (X1.length + 40) (List.replicate (X1.length + 40) 2), IB (X2.length + 40) (List.replicate (X2.length + 40) 3), IB (0 + 40) (List.replicate (0 + 40) 4)]) ∨ (m_ = 3 ∧ T = [(0, .s (.ptr 0 0 0)), (3, .s (.int .i64 ((1 : Nat) : Int)))] ∧ H = [BKb 4 (.gro 4 3 4), IB (X0.length + 1) (List.replicate (X0.length + 1) 1), IB (X1.length + 1) (List.replicate (X1.length + 1) 2), IB X2.length (List.replicate X2.length 3), RB (R3 (.slice 1 0 0 X0.length (X0.length + 1)) (.gro 5 1 (X0.length + 40)) 1 (R3 (.slice 2 0 0 X1.length (X1.length + 1)) (.gro 6 1 (X1.length + 40)) 2 (R3 (.slice 3 0 0 X2.length X2.length) (.gro 7 1 (X2.length + 40)) 3 (R3 .nils (.gro 8 1 (0 + 40)) 4 [])))), IB (X0.length + 40) (List.replicate (X0.length + 40) 1), IB (X1.length + 40) (List.replicate (X1.length + 40) 2), IB (X2.length + 40) (List.replicate (X2.length + 40) 3), IB (0 + 40) (List.replicate (0 + 40) 4)]) ∨ (m_ = 2 ∧ T = [(0, .s (.ptr 0 0 0)), (3, .s (.int .i64 ((2 : Nat) : Int)))] ∧ H = [BKb 4 (.gro 4 3 4), IB (X0.length + 1) (List.replicate (X0.length + 1) 1), IB (X1.length + 1) (List.replicate (X1.length + 1) 2), IB X2.length (List.replicate X2.length 3), RB (R3 (.slice 1 0 0 X0.length (X0.length + 1)) (.gro 5 1 (X0.length + 40)) 1 (R3 (.slice 2 0 0 X1.length (X1.length + 1)) (.gro 6 1 (X1.length + 40)) 2 (R3 (.slice 3 0 0 X2.length X2.length) (.gro 7 1 (X2.length + 40)) 3 (R3 .nils (.gro 8 1 (0 + 40)) 4 [])))), IB (X0.length + 40) (List.replicate (X0.length + 40) 1), IB (X1.length + 40) (List.replicate (X1.length + 40) 2), IB (X2.length + 40) (List.replicate (X2.length + 40) 3), IB (0 + 40) (List.replicate (0 + 40) 4)]) ∨ (m_ = 1 ∧ T = [(0, .s (.ptr 0 0 0)), (3, .s (.int .i64 ((3 : Nat) : Int)))] ∧ H = [BKb 4 (.gro 4 3 4), IB (X0.length + 1) (List.replicate (X0.length + 1) 1), IB (X1.length + 1) (List.replicate (X1.length + 1) 2), IB X2.length (List.replicate X2.length 3), RB (R3 (.slice 1 0 0 X0.length (X0.length + 1)) (.gro 5 1 (X0.length + 40)) 1 (R3 (.slice 2 0 0 X1.length (X1.length + 1)) (.gro 6 1 (X1.length + 40)) 2 (R3 (.slice 3 0 0 X2.length X2.length) (.gro 7 1 (X2.length + 40)) 3 (R3 .nils (.gro 8 1 (0 + 40)) 4 [])))), IB (X0.length + 40) (List.replicate (X0.length + 40) 1), IB (X1.length + 40) (List.replicate (X1.length + 40) 2), IB (X2.length + 40) (List.replicate (X2.length + 40) 3), IB (0 + 40) (List.replicate (0 + 40) 4)]) ∨ (m_ = 0 ∧ T = [(0, .s (.ptr 0 0 0)), (3, .s (.int .i64 ((4 : Nat) : Int)))] ∧ H = [BKb 4 (.gro 4 3 4), IB (X0.length + 1) (List.replicate (X0.length + 1) 1), IB (X1.length + 1) (List.replicate (X1.length + 1) 2), IB X2.length (List.replicate X2.length 3), RB (R3 (.slice 1 0 0 X0.length (X0.length + 1)) (.gro 5 1 (X0.length + 40)) 1 (R3 (.slice 2 0 0 X1.length (X1.length + 1)) (.gro 6 1 (X1.length + 40)) 2 (R3 (.slice 3 0 0 X2.length X2.length) (.gro 7 1 (X2.length + 40)) 3 (R3 .nils (.gro 8 1 (0 + 40)) 4 [])))), IB (X0.length + 40) (List.replicate (X0.length + 40) 1), IB (X1.length + 40) (List.replicate (X1.length + 40) 2), IB (X2.length + 40) (List.replicate (X2.length + 40) 3), IB (0 + 40) (List.replicate (0 + 40) 4)])) (4) (.inl ⟨rfl, rfl, rfl⟩) (wk hE [0, 1, 2, 3, 4, 5, 6, 7, 8]) ?_
 rintro n_ T_ H_ (⟨rfl, rfl, rfl⟩ | ⟨rfl, rfl, rfl⟩ | ⟨rfl, rfl, rfl⟩ | ⟨rfl, rfl, rfl⟩ | ⟨rfl, rfl, rfl⟩)
 · refine w_seq (qz hP hn ?_)
   refine o4 ?_
   refine o3 ?_
   refine s_nil trivial (n_wp ?_)
   refine w_T rfl ?_ 
   refine w_skip (n_wp (w_seq (w_block (qz hP hn ?_))))
   refine o3 ?_
   refine o2 ?_
   refine s_op (k_ixG 0 0) ?_
   refine s_op (k_ld (h := by exact a_load_agg (sub := (R3 (.slice 1 0 0 X0.length (X0.length + 1)) (.gro 5 1 (X0.length + 40)) 1 [])) (r := (R3 (.slice 1 0 0 X0.length (X0.length + 1)) (.gro 5 1 (X0.length + 40)) 1 (R3 (.slice 2 0 0 X1.length (X1.length + 1)) (.gro 6 1 (X1.length + 40)) 2 (R3 (.slice 3 0 0 X2.length X2.length) (.gro 7 1 (X2.length + 40)) 3 (R3 .nils (.gro 8 1 (0 + 40)) 4 []))))) rfl rfl (by kernel_rfl) (by kernel_rfl))) ?_
   refine s_op k_al ?_
   refine s_st (k_st (h := by exact a_store_agg rfl rfl rfl (put_w (by kernel_rfl)) (by exact Nat.le_of_ble_eq_true rfl) (by kernel_rfl) (by repeat (first | exact hset_0 | apply hset_s)))) ?_
   refine s_nil trivial (n_wp (w_seq (qz hP hn ?_)))
   refine o4 ?_
   refine o3 ?_
   refine s_op (l_bin rfl rfl (b_neq (r := false) (decide_eq_false (by omega)))) ?_
   refine s_nil trivial (n_wp ?_)
   refine w_F rfl ?_ 
   refine w_skip (n_wp (qz hP hn ?_))
   refine s_op k_as ?_
   refine s_nil trivial (n_wp (w_block ?_))
   refine c_loop (fun m_ T H => ∃ k, k ≤ X0.length + 40 ∧ m_ = X0.length + 40 - k ∧ T = [(0, .s (.ptr 0 0 0)), (3, .s (.int .i64 ((0 : Nat) : Int))), (4, .s (.ptr 9 0 0)), (5, .s (.int .i64 ((k : Nat) : Int)))] ∧ H = [BKb 4 (.gro 4 3 4), IB (X0.length + 1) (List.replicate (X0.length + 1) 1), IB (X1.length + 1) (List.replicate (X1.length + 1) 2), IB X2.length (List.replicate X2.length 3), RB (R3 (.slice 1 0 0 X0.length (X0.length + 1)) (.gro 5 1 (X0.length + 40)) 1 (R3 (.slice 2 0 0 X1.length (X1.length + 1)) (.gro 6 1 (X1.length + 40)) 2 (R3 (.slice 3 0 0 X2.length X2.length) (.gro 7 1 (X2.length + 40)) 3 (R3 .nils (.gro 8 1 (0 + 40)) 4 [])))), IB (X0.length + 40) (List.replicate (X0.length + 40) 1), IB (X1.length + 40) (List.replicate (X1.length + 40) 2), IB (X2.length + 40) (List.replicate (X2.length + 40) 3), IB (0 + 40) (List.replicate (0 + 40) 4), RB (R3 (.slice 1 0 0 X0.length (X0.length + 1)) (.gro 5 1 (X0.length + 40)) 1 [])]) (X0.length + 40) ⟨0, by omega, rfl, rfl, rfl⟩ (wk hE [0, 1, 2, 3, 4, 5, 6, 7, 8, 9]) ?_
   rintro n_ T_ H_ ⟨k, hk, rfl, rfl, rfl⟩
   refine w_seq (qz hP hn ?_)
   refine o3 ?_
   refine o2 ?_
   refine s_nil trivial (n_wp ?_)
   refine w_if rfl (fun h_t34 => ?_) (fun h_t34 => ?_)
   · refine w_skip (n_wp (w_seq (w_block (w_seq ?_))))
     refine g_any hP hn ?_
     refine o4 ?_
     refine o3 ?_
     refine s_op (k_call [] (con := is_t 1 _ (by decide) (rep_g _ _ _ (by omega)))) ?_
     refine o2 ?_
     refine s_on rfl rfl rfl k_mv ?_
     refine s_on rfl rfl rfl k_fa ?_
     refine s_on rfl rfl rfl k_ld ?_
     refine s_on rfl rfl rfl k_len ?_
     refine s_on rfl rfl rfl k_lss ?_
     refine s_on rfl rfl rfl k_mv ?_
     refine s_opt rfl rfl (fun hB => by rw [hB]; (try simp only [Bool.or_eq_true, Bool.or_eq_false_iff, Bool.and_eq_true, Bool.not_eq_true', Bool.not_eq_false', decide_eq_true_eq, decide_eq_false_iff_not] at hB); exact k_fa) ?_
     refine s_opt rfl rfl (fun hB => by rw [hB]; (try simp only [Bool.or_eq_true, Bool.or_eq_false_iff, Bool.and_eq_true, Bool.not_eq_true', Bool.not_eq_false', decide_eq_true_eq, decide_eq_false_iff_not] at hB); exact k_ld) ?_
     refine s_opt rfl rfl (fun hB => by rw [hB]; (try simp only [Bool.or_eq_true, Bool.or_eq_false_iff, Bool.and_eq_true, Bool.not_eq_true', Bool.not_eq_false', decide_eq_true_eq, decide_eq_false_iff_not] at hB); exact k_mv) ?_
     refine s_opt rfl rfl (fun hB => by rw [hB]; (try simp only [Bool.or_eq_true, Bool.or_eq_false_iff, Bool.and_eq_true, Bool.not_eq_true', Bool.not_eq_false', decide_eq_true_eq, decide_eq_false_iff_not] at hB); exact k_ix) ?_
     refine s_opt rfl rfl (fun hB => by rw [hB]; (try simp only [Bool.or_eq_true, Bool.or_eq_false_iff, Bool.and_eq_true, Bool.not_eq_true', Bool.not_eq_false', decide_eq_true_eq, decide_eq_false_iff_not] at hB); exact k_ld) ?_
     refine s_opt rfl rfl (fun hB => by rw [hB]; (try simp only [Bool.or_eq_true, Bool.or_eq_false_iff, Bool.and_eq_true, Bool.not_eq_true', Bool.not_eq_false', decide_eq_true_eq, decide_eq_false_iff_not] at hB); exact k_fa) ?_
     refine s_opt rfl rfl (fun hB => by rw [hB]; (try simp only [Bool.or_eq_true, Bool.or_eq_false_iff, Bool.and_eq_true, Bool.not_eq_true', Bool.not_eq_false', decide_eq_true_eq, decide_eq_false_iff_not] at hB); exact k_ld) ?_
     refine s_opt rfl rfl (fun hB => by rw [hB]; (try simp only [Bool.or_eq_true, Bool.or_eq_false_iff, Bool.and_eq_true, Bool.not_eq_true', Bool.not_eq_false', decide_eq_true_eq, decide_eq_false_iff_not] at hB); exact k_call [] (con := is_t 1 _ (by decide) (rep_g _ _ _ (by omega)))) ?_
     refine s_opt rfl rfl (fun hB => by rw [hB]; (try simp only [Bool.or_eq_true, Bool.or_eq_false_iff, Bool.and_eq_true, Bool.not_eq_true', Bool.not_eq_false', decide_eq_true_eq, decide_eq_false_iff_not] at hB); exact k_not) ?_
     refine s_on rfl rfl rfl k_pk ?_
     refine s_op k_pk ?_
     refine s_nil (by kernel_rfl) ?_
     refine n_wp ?_
     refine w_F rfl ?_ (by first | rfl | exact Bool.and_false _ | simp)
     refine w_skip (n_blo (n_wp (g_reg hP hn ?_)))
     refine o3 ?_
     refine s_nil trivial ?_
     exact n_round (X0.length + 40 - (k + 1)) (by omega) ⟨k + 1, by omega, rfl, rfl, rfl⟩ (wk hE [0, 1, 2, 3, 4, 5, 6, 7, 8, 9])
   · obtain rfl : k = X0.length + 40 := by omega
     refine w_exit (x_thn (x_thn (x_eq (n_blo (n_wp (g_reg hP hn ?_))))))
     refine o3 ?_
     refine s_nil trivial ?_
     exact n_round 3 (by omega) (.inr (.inl ⟨rfl, rfl, rfl⟩)) (wk hE [0, 1, 2, 3, 4, 5, 6, 7, 8])
 · refine w_seq (qz hP hn ?_)
   refine o4 ?_
   refine o3 ?_
   refine s_nil trivial (n_wp ?_)
   refine w_T rfl ?_ 
   refine w_skip (n_wp (w_seq (w_block (qz hP hn ?_))))
   refine o3 ?_
   refine o2 ?_
   refine s_op (k_ixG 3 1) ?_
   refine s_op (k_ld (h := by exact a_load_agg (sub := (R3 (.slice 2 0 0 X1.length (X1.length + 1)) (.gro 6 1 (X1.length + 40)) 2 [])) (r := (R3 (.slice 2 0 0 X1.length (X1.length + 1)) (.gro 6 1 (X1.length + 40)) 2 (R3 (.slice 3 0 0 X2.length X2.length) (.gro 7 1 (X2.length + 40)) 3 (R3 .nils (.gro 8 1 (0 + 40)) 4 [])))) rfl rfl (by kernel_rfl) (by kernel_rfl))) ?_
   refine s_op k_al ?_
   refine s_st (k_st (h := by exact a_store_agg rfl rfl rfl (put_w (by kernel_rfl)) (by exact Nat.le_of_ble_eq_true rfl) (by kernel_rfl) (by repeat (first | exact hset_0 | apply hset_s)))) ?_
   refine s_nil trivial (n_wp (w_seq (qz hP hn ?_)))
   refine o4 ?_
   refine o3 ?_
   refine s_op (l_bin rfl rfl (b_neq (r := false) (decide_eq_false (by omega)))) ?_
   refine s_nil trivial (n_wp ?_)
   refine w_F rfl ?_ 
   refine w_skip (n_wp (qz hP hn ?_))
   refine s_op k_as ?_
   refine s_nil trivial (n_wp (w_block ?_))
   refine c_loop (fun m_ T H => ∃ k, k ≤ X1.length + 40 ∧ m_ = X1.length + 40 - k ∧ T = [(0, .s (.ptr 0 0 0)), (3, .s (.int .i64 ((1 : Nat) : Int))), (4, .s (.ptr 9 0 0)), (5, .s (.int .i64 ((k : Nat) : Int)))] ∧ H = [BKb 4 (.gro 4 3 4), IB (X0.length + 1) (List.replicate (X0.length + 1) 1), IB (X1.length + 1) (List.replicate (X1.length + 1) 2), IB X2.length (List.replicate X2.length 3), RB (R3 (.slice 1 0 0 X0.length (X0.length + 1)) (.gro 5 1 (X0.length + 40)) 1 (R3 (.slice 2 0 0 X1.length (X1.length + 1)) (.gro 6 1 (X1.length + 40)) 2 (R3 (.slice 3 0 0 X2.length X2.length) (.gro 7 1 (X2.length + 40)) 3 (R3 .nils (.gro 8 1 (0 + 40)) 4 [])))), IB (X0.length + 40) (List.replicate (X0.length + 40) 1), IB (X1.length + 40) (List.replicate (X1.length + 40) 2), IB (X2.length + 40) (List.replicate (X2.length + 40) 3), IB (0 + 40) (List.replicate (0 + 40) 4), RB (R3 (.slice 2 0 0 X1.length (X1.length + 1)) (.gro 6 1 (X1.length + 40)) 2 [])]) (X1.length + 40) ⟨0, by omega, rfl, rfl, rfl⟩ (wk hE [0, 1, 2, 3, 4, 5, 6, 7, 8, 9]) ?_
   rintro n_ T_ H_ ⟨k, hk, rfl, rfl, rfl⟩
   refine w_seq (qz hP hn ?_)
   refine o3 ?_
   refine o2 ?_
   refine s_nil trivial (n_wp ?_)
   refine w_if rfl (fun h_t34 => ?_) (fun h_t34 => ?_)
   · refine w_skip (n_wp (w_seq (w_block (w_seq ?_))))
     refine g_any hP hn ?_
     refine o4 ?_
     refine o3 ?_
     refine s_op (k_call [] (con := is_t 2 _ (by decide) (rep_g _ _ _ (by omega)))) ?_
     refine o2 ?_
     refine s_on rfl rfl rfl k_mv ?_
     refine s_on rfl rfl rfl k_fa ?_
     refine s_on rfl rfl rfl k_ld ?_
     refine s_on rfl rfl rfl k_len ?_
     refine s_on rfl rfl rfl k_lss ?_
     refine s_on rfl rfl rfl k_mv ?_
     refine s_opt rfl rfl (fun hB => by rw [hB]; (try simp only [Bool.or_eq_true, Bool.or_eq_false_iff, Bool.and_eq_true, Bool.not_eq_true', Bool.not_eq_false', decide_eq_true_eq, decide_eq_false_iff_not] at hB); exact k_fa) ?_
     refine s_opt rfl rfl (fun hB => by rw [hB]; (try simp only [Bool.or_eq_true, Bool.or_eq_false_iff, Bool.and_eq_true, Bool.not_eq_true', Bool.not_eq_false', decide_eq_true_eq, decide_eq_false_iff_not] at hB); exact k_ld) ?_
     refine s_opt rfl rfl (fun hB => by rw [hB]; (try simp only [Bool.or_eq_true, Bool.or_eq_false_iff, Bool.and_eq_true, Bool.not_eq_true', Bool.not_eq_false', decide_eq_true_eq, decide_eq_false_iff_not] at hB); exact k_mv) ?_
     refine s_opt rfl rfl (fun hB => by rw [hB]; (try simp only [Bool.or_eq_true, Bool.or_eq_false_iff, Bool.and_eq_true, Bool.not_eq_true', Bool.not_eq_false', decide_eq_true_eq, decide_eq_false_iff_not] at hB); exact k_ix) ?_
     refine s_opt rfl rfl (fun hB => by rw [hB]; (try simp only [Bool.or_eq_true, Bool.or_eq_false_iff, Bool.and_eq_true, Bool.not_eq_true', Bool.not_eq_false', decide_eq_true_eq, decide_eq_false_iff_not] at hB); exact k_ld) ?_
     refine s_opt rfl rfl (fun hB => by rw [hB]; (try simp only [Bool.or_eq_true, Bool.or_eq_false_iff, Bool.and_eq_true, Bool.not_eq_true', Bool.not_eq_false', decide_eq_true_eq, decide_eq_false_iff_not] at hB); exact k_fa) ?_
     refine s_opt rfl rfl (fun hB => by rw [hB]; (try simp only [Bool.or_eq_true, Bool.or_eq_false_iff, Bool.and_eq_true, Bool.not_eq_true', Bool.not_eq_false', decide_eq_true_eq, decide_eq_false_iff_not] at hB); exact k_ld) ?_
     refine s_opt rfl rfl (fun hB => by rw [hB]; (try simp only [Bool.or_eq_true, Bool.or_eq_false_iff, Bool.and_eq_true, Bool.not_eq_true', Bool.not_eq_false', decide_eq_true_eq, decide_eq_false_iff_not] at hB); exact k_call [] (con := is_t 2 _ (by decide) (rep_g _ _ _ (by omega)))) ?_
     refine s_opt rfl rfl (fun hB => by rw [hB]; (try simp only [Bool.or_eq_true, Bool.or_eq_false_iff, Bool.and_eq_true, Bool.not_eq_true', Bool.not_eq_false', decide_eq_true_eq, decide_eq_false_iff_not] at hB); exact k_not) ?_
     refine s_on rfl rfl rfl k_pk ?_
     refine s_op k_pk ?_
     refine s_nil (by kernel_rfl) ?_
     refine n_wp ?_
     refine w_F rfl ?_ (by first | rfl | exact Bool.and_false _ | simp)
     refine w_skip (n_blo (n_wp (g_reg hP hn ?_)))
     refine o3 ?_
     refine s_nil trivial ?_
     exact n_round (X1.length + 40 - (k + 1)) (by omega) ⟨k + 1, by omega, rfl, rfl, rfl⟩ (wk hE [0, 1, 2, 3, 4, 5, 6, 7, 8, 9])
   · obtain rfl : k = X1.length + 40 := by omega
     refine w_exit (x_thn (x_thn (x_eq (n_blo (n_wp (g_reg hP hn ?_))))))
     refine o3 ?_
     refine s_nil trivial ?_
     exact n_round 2 (by omega) (.inr (.inr (.inl ⟨rfl, rfl, rfl⟩))) (wk hE [0, 1, 2, 3, 4, 5, 6, 7, 8])
 · refine w_seq (qz hP hn ?_)
   refine o4 ?_
   refine o3 ?_
   refine s_nil trivial (n_wp ?_)
   refine w_T rfl ?_ 
   refine w_skip (n_wp (w_seq (w_block (qz hP hn ?_))))
   refine o3 ?_
   refine o2 ?_
   refine s_op (k_ixG 6 2) ?_
   refine s_op (k_ld (h := by exact a_load_agg (sub := (R3 (.slice 3 0 0 X2.length X2.length) (.gro 7 1 (X2.length + 40)) 3 [])) (r := (R3 (.slice 3 0 0 X2.length X2.length) (.gro 7 1 (X2.length + 40)) 3 (R3 .nils (.gro 8 1 (0 + 40)) 4 []))) rfl rfl (by kernel_rfl) (by kernel_rfl))) ?_
   refine s_op k_al ?_
   refine s_st (k_st (h := by exact a_store_agg rfl rfl rfl (put_w (by kernel_rfl)) (by exact Nat.le_of_ble_eq_true rfl) (by kernel_rfl) (by repeat (first | exact hset_0 | apply hset_s)))) ?_
   refine s_nil trivial (n_wp (w_seq (qz hP hn ?_)))
   refine o4 ?_
   refine o3 ?_
   refine s_op (l_bin rfl rfl (b_neq (r := false) (decide_eq_false (by omega)))) ?_
   refine s_nil trivial (n_wp ?_)
   refine w_F rfl ?_ 
   refine w_skip (n_wp (qz hP hn ?_))
   refine s_op k_as ?_
   refine s_nil trivial (n_wp (w_block ?_))
   refine c_loop (fun m_ T H => ∃ k, k ≤ X2.length + 40 ∧ m_ = X2.length + 40 - k ∧ T = [(0, .s (.ptr 0 0 0)), (3, .s (.int .i64 ((2 : Nat) : Int))), (4, .s (.ptr 9 0 0)), (5, .s (.int .i64 ((k : Nat) : Int)))] ∧ H = [BKb 4 (.gro 4 3 4), IB (X0.length + 1) (List.replicate (X0.length + 1) 1), IB (X1.length + 1) (List.replicate (X1.length + 1) 2), IB X2.length (List.replicate X2.length 3), RB (R3 (.slice 1 0 0 X0.length (X0.length + 1)) (.gro 5 1 (X0.length + 40)) 1 (R3 (.slice 2 0 0 X1.length (X1.length + 1)) (.gro 6 1 (X1.length + 40)) 2 (R3 (.slice 3 0 0 X2.length X2.length) (.gro 7 1 (X2.length + 40)) 3 (R3 .nils (.gro 8 1 (0 + 40)) 4 [])))), IB (X0.length + 40) (List.replicate (X0.length + 40) 1), IB (X1.length + 40) (List.replicate (X1.length + 40) 2), IB (X2.length + 40) (List.replicate (X2.length + 40) 3), IB (0 + 40) (List.replicate (0 + 40) 4), RB (R3 (.slice 3 0 0 X2.length X2.length) (.gro 7 1 (X2.length + 40)) 3 [])]) (X2.length + 40) ⟨0, by omega, rfl, rfl, rfl⟩ (wk hE [0, 1, 2, 3, 4, 5, 6, 7, 8, 9]) ?_
   rintro n_ T_ H_ ⟨k, hk, rfl, rfl, rfl⟩
   refine w_seq (qz hP hn ?_)
   refine o3 ?_
   refine o2 ?_
   refine s_nil trivial (n_wp ?_)
   refine w_if rfl (fun h_t34 => ?_) (fun h_t34 => ?_)
   · refine w_skip (n_wp (w_seq (w_block (w_seq ?_))))
     refine g_any hP hn ?_
     refine o4 ?_
     refine o3 ?_
     refine s_op (k_call [] (con := is_t 3 _ (by decide) (rep_g _ _ _ (by omega)))) ?_
     refine o2 ?_
     refine s_on rfl rfl rfl k_mv ?_
     refine s_on rfl rfl rfl k_fa ?_
     refine s_on rfl rfl rfl k_ld ?_
     refine s_on rfl rfl rfl k_len ?_
     refine s_on rfl rfl rfl k_lss ?_
     refine s_on rfl rfl rfl k_mv ?_
     refine s_opt rfl rfl (fun hB => by rw [hB]; (try simp only [Bool.or_eq_true, Bool.or_eq_false_iff, Bool.and_eq_true, Bool.not_eq_true', Bool.not_eq_false', decide_eq_true_eq, decide_eq_false_iff_not] at hB); exact k_fa) ?_
     refine s_opt rfl rfl (fun hB => by rw [hB]; (try simp only [Bool.or_eq_true, Bool.or_eq_false_iff, Bool.and_eq_true, Bool.not_eq_true', Bool.not_eq_false', decide_eq_true_eq, decide_eq_false_iff_not] at hB); exact k_ld) ?_
     refine s_opt rfl rfl (fun hB => by rw [hB]; (try simp only [Bool.or_eq_true, Bool.or_eq_false_iff, Bool.and_eq_true, Bool.not_eq_true', Bool.not_eq_false', decide_eq_true_eq, decide_eq_false_iff_not] at hB); exact k_mv) ?_
     refine s_opt rfl rfl (fun hB => by rw [hB]; (try simp only [Bool.or_eq_true, Bool.or_eq_false_iff, Bool.and_eq_true, Bool.not_eq_true', Bool.not_eq_false', decide_eq_true_eq, decide_eq_false_iff_not] at hB); exact k_ix) ?_
     refine s_opt rfl rfl (fun hB => by rw [hB]; (try simp only [Bool.or_eq_true, Bool.or_eq_false_iff, Bool.and_eq_true, Bool.not_eq_true', Bool.not_eq_false', decide_eq_true_eq, decide_eq_false_iff_not] at hB); exact k_ld) ?_
     refine s_opt rfl rfl (fun hB => by rw [hB]; (try simp only [Bool.or_eq_true, Bool.or_eq_false_iff, Bool.and_eq_true, Bool.not_eq_true', Bool.not_eq_false', decide_eq_true_eq, decide_eq_false_iff_not] at hB); exact k_fa) ?_
     refine s_opt rfl rfl (fun hB => by rw [hB]; (try simp only [Bool.or_eq_true, Bool.or_eq_false_iff, Bool.and_eq_true, Bool.not_eq_true', Bool.not_eq_false', decide_eq_true_eq, decide_eq_false_iff_not] at hB); exact k_ld) ?_
     refine s_opt rfl rfl (fun hB => by rw [hB]; (try simp only [Bool.or_eq_true, Bool.or_eq_false_iff, Bool.and_eq_true, Bool.not_eq_true', Bool.not_eq_false', decide_eq_true_eq, decide_eq_false_iff_not] at hB); exact k_call [] (con := is_t 3 _ (by decide) (rep_g _ _ _ (by omega)))) ?_
     refine s_opt rfl rfl (fun hB => by rw [hB]; (try simp only [Bool.or_eq_true, Bool.or_eq_false_iff, Bool.and_eq_true, Bool.not_eq_true', Bool.not_eq_false', decide_eq_true_eq, decide_eq_false_iff_not] at hB); exact k_not) ?_
     refine s_on rfl rfl rfl k_pk ?_
     refine s_op k_pk ?_
     refine s_nil (by kernel_rfl) ?_
     refine n_wp ?_
     refine w_F rfl ?_ (by first | rfl | exact Bool.and_false _ | simp)
     refine w_skip (n_blo (n_wp (g_reg hP hn ?_)))
     refine o3 ?_
     refine s_nil trivial ?_
     exact n_round (X2.length + 40 - (k + 1)) (by omega) ⟨k + 1, by omega, rfl, rfl, rfl⟩ (wk hE [0, 1, 2, 3, 4, 5, 6, 7, 8, 9])
   · obtain rfl : k = X2.length + 40 := by omega
     refine w_exit (x_thn (x_thn (x_eq (n_blo (n_wp (g_reg hP hn ?_))))))
     refine o3 ?_
     refine s_nil trivial ?_
     exact n_round 1 (by omega) (.inr (.inr (.inr (.inl ⟨rfl, rfl, rfl⟩)))) (wk hE [0, 1, 2, 3, 4, 5, 6, 7, 8])
 · refine w_seq (qz hP hn ?_)
   refine o4 ?_
   refine o3 ?_
   refine s_nil trivial (n_wp ?_)
   refine w_T rfl ?_ 
   refine w_skip (n_wp (w_seq (w_block (qz hP hn ?_))))
   refine o3 ?_
   refine o2 ?_
   refine s_op (k_ixG 9 3) ?_
   refine s_op (k_ld (h := by exact a_load_agg (sub := (R3 .nils (.gro 8 1 (0 + 40)) 4 [])) (r := (R3 .nils (.gro 8 1 (0 + 40)) 4 [])) rfl rfl (by kernel_rfl) (by kernel_rfl))) ?_
   refine s_op k_al ?_
   refine s_st (k_st (h := by exact a_store_agg rfl rfl rfl (put_w (by kernel_rfl)) (by exact Nat.le_of_ble_eq_true rfl) (by kernel_rfl) (by repeat (first | exact hset_0 | apply hset_s)))) ?_
   refine s_nil trivial (n_wp (w_seq (qz hP hn ?_)))
   refine o4 ?_
   refine o3 ?_
   refine s_op (l_bin rfl rfl (b_neq (r := false) (decide_eq_false (by omega)))) ?_
   refine s_nil trivial (n_wp ?_)
   refine w_F rfl ?_ 
   refine w_skip (n_wp (qz hP hn ?_))
   refine s_op k_as ?_
   refine s_nil trivial (n_wp (w_block ?_))
   refine c_loop (fun m_ T H => ∃ k, k ≤ 0 + 40 ∧ m_ = 0 + 40 - k ∧ T = [(0, .s (.ptr 0 0 0)), (3, .s (.int .i64 ((3 : Nat) : Int))), (4, .s (.ptr 9 0 0)), (5, .s (.int .i64 ((k : Nat) : Int)))] ∧ H = [BKb 4 (.gro 4 3 4), IB (X0.length + 1) (List.replicate (X0.length + 1) 1), IB (X1.length + 1) (List.replicate (X1.length + 1) 2), IB X2.length (List.replicate X2.length 3), RB (R3 (.slice 1 0 0 X0.length (X0.length + 1)) (.gro 5 1 (X0.length + 40)) 1 (R3 (.slice 2 0 0 X1.length (X1.length + 1)) (.gro 6 1 (X1.length + 40)) 2 (R3 (.slice 3 0 0 X2.length X2.length) (.gro 7 1 (X2.length + 40)) 3 (R3 .nils (.gro 8 1 (0 + 40)) 4 [])))), IB (X0.length + 40) (List.replicate (X0.length + 40) 1), IB (X1.length + 40) (List.replicate (X1.length + 40) 2), IB (X2.length + 40) (List.replicate (X2.length + 40) 3), IB (0 + 40) (List.replicate (0 + 40) 4), RB (R3 .nils (.gro 8 1 (0 + 40)) 4 [])]) (0 + 40) ⟨0, by omega, rfl, rfl, rfl⟩ (wk hE [0, 1, 2, 3, 4, 5, 6, 7, 8, 9]) ?_
   rintro n_ T_ H_ ⟨k, hk, rfl, rfl, rfl⟩
   refine w_seq (qz hP hn ?_)
   refine o3 ?_
   refine o2 ?_
   refine s_nil trivial (n_wp ?_)
   refine w_if rfl (fun h_t34 => ?_) (fun h_t34 => ?_)
   · refine w_skip (n_wp (w_seq (w_block (w_seq ?_))))
     refine g_any hP hn ?_
     refine o4 ?_
     refine o3 ?_
     refine s_op (k_call [] (con := is_t 4 _ (by decide) (rep_g _ _ _ (by omega)))) ?_
     refine o2 ?_
     refine s_on rfl rfl rfl k_mv ?_
     refine s_on rfl rfl rfl k_fa ?_
     refine s_on rfl rfl rfl k_ld ?_
     refine s_on rfl rfl rfl k_len ?_
     refine s_on rfl rfl rfl (l_bin rfl rfl (b_lss (r := false) (decide_eq_false (by omega)))) ?_
     refine s_on rfl rfl rfl k_mv ?_
     refine s_off rfl rfl rfl ?_
     refine s_off rfl rfl rfl ?_
     refine s_off rfl rfl rfl ?_
     refine s_off rfl rfl rfl ?_
     refine s_off rfl rfl rfl ?_
     refine s_off rfl rfl rfl ?_
     refine s_off rfl rfl rfl ?_
     refine s_off rfl rfl rfl ?_
     refine s_off rfl rfl rfl ?_
     refine s_on rfl rfl rfl k_pk ?_
     refine s_op k_pk ?_
     refine s_nil (by kernel_rfl) ?_
     refine n_wp ?_
     refine w_F rfl ?_ (by first | rfl | exact Bool.and_false _ | simp)
     refine w_skip (n_blo (n_wp (g_reg hP hn ?_)))
     refine o3 ?_
     refine s_nil trivial ?_
     exact n_round (0 + 40 - (k + 1)) (by omega) ⟨k + 1, by omega, rfl, rfl, rfl⟩ (wk hE [0, 1, 2, 3, 4, 5, 6, 7, 8, 9])
   · obtain rfl : k = 0 + 40 := by omega
     refine w_exit (x_thn (x_thn (x_eq (n_blo (n_wp (g_reg hP hn ?_))))))
     refine o3 ?_
     refine s_nil trivial ?_
     exact n_round 0 (by omega) (.inr (.inr (.inr (.inr (⟨rfl, rfl, rfl⟩))))) (wk hE [0, 1, 2, 3, 4, 5, 6, 7, 8])
 · refine w_seq (qz hP hn ?_)
   refine o4 ?_
   refine o3 ?_
   refine s_nil trivial (n_wp ?_)
   refine w_F rfl ?_ 
   refine w_exit (x_thn (x_thn (x_eq (n_wp (qz hP hn ?_)))))
   refine s_op k_as ?_
   refine s_nil trivial (n_wp (w_ret ?_))
   exact d_ret hP hn hE [0, 1, 2, 3, 4, 5, 6, 7, 8] (by first | exact r_tmp Tryz.results78 | exact r_tmpa Tryz.results78)

theorem fill_AACB (X0 : List Int) (hX0 : X0.length ≤ 100000) (X1 : List Int) (hX1 : X1.length ≤ 100000) (X3 : List Int) (hX3 : X3.length ≤ 100000) : Con Tryz.prog 48 [.s (.ptr 0 0 0)] [BKb 4 (.gro 4 3 4), IB (X0.length + 1) (X0 ++ [77]), IB (X1.length + 1) (X1 ++ [77]), IB X3.length X3, RB (R3 (.slice 1 0 0 X0.length (X0.length + 1)) .nils 1 (R3 (.slice 2 0 0 X1.length (X1.length + 1)) .nils 2 (R3 .nils .nils 3 (R3 (.slice 3 0 0 X3.length X3.length) .nils 4 []))))] (.tup []) [BKb 4 (.gro 4 3 4), IB (X0.length + 1) (List.replicate X0.length 1 ++ [77]), IB (X1.length + 1) (List.replicate X1.length 2 ++ [77]), IB X3.length (List.replicate X3.length 4), RB (R3 (.slice 1 0 0 X0.length (X0.length + 1)) .nils 1 (R3 (.slice 2 0 0 X1.length (X1.length + 1)) .nils 2 (R3 .nils .nils 3 (R3 (.slice 3 0 0 X3.length X3.length) .nils 4 []))))] := by
 refine con_in 35 Tryz.func48 rfl rfl (m := 5) rfl ?_
 intro E hP hn hE
 refine qz hP hn ?_
 refine s_op k_as ?_
 refine s_nil trivial (n_wp (w_block ?_))
 refine c_loop (fun m_ T H => (m_ = 4 ∧ T = [(0, .s (.ptr 0 0 0)), (2, .s (.int .i64 ((0 : Nat) : Int)))] ∧ H = [BKb 4 (.gro 4 3 4), IB (X0.length + 1) (X0 ++ [77]), IB (X1.length + 1) (X1 ++ [77]), IB X3.length X3, RB (R3 (.slice 1 0 0 X0.length (X0.length + 1)) .nils 1 (R3 (.slice 2 0 0 X1.length (X1.length + 1)) .nils 2 (R3 .nils .nils 3 (R3 (.slice 3 0 0 X3.length X3.length) .nils 4 []))))]) ∨ (m_ = 3 ∧ T = [(0, .s (.ptr 0 0 0)), (2, .s (.int .i64 ((1 : Nat) : Int)))] ∧ H = [BKb 4 (.gro 4 3 4), IB (X0.length + 1) (List.replicate X0.length 1 ++ [77]), IB (X1.length + 1) (X1 ++ [77]), IB X3.length X3, RB (R3 (.slice 1 0 0 X0.length (X0.length + 1)) .nils 1 (R3 (.slice 2 0 0 X1.length (X1.length + 1)) .nils 2 (R3 .nils .nils 3 (R3 (.slice 3 0 0 X3.length X3.length) .nils 4 []))))]) ∨ (m_ = 2 ∧ T = [(0, .s (.ptr 0 0 0)), (2, .s (.int .i64 ((2 : Nat) : Int)))] ∧ H = [BKb 4 (.gro 4 3 4), IB (X0.length + 1) (List.replicate X0.length 1 ++ [77]), IB (X1.length + 1) (List.replicate X1.length 2 ++ [77]), IB X3.length X3, RB (R3 (.slice 1 0 0 X0.length (X0.length + 1)) .nils 1 (R3 (.slice 2 0 0 X1.length (X1.length + 1)) .nils 2 (R3 .nils .nils 3 (R3 (.slice 3 0 0 X3.length X3.length) .nils 4 []))))]) ∨ (m_ = 1 ∧ T = [(0, .s (.ptr 0 0 0)), (2, .s (.int .i64 ((3 : Nat) : Int)))] ∧ H = [BKb 4 (.gro 4 3 4), IB (X0.length + 1) (List.replicate X0.length 1 ++ [77]), IB (X1.length + 1) (List.replicate X1.length 2 ++ [77]), IB X3.length X3, RB (R3 (.slice 1 0 0 X0.length (X0.length + 1)) .nils 1 (R3 (.slice 2 0 0 X1.length (X1.length + 1)) .nils 2 (R3 .nils .nils 3 (R3 (.slice 3 0 0 X3.length X3.length) .nils 4 []))))]) ∨ (m_ = 0 ∧ T = [(0, .s (.ptr 0 0 0)), (2, .s (.int .i64 ((4 : Nat) : Int)))] ∧ H = [BKb 4 (.gro 4 3 4), IB (X0.length + 1) (List.replicate X0.length 1 ++ [77]), IB (X1.length + 1) (List.replicate X1.length 2 ++ [77]), IB X3.length (List.replicate X3.length 4), RB (R3 (.slice 1 0 0 X0.length (X0.length + 1)) .nils 1 (R3 (.slice 2 0 0 X1.length (X1.length + 1)) .nils 2 (R3 .nils .nils 3 (R3 (.slice 3 0 0 X3.length X3.length) .nils 4 []))))])) (4) (.inl ⟨rfl, rfl, rfl⟩) (wk hE [0, 1, 2, 3, 4]) ?_
 rintro n_ T_ H_ (⟨rfl, rfl, rfl⟩ | ⟨rfl, rfl, rfl⟩ | ⟨rfl, rfl, rfl⟩ | ⟨rfl, rfl, rfl⟩ | ⟨rfl, rfl, rfl⟩)
 · refine w_seq (qz hP hn ?_)
   refine o4 ?_
   refine o3 ?_
   refine s_nil trivial (n_wp ?_)
   refine w_T rfl ?_ 
   refine w_skip (n_wp (w_seq (w_block (qz hP hn ?_))))
   refine o3 ?_
   refine o2 ?_
   refine s_op (k_ixG 0 0) ?_
   refine s_op (k_ld (h := by exact a_load_agg (sub := (R3 (.slice 1 0 0 X0.length (X0.length + 1)) .nils 1 [])) (r := (R3 (.slice 1 0 0 X0.length (X0.length + 1)) .nils 1 (R3 (.slice 2 0 0 X1.length (X1.length + 1)) .nils 2 (R3 .nils .nils 3 (R3 (.slice 3 0 0 X3.length X3.length) .nils 4 []))))) rfl rfl (by kernel_rfl) (by kernel_rfl))) ?_
   refine s_op k_al ?_
   refine s_st (k_st (h := by exact a_store_agg rfl rfl rfl (put_w (by kernel_rfl)) (by exact Nat.le_of_ble_eq_true rfl) (by kernel_rfl) (by repeat (first | exact hset_0 | apply hset_s)))) ?_
   refine qx hP hn ?_
   refine s_op k_as ?_
   refine s_nil trivial (n_wp (w_block ?_))
   refine c_loop (fun m_ T H => ∃ k, k ≤ X0.length ∧ m_ = X0.length - k ∧ T = [(0, .s (.ptr 0 0 0)), (2, .s (.int .i64 ((0 : Nat) : Int))), (3, .s (.ptr 5 0 0)), (4, .s (.int .i64 ((k : Nat) : Int)))] ∧ H = [BKb 4 (.gro 4 3 4), IB (X0.length + 1) (fillT (X0 ++ [77]) 1 k), IB (X1.length + 1) (X1 ++ [77]), IB X3.length X3, RB (R3 (.slice 1 0 0 X0.length (X0.length + 1)) .nils 1 (R3 (.slice 2 0 0 X1.length (X1.length + 1)) .nils 2 (R3 .nils .nils 3 (R3 (.slice 3 0 0 X3.length X3.length) .nils 4 [])))), RB (R3 (.slice 1 0 0 X0.length (X0.length + 1)) .nils 1 [])]) (X0.length) ⟨0, by omega, rfl, rfl, rfl⟩ (wk hE [0, 1, 2, 3, 4, 5]) ?_
   rintro n_ T_ H_ ⟨k, hk, rfl, rfl, rfl⟩
   have hfl := fillT_len (X0 ++ [77]) 1 k
   have hal : (X0 ++ [77]).length = X0.length + 1 := by simp
   refine w_seq (qz hP hn ?_)
   refine o3 ?_
   refine o2 ?_
   refine s_nil trivial (n_wp ?_)
   refine w_if rfl (fun h_t25 => ?_) (fun h_t25 => ?_)
   · refine w_skip (n_wp (w_seq (w_block ?_)))
     refine g_any hP hn ?_
     refine o3 ?_
     refine o2 ?_
     refine s_op (k_call [] (con := mark_c 1 (by decide))) ?_
     refine s_op k_ix ?_
     refine s_st k_st ?_
     refine s_nil (by kernel_rfl) ?_
     refine n_blo (n_wp (g_reg hP hn ?_))
     refine o3 ?_
     refine s_nil trivial ?_
     exact n_round (X0.length - (k + 1)) (by omega) ⟨k + 1, by omega, rfl, rfl, rfl⟩ (wk hE [0, 1, 2, 3, 4, 5])
   · obtain rfl : k = X0.length := by omega
     rw [fillT_a]
     refine w_exit (x_thn (x_thn (x_eq (n_blo (n_wp (g_reg hP hn ?_))))))
     refine o3 ?_
     refine s_nil trivial ?_
     exact n_round 3 (by omega) (.inr (.inl ⟨rfl, rfl, rfl⟩)) (wk hE [0, 1, 2, 3, 4])
 · refine w_seq (qz hP hn ?_)
   refine o4 ?_
   refine o3 ?_
   refine s_nil trivial (n_wp ?_)
   refine w_T rfl ?_ 
   refine w_skip (n_wp (w_seq (w_block (qz hP hn ?_))))
   refine o3 ?_
   refine o2 ?_
   refine s_op (k_ixG 3 1) ?_
   refine s_op (k_ld (h := by exact a_load_agg (sub := (R3 (.slice 2 0 0 X1.length (X1.length + 1)) .nils 2 [])) (r := (R3 (.slice 2 0 0 X1.length (X1.length + 1)) .nils 2 (R3 .nils .nils 3 (R3 (.slice 3 0 0 X3.length X3.length) .nils 4 [])))) rfl rfl (by kernel_rfl) (by kernel_rfl))) ?_
   refine s_op k_al ?_
   refine s_st (k_st (h := by exact a_store_agg rfl rfl rfl (put_w (by kernel_rfl)) (by exact Nat.le_of_ble_eq_true rfl) (by kernel_rfl) (by repeat (first | exact hset_0 | apply hset_s)))) ?_
   refine qx hP hn ?_
   refine s_op k_as ?_
   refine s_nil trivial (n_wp (w_block ?_))
   refine c_loop (fun m_ T H => ∃ k, k ≤ X1.length ∧ m_ = X1.length - k ∧ T = [(0, .s (.ptr 0 0 0)), (2, .s (.int .i64 ((1 : Nat) : Int))), (3, .s (.ptr 5 0 0)), (4, .s (.int .i64 ((k : Nat) : Int)))] ∧ H = [BKb 4 (.gro 4 3 4), IB (X0.length + 1) (List.replicate X0.length 1 ++ [77]), IB (X1.length + 1) (fillT (X1 ++ [77]) 2 k), IB X3.length X3, RB (R3 (.slice 1 0 0 X0.length (X0.length + 1)) .nils 1 (R3 (.slice 2 0 0 X1.length (X1.length + 1)) .nils 2 (R3 .nils .nils 3 (R3 (.slice 3 0 0 X3.length X3.length) .nils 4 [])))), RB (R3 (.slice 2 0 0 X1.length (X1.length + 1)) .nils 2 [])]) (X1.length) ⟨0, by omega, rfl, rfl, rfl⟩ (wk hE [0, 1, 2, 3, 4, 5]) ?_
   rintro n_ T_ H_ ⟨k, hk, rfl, rfl, rfl⟩
   have hfl := fillT_len (X1 ++ [77]) 2 k
   have hal : (X1 ++ [77]).length = X1.length + 1 := by simp
   refine w_seq (qz hP hn ?_)
   refine o3 ?_
   refine o2 ?_
   refine s_nil trivial (n_wp ?_)
   refine w_if rfl (fun h_t25 => ?_) (fun h_t25 => ?_)
   · refine w_skip (n_wp (w_seq (w_block ?_)))
     refine g_any hP hn ?_
     refine o3 ?_
     refine o2 ?_
     refine s_op (k_call [] (con := mark_c 2 (by decide))) ?_
     refine s_op k_ix ?_
     refine s_st k_st ?_
     refine s_nil (by kernel_rfl) ?_
     refine n_blo (n_wp (g_reg hP hn ?_))
     refine o3 ?_
     refine s_nil trivial ?_
     exact n_round (X1.length - (k + 1)) (by omega) ⟨k + 1, by omega, rfl, rfl, rfl⟩ (wk hE [0, 1, 2, 3, 4, 5])
   · obtain rfl : k = X1.length := by omega
     rw [fillT_a]
     refine w_exit (x_thn (x_thn (x_eq (n_blo (n_wp (g_reg hP hn ?_))))))
     refine o3 ?_
     refine s_nil trivial ?_
     exact n_round 2 (by omega) (.inr (.inr (.inl ⟨rfl, rfl, rfl⟩))) (wk hE [0, 1, 2, 3, 4])
 · refine w_seq (qz hP hn ?_)
   refine o4 ?_
   refine o3 ?_
   refine s_nil trivial (n_wp ?_)
   refine w_T rfl ?_ 
   refine w_skip (n_wp (w_seq (w_block (qz hP hn ?_))))
   refine o3 ?_
   refine o2 ?_
   refine s_op (k_ixG 6 2) ?_
   refine s_op (k_ld (h := by exact a_load_agg (sub := (R3 .nils .nils 3 [])) (r := (R3 .nils .nils 3 (R3 (.slice 3 0 0 X3.length X3.length) .nils 4 []))) rfl rfl (by kernel_rfl) (by kernel_rfl))) ?_
   refine s_op k_al ?_
   refine s_st (k_st (h := by exact a_store_agg rfl rfl rfl (put_w (by kernel_rfl)) (by exact Nat.le_of_ble_eq_true rfl) (by kernel_rfl) (by repeat (first | exact hset_0 | apply hset_s)))) ?_
   refine qx hP hn ?_
   refine s_op k_as ?_
   refine s_nil trivial (n_wp (w_block ?_))
   refine c_loop (fun m_ T H => m_ = 0 ∧ T = [(0, .s (.ptr 0 0 0)), (2, .s (.int .i64 ((2 : Nat) : Int))), (3, .s (.ptr 5 0 0)), (4, .s (.int .i64 ((0 : Nat) : Int)))] ∧ H = [BKb 4 (.gro 4 3 4), IB (X0.length + 1) (List.replicate X0.length 1 ++ [77]), IB (X1.length + 1) (List.replicate X1.length 2 ++ [77]), IB X3.length X3, RB (R3 (.slice 1 0 0 X0.length (X0.length + 1)) .nils 1 (R3 (.slice 2 0 0 X1.length (X1.length + 1)) .nils 2 (R3 .nils .nils 3 (R3 (.slice 3 0 0 X3.length X3.length) .nils 4 [])))), RB (R3 .nils .nils 3 [])]) (0) ⟨rfl, rfl, rfl⟩ (wk hE [0, 1, 2, 3, 4, 5]) ?_
   rintro n_ T_ H_ ⟨rfl, rfl, rfl⟩
   refine w_seq (qz hP hn ?_)
   refine o3 ?_
   refine o2 ?_
   refine s_nil trivial (n_wp ?_)
   refine w_F rfl ?_ 
   refine w_exit (x_thn (x_thn (x_eq (n_blo (n_wp (g_reg hP hn ?_))))))
   refine o3 ?_
   refine s_nil trivial ?_
   exact n_round 1 (by omega) (.inr (.inr (.inr (.inl ⟨rfl, rfl, rfl⟩)))) (wk hE [0, 1, 2, 3, 4])
 · refine w_seq (qz hP hn ?_)
   refine o4 ?_
   refine o3 ?_
   refine s_nil trivial (n_wp ?_)
   refine w_T rfl ?_ 
   refine w_skip (n_wp (w_seq (w_block (qz hP hn ?_))))
   refine o3 ?_
   refine o2 ?_
   refine s_op (k_ixG 9 3) ?_
   refine s_op (k_ld (h := by exact a_load_agg (sub := (R3 (.slice 3 0 0 X3.length X3.length) .nils 4 [])) (r := (R3 (.slice 3 0 0 X3.length X3.length) .nils 4 [])) rfl rfl (by kernel_rfl) (by kernel_rfl))) ?_
   refine s_op k_al ?_
   refine s_st (k_st (h := by exact a_store_agg rfl rfl rfl (put_w (by kernel_rfl)) (by exact Nat.le_of_ble_eq_true rfl) (by kernel_rfl) (by repeat (first | exact hset_0 | apply hset_s)))) ?_
   refine qx hP hn ?_
   refine s_op k_as ?_
   refine s_nil trivial (n_wp (w_block ?_))
   refine c_loop (fun m_ T H => ∃ k, k ≤ X3.length ∧ m_ = X3.length - k ∧ T = [(0, .s (.ptr 0 0 0)), (2, .s (.int .i64 ((3 : Nat) : Int))), (3, .s (.ptr 5 0 0)), (4, .s (.int .i64 ((k : Nat) : Int)))] ∧ H = [BKb 4 (.gro 4 3 4), IB (X0.length + 1) (List.replicate X0.length 1 ++ [77]), IB (X1.length + 1) (List.replicate X1.length 2 ++ [77]), IB X3.length (fillT X3 4 k), RB (R3 (.slice 1 0 0 X0.length (X0.length + 1)) .nils 1 (R3 (.slice 2 0 0 X1.length (X1.length + 1)) .nils 2 (R3 .nils .nils 3 (R3 (.slice 3 0 0 X3.length X3.length) .nils 4 [])))), RB (R3 (.slice 3 0 0 X3.length X3.length) .nils 4 [])]) (X3.length) ⟨0, by omega, rfl, rfl, rfl⟩ (wk hE [0, 1, 2, 3, 4, 5]) ?_
   rintro n_ T_ H_ ⟨k, hk, rfl, rfl, rfl⟩
   have hfl := fillT_len X3 4 k
   refine w_seq (qz hP hn ?_)
   refine o3 ?_
   refine o2 ?_
   refine s_nil trivial (n_wp ?_)
   refine w_if rfl (fun h_t25 => ?_) (fun h_t25 => ?_)
   · refine w_skip (n_wp (w_seq (w_block ?_)))
     refine g_any hP hn ?_
     refine o3 ?_
     refine o2 ?_
     refine s_op (k_call [] (con := mark_c 4 (by decide))) ?_
     refine s_op k_ix ?_
     refine s_st k_st ?_
     refine s_nil (by kernel_rfl) ?_
     refine n_blo (n_wp (g_reg hP hn ?_))
     refine o3 ?_
     refine s_nil trivial ?_
     exact n_round (X3.length - (k + 1)) (by omega) ⟨k + 1, by omega, rfl, rfl, rfl⟩ (wk hE [0, 1, 2, 3, 4, 5])
   · obtain rfl : k = X3.length := by omega
     rw [fillT_all]
     refine w_exit (x_thn (x_thn (x_eq (n_blo (n_wp (g_reg hP hn ?_))))))
     refine o3 ?_
     refine s_nil trivial ?_
     exact n_round 0 (by omega) (.inr (.inr (.inr (.inr (⟨rfl, rfl, rfl⟩))))) (wk hE [0, 1, 2, 3, 4])
 · refine w_seq (qz hP hn ?_)
   refine o4 ?_
   refine o3 ?_
   refine s_nil trivial (n_wp ?_)
   refine w_F rfl ?_ 
   refine w_exit (x_thn (x_thn (x_eq ?_)))
   exact d_ret hP hn hE [0, 1, 2, 3, 4] (ret_none Tryz.results48)

theorem grow_AACB (X0 : List Int) (hX0 : X0.length ≤ 100000) (X1 : List Int) (hX1 : X1.length ≤ 100000) (X3 : List Int) (hX3 : X3.length ≤ 100000) : Con Tryz.prog 63 [.s (.ptr 0 0 0)] [BKb 4 (.gro 4 3 4), IB (X0.length + 1) (List.replicate X0.length 1 ++ [77]), IB (X1.length + 1) (List.replicate X1.length 2 ++ [77]), IB X3.length (List.replicate X3.length 4), RB (R3 (.slice 1 0 0 X0.length (X0.length + 1)) .nils 1 (R3 (.slice 2 0 0 X1.length (X1.length + 1)) .nils 2 (R3 .nils .nils 3 (R3 (.slice 3 0 0 X3.length X3.length) .nils 4 []))))] (.tup []) [BKb 4 (.gro 4 3 4), IB (X0.length + 1) (List.replicate (X0.length + 1) 1), IB (X1.length + 1) (List.replicate (X1.length + 1) 2), IB X3.length (List.replicate X3.length 4), RB (R3 (.slice 1 0 0 X0.length (X0.length + 1)) (.gro 5 1 (X0.length + 40)) 1 (R3 (.slice 2 0 0 X1.length (X1.length + 1)) (.gro 6 1 (X1.length + 40)) 2 (R3 .nils (.gro 7 1 (0 + 40)) 3 (R3 (.slice 3 0 0 X3.length X3.length) (.gro 8 1 (X3.length + 40)) 4 [])))), IB (X0.length + 40) (List.replicate (X0.length + 40) 1), IB (X1.length + 40) (List.replicate (X1.length + 40) 2), IB (0 + 40) (List.replicate (0 + 40) 3), IB (X3.length + 40) (List.replicate (X3.length + 40) 4)] := by
 refine con_in 42 Tryz.func63 rfl rfl (m := 5) rfl ?_
 intro E hP hn hE
 refine qz hP hn ?_
 refine s_op k_as ?_
 refine s_nil trivial (n_wp (w_block ?_))
 refine c_loop (fun m_ T H => (m_ = 4 ∧ T = [(0, .s (.ptr 0 0 0)), (2, .s (.int .i64 ((0 : Nat) : Int)))] ∧ H = [BKb 4 (.gro 4 3 4), IB (X0.length + 1) (List.replicate X0.length 1 ++ [77]), IB (X1.length + 1) (List.replicate X1.length 2 ++ [77]), IB X3.length (List.replicate X3.length 4), RB (R3 (.slice 1 0 0 X0.length (X0.length + 1)) .nils 1 (R3 (.slice 2 0 0 X1.length (X1.length + 1)) .nils 2 (R3 .nils .nils 3 (R3 (.slice 3 0 0 X3.length X3.length) .nils 4 []))))]) ∨ (m_ = 3 ∧ T = [(0, .s (.ptr 0 0 0)), (2, .s (.int .i64 ((1 : Nat) : Int)))] ∧ H = [BKb 4 (.gro 4 3 4), IB (X0.length + 1) (List.replicate (X0.length + 1) 1), IB (X1.length + 1) (List.replicate X1.length 2 ++ [77]), IB X3.length (List.replicate X3.length 4), RB (R3 (.slice 1 0 0 X0.length (X0.length + 1)) (.gro 5 1 (X0.length + 40)) 1 (R3 (.slice 2 0 0 X1.length (X1.length + 1)) .nils 2 (R3 .nils .nils 3 (R3 (.slice 3 0 0 X3.length X3.length) .nils 4 [])))), IB (X0.length + 40) (List.replicate (X0.length + 40) 1)]) ∨ (m_ = 2 ∧ T = [(0, .s (.ptr 0 0 0)), (2, .s (.int .i64 ((2 : Nat) : Int)))] ∧ H = [BKb 4 (.gro 4 3 4), IB (X0.length + 1) (List.replicate (X0.length + 1) 1), IB (X1.length + 1) (List.replicate (X1.length + 1) 2), IB X3.length (List.replicate X3.length 4), RB (R3 (.slice 1 0 0 X0.length (X0.length + 1)) (.gro 5 1 (X0.length + 40)) 1 (R3 (.slice 2 0 0 X1.length (X1.length + 1)) (.gro 6 1 (X1.length + 40)) 2 (R3 .nils .nils 3 (R3 (.slice 3 0 0 X3.length X3.length) .nils 4 [])))), IB (X0.length + 40) (List.replicate (X0.length + 40) 1), IB (X1.length + 40) (List.replicate (X1.length + 40) 2)]) ∨ (m_ = 1 ∧ T = [(0, .s (.ptr 0 0 0)), (2, .s (.int .i64 ((3 : Nat) : Int)))] ∧ H = [BKb 4 (.gro 4 3 4), IB (X0.length + 1) (List.replicate (X0.length + 1) 1), IB (X1.length + 1) (List.replicate (X1.length + 1) 2), IB X3.length (List.replicate X3.length 4), RB (R3 (.slice 1 0 0 X0.length (X0.length + 1)) (.gro 5 1 (X0.length + 40)) 1 (R3 (.slice 2 0 0 X1.length (X1.length + 1)) (.gro 6 1 (X1.length + 40)) 2 (R3 .nils (.gro 7 1 (0 + 40)) 3 (R3 (.slice 3 0 0 X3.length X3.length) .nils 4 [])))), IB (X0.length + 40) (List.replicate (X0.length + 40) 1), IB (X1.length + 40) (List.replicate (X1.length + 40) 2), IB (0 + 40) (List.replicate (0 + 40) 3)]) ∨ (m_ = 0 ∧ T = [(0, .s (.ptr 0 0 0)), (2, .s (.int .i64 ((4 : Nat) : Int)))] ∧ H = [BKb 4 (.gro 4 3 4), IB (X0.length + 1) (List.replicate (X0.length + 1) 1), IB (X1.length + 1) (List.replicate (X1.length + 1) 2), IB X3.length (List.replicate X3.length 4), RB (R3 (.slice 1 0 0 X0.length (X0.length + 1)) (.gro 5 1 (X0.length + 40)) 1 (R3 (.slice 2 0 0 X1.length (X1.length + 1)) (.gro 6 1 (X1.length + 40)) 2 (R3 .nils (.gro 7 1 (0 + 40)) 3 (R3 (.slice 3 0 0 X3.length X3.length) (.gro 8 1 (X3.length + 40)) 4 [])))), IB (X0.length + 40) (List.replicate (X0.length + 40) 1), IB (X1.length + 40) (List.replicate (X1.length + 40) 2), IB (0 + 40) (List.replicate (0 + 40) 3), IB (X3.length + 40) (List.replicate (X3.length + 40) 4)])) (4) (.inl ⟨rfl, rfl, rfl⟩) (wk hE [0, 1, 2, 3, 4]) ?_
 rintro n_ T_ H_ (⟨rfl, rfl, rfl⟩ | ⟨rfl, rfl, rfl⟩ | ⟨rfl, rfl, rfl⟩ | ⟨rfl, rfl, rfl⟩ | ⟨rfl, rfl, rfl⟩)
 · refine w_seq (qz hP hn ?_)
   refine o4 ?_
   refine o3 ?_
   refine s_nil trivial (n_wp ?_)
   refine w_T rfl ?_ 
   refine w_skip (n_wp (w_seq (w_block (qz hP hn ?_))))
   refine o3 ?_
   refine o2 ?_
   refine s_op (k_ixG 0 0) ?_
   refine s_op (k_ld (h := by exact a_load_agg (sub := (R3 (.slice 1 0 0 X0.length (X0.length + 1)) .nils 1 [])) (r := (R3 (.slice 1 0 0 X0.length (X0.length + 1)) .nils 1 (R3 (.slice 2 0 0 X1.length (X1.length + 1)) .nils 2 (R3 .nils .nils 3 (R3 (.slice 3 0 0 X3.length X3.length) .nils 4 []))))) rfl rfl (by kernel_rfl) (by kernel_rfl))) ?_
   refine s_op k_al ?_
   refine s_st (k_st (h := by exact a_store_agg rfl rfl rfl (put_w (by kernel_rfl)) (by exact Nat.le_of_ble_eq_true rfl) (by kernel_rfl) (by repeat (first | exact hset_0 | apply hset_s)))) ?_
   refine qx hP hn ?_
   refine o3 ?_
   refine s_nil trivial (n_wp (w_seq (qz hP hn ?_)))
   refine s_op k_as ?_
   refine s_nil trivial (n_wp (w_block ?_))
   refine c_loop (fun m_ T H => (m_ = 40 ∧ T = [(0, .s (.ptr 0 0 0)), (2, .s (.int .i64 ((0 : Nat) : Int))), (3, .s (.ptr 5 0 0)), (4, .s (.slice 1 0 0 X0.length (X0.length + 1))), (5, .s (.int .i64 ((0 : Nat) : Int)))] ∧ H = [BKb 4 (.gro 4 3 4), IB (X0.length + 1) (List.replicate X0.length 1 ++ [77]), IB (X1.length + 1) (List.replicate X1.length 2 ++ [77]), IB X3.length (List.replicate X3.length 4), RB (R3 (.slice 1 0 0 X0.length (X0.length + 1)) .nils 1 (R3 (.slice 2 0 0 X1.length (X1.length + 1)) .nils 2 (R3 .nils .nils 3 (R3 (.slice 3 0 0 X3.length X3.length) .nils 4 [])))), RB (R3 (.slice 1 0 0 X0.length (X0.length + 1)) .nils 1 [])]) ∨ (m_ = 39 ∧ T = [(0, .s (.ptr 0 0 0)), (2, .s (.int .i64 ((0 : Nat) : Int))), (3, .s (.ptr 5 0 0)), (4, .s (.slice 1 0 0 (X0.length + 1) (X0.length + 1))), (5, .s (.int .i64 ((1 : Nat) : Int)))] ∧ H = [BKb 4 (.gro 4 3 4), IB (X0.length + 1) (List.replicate (X0.length + 1) 1), IB (X1.length + 1) (List.replicate X1.length 2 ++ [77]), IB X3.length (List.replicate X3.length 4), RB (R3 (.slice 1 0 0 X0.length (X0.length + 1)) .nils 1 (R3 (.slice 2 0 0 X1.length (X1.length + 1)) .nils 2 (R3 .nils .nils 3 (R3 (.slice 3 0 0 X3.length X3.length) .nils 4 [])))), RB (R3 (.slice 1 0 0 X0.length (X0.length + 1)) .nils 1 [])]) ∨ (∃ k, 2 ≤ k ∧ k ≤ 40 ∧ m_ = 40 - k ∧ T = [(0, .s (.ptr 0 0 0)), (2, .s (.int .i64 ((0 : Nat) : Int))), (3, .s (.ptr 5 0 0)), (4, .s (.gro 6 1 (X0.length + k))), (5, .s (.int .i64 ((k : Nat) : Int)))] ∧ H = [BKb 4 (.gro 4 3 4), IB (X0.length + 1) (List.replicate (X0.length + 1) 1), IB (X1.length + 1) (List.replicate X1.length 2 ++ [77]), IB X3.length (List.replicate X3.length 4), RB (R3 (.slice 1 0 0 X0.length (X0.length + 1)) .nils 1 (R3 (.slice 2 0 0 X1.length (X1.length + 1)) .nils 2 (R3 .nils .nils 3 (R3 (.slice 3 0 0 X3.length X3.length) .nils 4 [])))), RB (R3 (.slice 1 0 0 X0.length (X0.length + 1)) .nils 1 []), IB (X0.length + k) (List.replicate (X0.length + k) 1)])) (40) (.inl ⟨rfl, rfl, rfl⟩) (wk hE [0, 1, 2, 3, 4, 5]) ?_
   rintro n_ T_ H_ (⟨rfl, rfl, rfl⟩ | ⟨rfl, rfl, rfl⟩ | ⟨k, hk1, hk2, rfl, rfl, rfl⟩)
   · refine w_seq (qz hP hn ?_)
     refine o2 ?_
     refine s_nil trivial (n_wp ?_)
     refine w_T rfl ?_ 
     refine w_skip (n_wp (w_seq (w_block (g_reg hP hn ?_))))
     refine o3 ?_
     refine s_op (k_call [] (con := mark_c 1 (by decide))) ?_
     refine s_op k_bsf ?_
     refine s_op (k_apj (List.replicate (X0.length + 1) 1) (hl' := rep_j _ _)) ?_
     refine s_op k_as ?_
     refine s_nil trivial (n_blo (n_wp (g_reg hP hn ?_)))
     refine o3 ?_
     refine s_nil trivial ?_
     exact n_round 39 (by omega) (.inr (.inl ⟨rfl, rfl, rfl⟩)) (wk hE [0, 1, 2, 3, 4, 5])
   · refine w_seq (qz hP hn ?_)
     refine o2 ?_
     refine s_nil trivial (n_wp ?_)
     refine w_T rfl ?_ 
     refine w_skip (n_wp (w_seq (w_block (g_reg hP hn ?_))))
     refine o3 ?_
     refine s_op (k_call [] (con := mark_c 1 (by decide))) ?_
     refine s_op k_bsf ?_
     refine s_op (k_apf (c := X0.length + 2) (l' := List.replicate (X0.length + 2) 1) (hl' := rep_s _ _) (h0 := by exact Nat.zero_lt_one) (hbig := by show X0.length + 1 + 1 ≤ 1000000; omega)) ?_
     refine s_op k_as ?_
     refine s_nil trivial (n_blo (n_wp (g_reg hP hn ?_)))
     refine o3 ?_
     refine s_nil trivial ?_
     exact n_round 38 (by omega) (.inr (.inr ⟨2, by omega, by omega, rfl, rfl, rfl⟩)) (wk hE [0, 1, 2, 3, 4, 5, 7])
   · refine w_seq (qz hP hn ?_)
     refine o2 ?_
     refine s_nil trivial (n_wp ?_)
     refine w_if rfl (fun h_t25 => ?_) (fun h_t25 => ?_)
     · refine w_skip (n_wp (w_seq (w_block (g_reg hP hn ?_))))
       refine o3 ?_
       refine s_op (k_call [] (con := mark_c 1 (by decide))) ?_
       refine s_op k_bsf ?_
       refine s_op (k_apg (c := X0.length + (k + 1)) (l' := List.replicate (X0.length + (k + 1)) 1) (hl' := rep_t _ _) (hq := by exact Nat.le_refl _) (hbig := by show X0.length + k + 1 ≤ 1000000; omega)) ?_
       refine s_op k_as ?_
       refine s_nil trivial (n_blo (n_wp (g_reg hP hn ?_)))
       refine o3 ?_
       refine s_nil trivial ?_
       exact n_round (40 - (k + 1)) (by omega) (.inr (.inr ⟨k + 1, by omega, by omega, rfl, rfl, rfl⟩)) (wk hE [0, 1, 2, 3, 4, 5, 8])
     · obtain rfl : k = 40 := by omega
       refine w_exit (x_thn (x_thn (x_eq (n_wp (g_reg hP hn ?_)))))
       refine o4 ?_
       refine o2 ?_
       refine s_op (k_ixG 0 0) ?_
       refine s_op k_fa ?_
       refine s_st (k_st (h := by exact a_store_one rfl rfl SV.noConfusion rfl rfl (hset_seg (by repeat (first | apply sset_s _ rfl rfl | exact sset_0)) (by repeat (first | exact hset_0 | apply hset_s))))) ?_
       refine s_nil trivial (n_blo (n_wp (g_reg hP hn ?_)))
       refine o3 ?_
       refine s_nil trivial ?_
       exact n_round 3 (by omega) (.inr (.inl ⟨rfl, rfl, rfl⟩)) (wk hE [0, 1, 2, 3, 4, 6])
 · refine w_seq (qz hP hn ?_)
   refine o4 ?_
   refine o3 ?_
   refine s_nil trivial (n_wp ?_)
   refine w_T rfl ?_ 
   refine w_skip (n_wp (w_seq (w_block (qz hP hn ?_))))
   refine o3 ?_
   refine o2 ?_
   refine s_op (k_ixG 3 1) ?_
   refine s_op (k_ld (h := by exact a_load_agg (sub := (R3 (.slice 2 0 0 X1.length (X1.length + 1)) .nils 2 [])) (r := (R3 (.slice 2 0 0 X1.length (X1.length + 1)) .nils 2 (R3 .nils .nils 3 (R3 (.slice 3 0 0 X3.length X3.length) .nils 4 [])))) rfl rfl (by kernel_rfl) (by kernel_rfl))) ?_
   refine s_op k_al ?_
   refine s_st (k_st (h := by exact a_store_agg rfl rfl rfl (put_w (by kernel_rfl)) (by exact Nat.le_of_ble_eq_true rfl) (by kernel_rfl) (by repeat (first | exact hset_0 | apply hset_s)))) ?_
   refine qx hP hn ?_
   refine o3 ?_
   refine s_nil trivial (n_wp (w_seq (qz hP hn ?_)))
   refine s_op k_as ?_
   refine s_nil trivial (n_wp (w_block ?_))
   refine c_loop (fun m_ T H => (m_ = 40 ∧ T = [(0, .s (.ptr 0 0 0)), (2, .s (.int .i64 ((1 : Nat) : Int))), (3, .s (.ptr 6 0 0)), (4, .s (.slice 2 0 0 X1.length (X1.length + 1))), (5, .s (.int .i64 ((0 : Nat) : Int)))] ∧ H = [BKb 4 (.gro 4 3 4), IB (X0.length + 1) (List.replicate (X0.length + 1) 1), IB (X1.length + 1) (List.replicate X1.length 2 ++ [77]), IB X3.length (List.replicate X3.length 4), RB (R3 (.slice 1 0 0 X0.length (X0.length + 1)) (.gro 5 1 (X0.length + 40)) 1 (R3 (.slice 2 0 0 X1.length (X1.length + 1)) .nils 2 (R3 .nils .nils 3 (R3 (.slice 3 0 0 X3.length X3.length) .nils 4 [])))), IB (X0.length + 40) (List.replicate (X0.length + 40) 1), RB (R3 (.slice 2 0 0 X1.length (X1.length + 1)) .nils 2 [])]) ∨ (m_ = 39 ∧ T = [(0, .s (.ptr 0 0 0)), (2, .s (.int .i64 ((1 : Nat) : Int))), (3, .s (.ptr 6 0 0)), (4, .s (.slice 2 0 0 (X1.length + 1) (X1.length + 1))), (5, .s (.int .i64 ((1 : Nat) : Int)))] ∧ H = [BKb 4 (.gro 4 3 4), IB (X0.length + 1) (List.replicate (X0.length + 1) 1), IB (X1.length + 1) (List.replicate (X1.length + 1) 2), IB X3.length (List.replicate X3.length 4), RB (R3 (.slice 1 0 0 X0.length (X0.length + 1)) (.gro 5 1 (X0.length + 40)) 1 (R3 (.slice 2 0 0 X1.length (X1.length + 1)) .nils 2 (R3 .nils .nils 3 (R3 (.slice 3 0 0 X3.length X3.length) .nils 4 [])))), IB (X0.length + 40) (List.replicate (X0.length + 40) 1), RB (R3 (.slice 2 0 0 X1.length (X1.length + 1)) .nils 2 [])]) ∨ (∃ k, 2 ≤ k ∧ k ≤ 40 ∧ m_ = 40 - k ∧ T = [(0, .s (.ptr 0 0 0)), (2, .s (.int .i64 ((1 : Nat) : Int))), (3, .s (.ptr 6 0 0)), (4, .s (.gro 7 1 (X1.length + k))), (5, .s (.int .i64 ((k : Nat) : Int)))] ∧ H = [BKb 4 (.gro 4 3 4), IB (X0.length + 1) (List.replicate (X0.length + 1) 1), IB (X1.length + 1) (List.replicate (X1.length + 1) 2), IB X3.length (List.replicate X3.length 4), RB (R3 (.slice 1 0 0 X0.length (X0.length + 1)) (.gro 5 1 (X0.length + 40)) 1 (R3 (.slice 2 0 0 X1.length (X1.length + 1)) .nils 2 (R3 .nils .nils 3 (R3 (.slice 3 0 0 X3.length X3.length) .nils 4 [])))), IB (X0.length + 40) (List.replicate (X0.length + 40) 1), RB (R3 (.slice 2 0 0 X1.length (X1.length + 1)) .nils 2 []), IB (X1.length + k) (List.replicate (X1.length + k) 2)])) (40) (.inl ⟨rfl, rfl, rfl⟩) (wk hE [0, 1, 2, 3, 4, 5, 6]) ?_
   rintro n_ T_ H_ (⟨rfl, rfl, rfl⟩ | ⟨rfl, rfl, rfl⟩ | ⟨k, hk1, hk2, rfl, rfl, rfl⟩)
   · refine w_seq (qz hP hn ?_)
     refine o2 ?_
     refine s_nil trivial (n_wp ?_)
     refine w_T rfl ?_ 
     refine w_skip (n_wp (w_seq (w_block (g_reg hP hn ?_))))
     refine o3 ?_
     refine s_op (k_call [] (con := mark_c 2 (by decide))) ?_
     refine s_op k_bsf ?_
     refine s_op (k_apj (List.replicate (X1.length + 1) 2) (hl' := rep_j _ _)) ?_
     refine s_op k_as ?_
     refine s_nil trivial (n_blo (n_wp (g_reg hP hn ?_)))
     refine o3 ?_
     refine s_nil trivial ?_
     exact n_round 39 (by omega) (.inr (.inl ⟨rfl, rfl, rfl⟩)) (wk hE [0, 1, 2, 3, 4, 5, 6])
   · refine w_seq (qz hP hn ?_)
     refine o2 ?_
     refine s_nil trivial (n_wp ?_)
     refine w_T rfl ?_ 
     refine w_skip (n_wp (w_seq (w_block (g_reg hP hn ?_))))
     refine o3 ?_
     refine s_op (k_call [] (con := mark_c 2 (by decide))) ?_
     refine s_op k_bsf ?_
     refine s_op (k_apf (c := X1.length + 2) (l' := List.replicate (X1.length + 2) 2) (hl' := rep_s _ _) (h0 := by exact Nat.zero_lt_one) (hbig := by show X1.length + 1 + 1 ≤ 1000000; omega)) ?_
     refine s_op k_as ?_
     refine s_nil trivial (n_blo (n_wp (g_reg hP hn ?_)))
     refine o3 ?_
     refine s_nil trivial ?_
     exact n_round 38 (by omega) (.inr (.inr ⟨2, by omega, by omega, rfl, rfl, rfl⟩)) (wk hE [0, 1, 2, 3, 4, 5, 6, 8])
   · refine w_seq (qz hP hn ?_)
     refine o2 ?_
     refine s_nil trivial (n_wp ?_)
     refine w_if rfl (fun h_t25 => ?_) (fun h_t25 => ?_)
     · refine w_skip (n_wp (w_seq (w_block (g_reg hP hn ?_))))
       refine o3 ?_
       refine s_op (k_call [] (con := mark_c 2 (by decide))) ?_
       refine s_op k_bsf ?_
       refine s_op (k_apg (c := X1.length + (k + 1)) (l' := List.replicate (X1.length + (k + 1)) 2) (hl' := rep_t _ _) (hq := by exact Nat.le_refl _) (hbig := by show X1.length + k + 1 ≤ 1000000; omega)) ?_
       refine s_op k_as ?_
       refine s_nil trivial (n_blo (n_wp (g_reg hP hn ?_)))
       refine o3 ?_
       refine s_nil trivial ?_
       exact n_round (40 - (k + 1)) (by omega) (.inr (.inr ⟨k + 1, by omega, by omega, rfl, rfl, rfl⟩)) (wk hE [0, 1, 2, 3, 4, 5, 6, 9])
     · obtain rfl : k = 40 := by omega
       refine w_exit (x_thn (x_thn (x_eq (n_wp (g_reg hP hn ?_)))))
       refine o4 ?_
       refine o2 ?_
       refine s_op (k_ixG 3 1) ?_
       refine s_op k_fa ?_
       refine s_st (k_st (h := by exact a_store_one rfl rfl SV.noConfusion rfl rfl (hset_seg (by repeat (first | apply sset_s _ rfl rfl | exact sset_0)) (by repeat (first | exact hset_0 | apply hset_s))))) ?_
       refine s_nil trivial (n_blo (n_wp (g_reg hP hn ?_)))
       refine o3 ?_
       refine s_nil trivial ?_
       exact n_round 2 (by omega) (.inr (.inr (.inl ⟨rfl, rfl, rfl⟩))) (wk hE [0, 1, 2, 3, 4, 5, 7])
 · refine w_seq (qz hP hn ?_)
   refine o4 ?_
   refine o3 ?_
   refine s_nil trivial (n_wp ?_)
   refine w_T rfl ?_ 
   refine w_skip (n_wp (w_seq (w_block (qz hP hn ?_))))
   refine o3 ?_
   refine o2 ?_
   refine s_op (k_ixG 6 2) ?_
   refine s_op (k_ld (h := by exact a_load_agg (sub := (R3 .nils .nils 3 [])) (r := (R3 .nils .nils 3 (R3 (.slice 3 0 0 X3.length X3.length) .nils 4 []))) rfl rfl (by kernel_rfl) (by kernel_rfl))) ?_
   refine s_op k_al ?_
   refine s_st (k_st (h := by exact a_store_agg rfl rfl rfl (put_w (by kernel_rfl)) (by exact Nat.le_of_ble_eq_true rfl) (by kernel_rfl) (by repeat (first | exact hset_0 | apply hset_s)))) ?_
   refine qx hP hn ?_
   refine o3 ?_
   refine s_nil trivial (n_wp (w_seq (w_seq ?_)))
   refine w_weak (weak_gro 4 1 8 (segs := [.ints .u8 (0 + 0) (List.replicate (0 + 0) 3)]) rfl rfl rfl) ?_
   refine g_reg hP hn ?_
   refine s_op k_as ?_
   refine s_nil trivial (n_wp (w_block ?_))
   refine c_loop (fun m_ T H => ∃ k, 0 ≤ k ∧ k ≤ 40 ∧ m_ = 40 - k ∧ T = [(0, .s (.ptr 0 0 0)), (2, .s (.int .i64 ((2 : Nat) : Int))), (3, .s (.ptr 7 0 0)), (4, .s (.gro 8 1 (0 + k))), (5, .s (.int .i64 ((k : Nat) : Int)))] ∧ H = [BKb 4 (.gro 4 3 4), IB (X0.length + 1) (List.replicate (X0.length + 1) 1), IB (X1.length + 1) (List.replicate (X1.length + 1) 2), IB X3.length (List.replicate X3.length 4), RB (R3 (.slice 1 0 0 X0.length (X0.length + 1)) (.gro 5 1 (X0.length + 40)) 1 (R3 (.slice 2 0 0 X1.length (X1.length + 1)) (.gro 6 1 (X1.length + 40)) 2 (R3 .nils .nils 3 (R3 (.slice 3 0 0 X3.length X3.length) .nils 4 [])))), IB (X0.length + 40) (List.replicate (X0.length + 40) 1), IB (X1.length + 40) (List.replicate (X1.length + 40) 2), RB (R3 .nils .nils 3 []), IB (0 + k) (List.replicate (0 + k) 3)]) (40) ⟨0, by omega, by omega, rfl, rfl, rfl⟩ (wk hE [0, 1, 2, 3, 4, 5, 6, 7, 8]) ?_
   rintro n_ T_ H_ ⟨k, hk1, hk2, rfl, rfl, rfl⟩
   · refine w_seq (qz hP hn ?_)
     refine o2 ?_
     refine s_nil trivial (n_wp ?_)
     refine w_if rfl (fun h_t25 => ?_) (fun h_t25 => ?_)
     · refine w_skip (n_wp (w_seq (w_block (g_reg hP hn ?_))))
       refine o3 ?_
       refine s_op (k_call [] (con := mark_c 3 (by decide))) ?_
       refine s_op k_bsf ?_
       refine s_op (k_apg (c := 0 + (k + 1)) (l' := List.replicate (0 + (k + 1)) 3) (hl' := rep_t _ _) (hq := by exact Nat.le_refl _) (hbig := by show 0 + k + 1 ≤ 1000000; omega)) ?_
       refine s_op k_as ?_
       refine s_nil trivial (n_blo (n_wp (g_reg hP hn ?_)))
       refine o3 ?_
       refine s_nil trivial ?_
       exact n_round (40 - (k + 1)) (by omega) (⟨k + 1, by omega, by omega, rfl, rfl, rfl⟩) (wk hE [0, 1, 2, 3, 4, 5, 6, 7, 10])
     · obtain rfl : k = 40 := by omega
       refine w_exit (x_thn (x_thn (x_eq (n_wp (g_reg hP hn ?_)))))
       refine o4 ?_
       refine o2 ?_
       refine s_op (k_ixG 6 2) ?_
       refine s_op k_fa ?_
       refine s_st (k_st (h := by exact a_store_one rfl rfl SV.noConfusion rfl rfl (hset_seg (by repeat (first | apply sset_s _ rfl rfl | exact sset_0)) (by repeat (first | exact hset_0 | apply hset_s))))) ?_
       refine s_nil trivial (n_blo (n_wp (g_reg hP hn ?_)))
       refine o3 ?_
       refine s_nil trivial ?_
       exact n_round 1 (by omega) (.inr (.inr (.inr (.inl ⟨rfl, rfl, rfl⟩)))) (wk hE [0, 1, 2, 3, 4, 5, 6, 8])
 · refine w_seq (qz hP hn ?_)
   refine o4 ?_
   refine o3 ?_
   refine s_nil trivial (n_wp ?_)
   refine w_T rfl ?_ 
   refine w_skip (n_wp (w_seq (w_block (qz hP hn ?_))))
   refine o3 ?_
   refine o2 ?_
   refine s_op (k_ixG 9 3) ?_
   refine s_op (k_ld (h := by exact a_load_agg (sub := (R3 (.slice 3 0 0 X3.length X3.length) .nils 4 [])) (r := (R3 (.slice 3 0 0 X3.length X3.length) .nils 4 [])) rfl rfl (by kernel_rfl) (by kernel_rfl))) ?_
   refine s_op k_al ?_
   refine s_st (k_st (h := by exact a_store_agg rfl rfl rfl (put_w (by kernel_rfl)) (by exact Nat.le_of_ble_eq_true rfl) (by kernel_rfl) (by repeat (first | exact hset_0 | apply hset_s)))) ?_
   refine qx hP hn ?_
   refine o3 ?_
   refine s_nil trivial (n_wp (w_seq (qz hP hn ?_)))
   refine s_op k_as ?_
   refine s_nil trivial (n_wp (w_block ?_))
   refine c_loop (fun m_ T H => (m_ = 40 ∧ T = [(0, .s (.ptr 0 0 0)), (2, .s (.int .i64 ((3 : Nat) : Int))), (3, .s (.ptr 8 0 0)), (4, .s (.slice 3 0 0 X3.length X3.length)), (5, .s (.int .i64 ((0 : Nat) : Int)))] ∧ H = [BKb 4 (.gro 4 3 4), IB (X0.length + 1) (List.replicate (X0.length + 1) 1), IB (X1.length + 1) (List.replicate (X1.length + 1) 2), IB X3.length (List.replicate X3.length 4), RB (R3 (.slice 1 0 0 X0.length (X0.length + 1)) (.gro 5 1 (X0.length + 40)) 1 (R3 (.slice 2 0 0 X1.length (X1.length + 1)) (.gro 6 1 (X1.length + 40)) 2 (R3 .nils (.gro 7 1 (0 + 40)) 3 (R3 (.slice 3 0 0 X3.length X3.length) .nils 4 [])))), IB (X0.length + 40) (List.replicate (X0.length + 40) 1), IB (X1.length + 40) (List.replicate (X1.length + 40) 2), IB (0 + 40) (List.replicate (0 + 40) 3), RB (R3 (.slice 3 0 0 X3.length X3.length) .nils 4 [])]) ∨ (∃ k, 1 ≤ k ∧ k ≤ 40 ∧ m_ = 40 - k ∧ T = [(0, .s (.ptr 0 0 0)), (2, .s (.int .i64 ((3 : Nat) : Int))), (3, .s (.ptr 8 0 0)), (4, .s (.gro 9 1 (X3.length + k))), (5, .s (.int .i64 ((k : Nat) : Int)))] ∧ H = [BKb 4 (.gro 4 3 4), IB (X0.length + 1) (List.replicate (X0.length + 1) 1), IB (X1.length + 1) (List.replicate (X1.length + 1) 2), IB X3.length (List.replicate X3.length 4), RB (R3 (.slice 1 0 0 X0.length (X0.length + 1)) (.gro 5 1 (X0.length + 40)) 1 (R3 (.slice 2 0 0 X1.length (X1.length + 1)) (.gro 6 1 (X1.length + 40)) 2 (R3 .nils (.gro 7 1 (0 + 40)) 3 (R3 (.slice 3 0 0 X3.length X3.length) .nils 4 [])))), IB (X0.length + 40) (List.replicate (X0.length + 40) 1), IB (X1.length + 40) (List.replicate (X1.length + 40) 2), IB (0 + 40) (List.replicate (0 + 40) 3), RB (R3 (.slice 3 0 0 X3.length X3.length) .nils 4 []), IB (X3.length + k) (List.replicate (X3.length + k) 4)])) (40) (.inl ⟨rfl, rfl, rfl⟩) (wk hE [0, 1, 2, 3, 4, 5, 6, 7, 8]) ?_
   rintro n_ T_ H_ (⟨rfl, rfl, rfl⟩ | ⟨k, hk1, hk2, rfl, rfl, rfl⟩)
   · refine w_seq (qz hP hn ?_)
     refine o2 ?_
     refine s_nil trivial (n_wp ?_)
     refine w_T rfl ?_ 
     refine w_skip (n_wp (w_seq (w_block (g_reg hP hn ?_))))
     refine o3 ?_
     refine s_op (k_call [] (con := mark_c 4 (by decide))) ?_
     refine s_op k_bsf ?_
     refine s_op (k_apf (c := X3.length + 1) (l' := List.replicate (X3.length + 1) 4) (hl' := rep_s _ _) (h0 := by exact Nat.zero_lt_one) (hbig := by show X3.length + 1 ≤ 1000000; omega)) ?_
     refine s_op k_as ?_
     refine s_nil trivial (n_blo (n_wp (g_reg hP hn ?_)))
     refine o3 ?_
     refine s_nil trivial ?_
     exact n_round 39 (by omega) (.inr ⟨1, by omega, by omega, rfl, rfl, rfl⟩) (wk hE [0, 1, 2, 3, 4, 5, 6, 7, 8, 10])
   · refine w_seq (qz hP hn ?_)
     refine o2 ?_
     refine s_nil trivial (n_wp ?_)
     refine w_if rfl (fun h_t25 => ?_) (fun h_t25 => ?_)
     · refine w_skip (n_wp (w_seq (w_block (g_reg hP hn ?_))))
       refine o3 ?_
       refine s_op (k_call [] (con := mark_c 4 (by decide))) ?_
       refine s_op k_bsf ?_
       refine s_op (k_apg (c := X3.length + (k + 1)) (l' := List.replicate (X3.length + (k + 1)) 4) (hl' := rep_t _ _) (hq := by exact Nat.le_refl _) (hbig := by show X3.length + k + 1 ≤ 1000000; omega)) ?_
       refine s_op k_as ?_
       refine s_nil trivial (n_blo (n_wp (g_reg hP hn ?_)))
       refine o3 ?_
       refine s_nil trivial ?_
       exact n_round (40 - (k + 1)) (by omega) (.inr ⟨k + 1, by omega, by omega, rfl, rfl, rfl⟩) (wk hE [0, 1, 2, 3, 4, 5, 6, 7, 8, 11])
     · obtain rfl : k = 40 := by omega
       refine w_exit (x_thn (x_thn (x_eq (n_wp (g_reg hP hn ?_)))))
       refine o4 ?_
       refine o2 ?_
       refine s_op (k_ixG 9 3) ?_
       refine s_op k_fa ?_
       refine s_st (k_st (h := by exact a_store_one rfl rfl SV.noConfusion rfl rfl (hset_seg (by repeat (first | apply sset_s _ rfl rfl | exact sset_0)) (by repeat (first | exact hset_0 | apply hset_s))))) ?_
       refine s_nil trivial (n_blo (n_wp (g_reg hP hn ?_)))
       refine o3 ?_
       refine s_nil trivial ?_
       exact n_round 0 (by omega) (.inr (.inr (.inr (.inr (⟨rfl, rfl, rfl⟩))))) (wk hE [0, 1, 2, 3, 4, 5, 6, 7, 9])
 · refine w_seq (qz hP hn ?_)
   refine o4 ?_
   refine o3 ?_
   refine s_nil trivial (n_wp ?_)
   refine w_F rfl ?_ 
   refine w_exit (x_thn (x_thn (x_eq ?_)))
   exact d_ret hP hn hE [0, 1, 2, 3, 4, 5, 6, 7, 8] (ret_none Tryz.results63)

theorem look_AACB (X0 : List Int) (hX0 : X0.length ≤ 100000) (X1 : List Int) (hX1 : X1.length ≤ 100000) (X3 : List Int) (hX3 : X3.length ≤ 100000) : Con Tryz.prog 78 [.s (.ptr 0 0 0)] [BKb 4 (.gro 4 3 4), IB (X0.length + 1) (List.replicate (X0.length + 1) 1), IB (X1.length + 1) (List.replicate (X1.length + 1) 2), IB X3.length (List.replicate X3.length 4), RB (R3 (.slice 1 0 0 X0.length (X0.length + 1)) (.gro 5 1 (X0.length + 40)) 1 (R3 (.slice 2 0 0 X1.length (X1.length + 1)) (.gro 6 1 (X1.length + 40)) 2 (R3 .nils (.gro 7 1 (0 + 40)) 3 (R3 (.slice 3 0 0 X3.length X3.length) (.gro 8 1 (X3.length + 40)) 4 [])))), IB (X0.length + 40) (List.replicate (X0.length + 40) 1), IB (X1.length + 40) (List.replicate (X1.length + 40) 2), IB (0 + 40) (List.replicate (0 + 40) 3), IB (X3.length + 40) (List.replicate (X3.length + 40) 4)] (.s (.bool true)) [BKb 4 (.gro 4 3 4), IB (X0.length + 1) (List.replicate (X0.length + 1) 1), IB (X1.length + 1) (List.replicate (X1.length + 1) 2), IB X3.length (List.replicate X3.length 4), RB (R3 (.slice 1 0 0 X0.length (X0.length + 1)) (.gro 5 1 (X0.length + 40)) 1 (R3 (.slice 2 0 0 X1.length (X1.length + 1)) (.gro 6 1 (X1.length + 40)) 2 (R3 .nils (.gro 7 1 (0 + 40)) 3 (R3 (.slice 3 0 0 X3.length X3.length) (.gro 8 1 (X3.length + 40)) 4 [])))), IB (X0.length + 40) (List.replicate (X0.length + 40) 1), IB (X1.length + 40) (List.replicate (X1.length + 40) 2), IB (0 + 40) (List.replicate (0 + 40) 3), IB (X3.length + 40) (List.replicate (X3.length + 40) 4)] := by
 refine con_in 64 Tryz.func78 rfl rfl (m := 9) rfl ?_
 intro E hP hn hE
 refine qz hP hn ?_
 refine s_op k_as ?_
 refine s_nil trivial (n_wp (w_seq (qz hP hn ?_)))
 refine s_op k_as ?_
 refine s_nil trivial (n_wp (w_block ?_))
 refine c_loop (fun m_ T H => (m_ = 4 ∧ T = [(0, .s (.ptr 0 0 0)), (3, .s (.int .i64 ((0 : Nat) : Int)))] ∧ H = [BKb 4 (.gro 4 3 4), IB (X0.length + 1) (List.replicate (X0.length + 1) 1), IB (X1.length + 1) (List.replicate (X1.length + 1) 2), IB X3.length (List.replicate X3.length 4), RB (R3 (.slice 1 0 0 X0.length (X0.length + 1)) (.gro 5 1 (X0.length + 40)) 1 (R3 (.slice 2 0 0 X1.length (X1.length + 1)) (.gro 6 1 (X1.length + 40)) 2 (R3 .nils (.gro 7 1 (0 + 40)) 3 (R3 (.slice 3 0 0 X3.length X3.length) (.gro 8 1 (X3.length + 40)) 4 [])))), IB (X0.length + 40) (List.replicate (X0.length + 40) 1), IB (X1.length + 40) (List.replicate (X1.length + 40) 2), IB (0 + 40) (List.replicate (0 + 40) 3), IB (X3.length + 40) (List.replicate (X3.length + 40) 4)]) ∨ (m_ = 3 ∧ T = [(0, .s (.ptr 0 0 0)), (3, .s (.int .i64 ((1 : Nat) : Int)))] ∧ H = [BKb 4 (.gro 4 3 4), IB (X0.length + 1) (List.replicate (X0.length + 1) 1), IB (X1.length + 1) (List.replicate (X1.length + 1) 2), IB X3.length (List.replicate X3.length 4), RB (R3 (.slice 1 0 0 X0.length (X0.length + 1)) (.gro 5 1 (X0.length + 40)) 1 (R3 (.slice 2 0 0 X1.length (X1.length + 1)) (.gro 6 1 (X1.length + 40)) 2 (R3 .nils (.gro 7 1 (0 + 40)) 3 (R3 (.slice 3 0 0 X3.length X3.length) (.gro 8 1 (X3.length + 40)) 4 [])))), IB (X0.length + 40) (List.replicate (X0.length + 40) 1), IB (X1.length + 40) (List.replicate (X1.length + 40) 2), IB (0 + 40) (List.replicate (0 + 40) 3), IB (X3.length + 40) (List.replicate (X3.length + 40) 4)]) ∨ (m_ = 2 ∧ T = [(0, .s (.ptr 0 0 0)), (3, .s (.int .i64 ((2 : Nat) : Int)))] ∧ H = [BKb 4 (.gro 4 3 4), IB (X0.length + 1) (List.replicate (X0.length + 1) 1), IB (X1.length + 1) (List.replicate (X1.length + 1) 2), IB X3.length (List.replicate X3.length 4), RB (R3 (.slice 1 0 0 X0.length (X0.length + 1)) (.gro 5 1 (X0.length + 40)) 1 (R3 (.slice 2 0 0 X1.length (X1.length + 1)) (.gro 6 1 (X1.length + 40)) 2 (R3 .nils (.gro 7 1 (0 + 40)) 3 (R3 (.slice 3 0 0 X3.length X3.length) (.gro 8 1 (X3.length + 40)) 4 [])))), IB (X0.length + 40) (List.replicate (X0.length + 40) 1), IB (X1.length + 40) (List.replicate (X1.length + 40) 2), IB (0 + 40) (List.replicate (0 + 40) 3), IB (X3.length + 40) (List.replicate (X3.length + 40) 4)]) ∨ (m_ = 1 ∧ T = [(0, .s (.ptr 0 0 0)), (3, .s (.int .i64 ((3 : Nat) : Int)))] ∧ H = [BKb 4 (.gro 4 3 4), IB (X0.length + 1) (List.replicate (X0.length + 1) 1), IB (X1.length + 1) (List.replicate (X1.length + 1) 2), IB X3.length (List.replicate X3.length 4), RB (R3 (.slice 1 0 0 X0.length (X0.length + 1)) (.gro 5 1 (X0.length + 40)) 1 (R3 (.slice 2 0 0 X1.length (X1.length + 1)) (.gro 6 1 (X1.length + 40)) 2 (R3 .nils (.gro 7 1 (0 + 40)) 3 (R3 (.slice 3 0 0 X3.length X3.length) (.gro 8 1 (X3.length + 40)) 4 [])))), IB (X0.length + 40) (List.replicate (X0.length + 40) 1), IB (X1.length + 40) (List.replicate (X1.length + 40) 2), IB (0 + 40) (List.replicate (0 + 40) 3), IB (X3.length + 40) (List.replicate (X3.length + 40) 4)]) ∨ (m_ = 0 ∧ T = [(0, .s (.ptr 0 0 0)), (3, .s (.int .i64 ((4 : Nat) : Int)))] ∧ H = [BKb 4 (.gro 4 3 4), IB (X0.length + 1) (List.replicate (X0.length + 1) 1), IB (X1.length + 1) (List.replicate (X1.length + 1) 2), IB X3.length (List.replicate X3.length 4), RB (R3 (.slice 1 0 0 X0.length (X0.length + 1)) (.gro 5 1 (X0.length + 40)) 1 (R3 (.slice 2 0 0 X1.length (X1.length + 1)) (.gro 6 1 (X1.length + 40)) 2 (R3 .nils (.gro 7 1 (0 + 40)) 3 (R3 (.slice 3 0 0 X3.length X3.length) (.gro 8 1 (X3.length + 40)) 4 [])))), IB (X0.length + 40) (List.replicate (X0.length + 40) 1), IB (X1.length + 40) (List.replicate (X1.length + 40) 2), IB (0 + 40) (List.replicate (0 + 40) 3), IB (X3.length + 40) (List.replicate (X3.length + 40) 4)])) (4) (.inl ⟨rfl, rfl, rfl⟩) (wk hE [0, 1, 2, 3, 4, 5, 6, 7, 8]) ?_
 rintro n_ T_ H_ (⟨rfl, rfl, rfl⟩ | ⟨rfl, rfl, rfl⟩ | ⟨rfl, rfl, rfl⟩ | ⟨rfl, rfl, rfl⟩ | ⟨rfl, rfl, rfl⟩)
 · refine w_seq (qz hP hn ?_)
   refine o4 ?_
   refine o3 ?_
   refine s_nil trivial (n_wp ?_)
   refine w_T rfl ?_ 
   refine w_skip (n_wp (w_seq (w_block (qz hP hn ?_))))
   refine o3 ?_
   refine o2 ?_
   refine s_op (k_ixG 0 0) ?_
   refine s_op (k_ld (h := by exact a_load_agg (sub := (R3 (.slice 1 0 0 X0.length (X0.length + 1)) (.gro 5 1 (X0.length + 40)) 1 [])) (r := (R3 (.slice 1 0 0 X0.length (X0.length + 1)) (.gro 5 1 (X0.length + 40)) 1 (R3 (.slice 2 0 0 X1.length (X1.length + 1)) (.gro 6 1 (X1.length + 40)) 2 (R3 .nils (.gro 7 1 (0 + 40)) 3 (R3 (.slice 3 0 0 X3.length X3.length) (.gro 8 1 (X3.length + 40)) 4 []))))) rfl rfl (by kernel_rfl) (by kernel_rfl))) ?_
   refine s_op k_al ?_
   refine s_st (k_st (h := by exact a_store_agg rfl rfl rfl (put_w (by kernel_rfl)) (by exact Nat.le_of_ble_eq_true rfl) (by kernel_rfl) (by repeat (first | exact hset_0 | apply hset_s)))) ?_
   refine s_nil trivial (n_wp (w_seq (qz hP hn ?_)))
   refine o4 ?_
   refine o3 ?_
   refine s_op (l_bin rfl rfl (b_neq (r := false) (decide_eq_false (by omega)))) ?_
   refine s_nil trivial (n_wp ?_)
   refine w_F rfl ?_ 
   refine w_skip (n_wp (qz hP hn ?_))
   refine s_op k_as ?_
   refine s_nil trivial (n_wp (w_block ?_))
   refine c_loop (fun m_ T H => ∃ k, k ≤ X0.length + 40 ∧ m_ = X0.length + 40 - k ∧ T = [(0, .s (.ptr 0 0 0)), (3, .s (.int .i64 ((0 : Nat) : Int))), (4, .s (.ptr 9 0 0)), (5, .s (.int .i64 ((k : Nat) : Int)))] ∧ H = [BKb 4 (.gro 4 3 4), IB (X0.length + 1) (List.replicate (X0.length + 1) 1), IB (X1.length + 1) (List.replicate (X1.length + 1) 2), IB X3.length (List.replicate X3.length 4), RB (R3 (.slice 1 0 0 X0.length (X0.length + 1)) (.gro 5 1 (X0.length + 40)) 1 (R3 (.slice 2 0 0 X1.length (X1.length + 1)) (.gro 6 1 (X1.length + 40)) 2 (R3 .nils (.gro 7 1 (0 + 40)) 3 (R3 (.slice 3 0 0 X3.length X3.length) (.gro 8 1 (X3.length + 40)) 4 [])))), IB (X0.length + 40) (List.replicate (X0.length + 40) 1), IB (X1.length + 40) (List.replicate (X1.length + 40) 2), IB (0 + 40) (List.replicate (0 + 40) 3), IB (X3.length + 40) (List.replicate (X3.length + 40) 4), RB (R3 (.slice 1 0 0 X0.length (X0.length + 1)) (.gro 5 1 (X0.length + 40)) 1 [])]) (X0.length + 40) ⟨0, by omega, rfl, rfl, rfl⟩ (wk hE [0, 1, 2, 3, 4, 5, 6, 7, 8, 9]) ?_
   rintro n_ T_ H_ ⟨k, hk, rfl, rfl, rfl⟩
   refine w_seq (qz hP hn ?_)
   refine o3 ?_
   refine o2 ?_
   refine s_nil trivial (n_wp ?_)
   refine w_if rfl (fun h_t34 => ?_) (fun h_t34 => ?_)
   · refine w_skip (n_wp (w_seq (w_block (w_seq ?_))))
     refine g_any hP hn ?_
     refine o4 ?_
     refine o3 ?_
     refine s_op (k_call [] (con := is_t 1 _ (by decide) (rep_g _ _ _ (by omega)))) ?_
     refine o2 ?_
     refine s_on rfl rfl rfl k_mv ?_
     refine s_on rfl rfl rfl k_fa ?_
     refine s_on rfl rfl rfl k_ld ?_
     refine s_on rfl rfl rfl k_len ?_
     refine s_on rfl rfl rfl k_lss ?_
     refine s_on rfl rfl rfl k_mv ?_
     refine s_opt rfl rfl (fun hB => by rw [hB]; (try simp only [Bool.or_eq_true, Bool.or_eq_false_iff, Bool.and_eq_true, Bool.not_eq_true', Bool.not_eq_false', decide_eq_true_eq, decide_eq_false_iff_not] at hB); exact k_fa) ?_
     refine s_opt rfl rfl (fun hB => by rw [hB]; (try simp only [Bool.or_eq_true, Bool.or_eq_false_iff, Bool.and_eq_true, Bool.not_eq_true', Bool.not_eq_false', decide_eq_true_eq, decide_eq_false_iff_not] at hB); exact k_ld) ?_
     refine s_opt rfl rfl (fun hB => by rw [hB]; (try simp only [Bool.or_eq_true, Bool.or_eq_false_iff, Bool.and_eq_true, Bool.not_eq_true', Bool.not_eq_false', decide_eq_true_eq, decide_eq_false_iff_not] at hB); exact k_mv) ?_
     refine s_opt rfl rfl (fun hB => by rw [hB]; (try simp only [Bool.or_eq_true, Bool.or_eq_false_iff, Bool.and_eq_true, Bool.not_eq_true', Bool.not_eq_false', decide_eq_true_eq, decide_eq_false_iff_not] at hB); exact k_ix) ?_
     refine s_opt rfl rfl (fun hB => by rw [hB]; (try simp only [Bool.or_eq_true, Bool.or_eq_false_iff, Bool.and_eq_true, Bool.not_eq_true', Bool.not_eq_false', decide_eq_true_eq, decide_eq_false_iff_not] at hB); exact k_ld) ?_
     refine s_opt rfl rfl (fun hB => by rw [hB]; (try simp only [Bool.or_eq_true, Bool.or_eq_false_iff, Bool.and_eq_true, Bool.not_eq_true', Bool.not_eq_false', decide_eq_true_eq, decide_eq_false_iff_not] at hB); exact k_fa) ?_
     refine s_opt rfl rfl (fun hB => by rw [hB]; (try simp only [Bool.or_eq_true, Bool.or_eq_false_iff, Bool.and_eq_true, Bool.not_eq_true', Bool.not_eq_false', decide_eq_true_eq, decide_eq_false_iff_not] at hB); exact k_ld) ?_
     refine s_opt rfl rfl (fun hB => by rw [hB]; (try simp only [Bool.or_eq_true, Bool.or_eq_false_iff, Bool.and_eq_true, Bool.not_eq_true', Bool.not_eq_false', decide_eq_true_eq, decide_eq_false_iff_not] at hB); exact k_call [] (con := is_t 1 _ (by decide) (rep_g _ _ _ (by omega)))) ?_
     refine s_opt rfl rfl (fun hB => by rw [hB]; (try simp only [Bool.or_eq_true, Bool.or_eq_false_iff, Bool.and_eq_true, Bool.not_eq_true', Bool.not_eq_false', decide_eq_true_eq, decide_eq_false_iff_not] at hB); exact k_not) ?_
     refine s_on rfl rfl rfl k_pk ?_
     refine s_op k_pk ?_
     refine s_nil (by kernel_rfl) ?_
     refine n_wp ?_
     refine w_F rfl ?_ (by first | rfl | exact Bool.and_false _ | simp)
     refine w_skip (n_blo (n_wp (g_reg hP hn ?_)))
     refine o3 ?_
     refine s_nil trivial ?_
     exact n_round (X0.length + 40 - (k + 1)) (by omega) ⟨k + 1, by omega, rfl, rfl, rfl⟩ (wk hE [0, 1, 2, 3, 4, 5, 6, 7, 8, 9])
   · obtain rfl : k = X0.length + 40 := by omega
     refine w_exit (x_thn (x_thn (x_eq (n_blo (n_wp (g_reg hP hn ?_))))))
     refine o3 ?_
     refine s_nil trivial ?_
     exact n_round 3 (by omega) (.inr (.inl ⟨rfl, rfl, rfl⟩)) (wk hE [0, 1, 2, 3, 4, 5, 6, 7, 8])
 · refine w_seq (qz hP hn ?_)
   refine o4 ?_
   refine o3 ?_
   refine s_nil trivial (n_wp ?_)
   refine w_T rfl ?_ 
   refine w_skip (n_wp (w_seq (w_block (qz hP hn ?_))))
   refine o3 ?_
   refine o2 ?_
   refine s_op (k_ixG 3 1) ?_
   refine s_op (k_ld (h := by exact a_load_agg (sub := (R3 (.slice 2 0 0 X1.length (X1.length + 1)) (.gro 6 1 (X1.length + 40)) 2 [])) (r := (R3 (.slice 2 0 0 X1.length (X1.length + 1)) (.gro 6 1 (X1.length + 40)) 2 (R3 .nils (.gro 7 1 (0 + 40)) 3 (R3 (.slice 3 0 0 X3.length X3.length) (.gro 8 1 (X3.length + 40)) 4 [])))) rfl rfl (by kernel_rfl) (by kernel_rfl))) ?_
   refine s_op k_al ?_
   refine s_st (k_st (h := by exact a_store_agg rfl rfl rfl (put_w (by kernel_rfl)) (by exact Nat.le_of_ble_eq_true rfl) (by kernel_rfl) (by repeat (first | exact hset_0 | apply hset_s)))) ?_
   refine s_nil trivial (n_wp (w_seq (qz hP hn ?_)))
   refine o4 ?_
   refine o3 ?_
   refine s_op (l_bin rfl rfl (b_neq (r := false) (decide_eq_false (by omega)))) ?_
   refine s_nil trivial (n_wp ?_)
   refine w_F rfl ?_ 
   refine w_skip (n_wp (qz hP hn ?_))
   refine s_op k_as ?_
   refine s_nil trivial (n_wp (w_block ?_))
   refine c_loop (fun m_ T H => ∃ k, k ≤ X1.length + 40 ∧ m_ = X1.length + 40 - k ∧ T = [(0, .s (.ptr 0 0 0)), (3, .s (.int .i64 ((1 : Nat) : Int))), (4, .s (.ptr 9 0 0)), (5, .s (.int .i64 ((k : Nat) : Int)))] ∧ H = [BKb 4 (.gro 4 3 4), IB (X0.length + 1) (List.replicate (X0.length + 1) 1), IB (X1.length + 1) (List.replicate (X1.length + 1) 2), IB X3.length (List.replicate X3.length 4), RB (R3 (.slice 1 0 0 X0.length (X0.length + 1)) (.gro 5 1 (X0.length + 40)) 1 (R3 (.slice 2 0 0 X1.length (X1.length + 1)) (.gro 6 1 (X1.length + 40)) 2 (R3 .nils (.gro 7 1 (0 + 40)) 3 (R3 (.slice 3 0 0 X3.length X3.length) (.gro 8 1 (X3.length + 40)) 4 [])))), IB (X0.length + 40) (List.replicate (X0.length + 40) 1), IB (X1.length + 40) (List.replicate (X1.length + 40) 2), IB (0 + 40) (List.replicate (0 + 40) 3), IB (X3.length + 40) (List.replicate (X3.length + 40) 4), RB (R3 (.slice 2 0 0 X1.length (X1.length + 1)) (.gro 6 1 (X1.length + 40)) 2 [])]) (X1.length + 40) ⟨0, by omega, rfl, rfl, rfl⟩ (wk hE [0, 1, 2, 3, 4, 5, 6, 7, 8, 9]) ?_
   rintro n_ T_ H_ ⟨k, hk, rfl, rfl, rfl⟩
   refine w_seq (qz hP hn ?_)
   refine o3 ?_
   refine o2 ?_
   refine s_nil trivial (n_wp ?_)
   refine w_if rfl (fun h_t34 => ?_) (fun h_t34 => ?_)
   · refine w_skip (n_wp (w_seq (w_block (w_seq ?_))))
     refine g_any hP hn ?_
     refine o4 ?_
     refine o3 ?_
     refine s_op (k_call [] (con := is_t 2 _ (by decide) (rep_g _ _ _ (by omega)))) ?_
     refine o2 ?_
     refine s_on rfl rfl rfl k_mv ?_
     refine s_on rfl rfl rfl k_fa ?_
     refine s_on rfl rfl rfl k_ld ?_
     refine s_on rfl rfl rfl k_len ?_
     refine s_on rfl rfl rfl k_lss ?_
     refine s_on rfl rfl rfl k_mv ?_
     refine s_opt rfl rfl (fun hB => by rw [hB]; (try simp only [Bool.or_eq_true, Bool.or_eq_false_iff, Bool.and_eq_true, Bool.not_eq_true', Bool.not_eq_false', decide_eq_true_eq, decide_eq_false_iff_not] at hB); exact k_fa) ?_
     refine s_opt rfl rfl (fun hB => by rw [hB]; (try simp only [Bool.or_eq_true, Bool.or_eq_false_iff, Bool.and_eq_true, Bool.not_eq_true', Bool.not_eq_false', decide_eq_true_eq, decide_eq_false_iff_not] at hB); exact k_ld) ?_
     refine s_opt rfl rfl (fun hB => by rw [hB]; (try simp only [Bool.or_eq_true, Bool.or_eq_false_iff, Bool.and_eq_true, Bool.not_eq_true', Bool.not_eq_false', decide_eq_true_eq, decide_eq_false_iff_not] at hB); exact k_mv) ?_
     refine s_opt rfl rfl (fun hB => by rw [hB]; (try simp only [Bool.or_eq_true, Bool.or_eq_false_iff, Bool.and_eq_true, Bool.not_eq_true', Bool.not_eq_false', decide_eq_true_eq, decide_eq_false_iff_not] at hB); exact k_ix) ?_
     refine s_opt rfl rfl (fun hB => by rw [hB]; (try simp only [Bool.or_eq_true, Bool.or_eq_false_iff, Bool.and_eq_true, Bool.not_eq_true', Bool.not_eq_false', decide_eq_true_eq, decide_eq_false_iff_not] at hB); exact k_ld) ?_
     refine s_opt rfl rfl (fun hB => by rw [hB]; (try simp only [Bool.or_eq_true, Bool.or_eq_false_iff, Bool.and_eq_true, Bool.not_eq_true', Bool.not_eq_false', decide_eq_true_eq, decide_eq_false_iff_not] at hB); exact k_fa) ?_
     refine s_opt rfl rfl (fun hB => by rw [hB]; (try simp only [Bool.or_eq_true, Bool.or_eq_false_iff, Bool.and_eq_true, Bool.not_eq_true', Bool.not_eq_false', decide_eq_true_eq, decide_eq_false_iff_not] at hB); exact k_ld) ?_
     refine s_opt rfl rfl (fun hB => by rw [hB]; (try simp only [Bool.or_eq_true, Bool.or_eq_false_iff, Bool.and_eq_true, Bool.not_eq_true', Bool.not_eq_false', decide_eq_true_eq, decide_eq_false_iff_not] at hB); exact k_call [] (con := is_t 2 _ (by decide) (rep_g _ _ _ (by omega)))) ?_
     refine s_opt rfl rfl (fun hB => by rw [hB]; (try simp only [Bool.or_eq_true, Bool.or_eq_false_iff, Bool.and_eq_true, Bool.not_eq_true', Bool.not_eq_false', decide_eq_true_eq, decide_eq_false_iff_not] at hB); exact k_not) ?_
     refine s_on rfl rfl rfl k_pk ?_
     refine s_op k_pk ?_
     refine s_nil (by kernel_rfl) ?_
     refine n_wp ?_
     refine w_F rfl ?_ (by first | rfl | exact Bool.and_false _ | simp)
     refine w_skip (n_blo (n_wp (g_reg hP hn ?_)))
     refine o3 ?_
     refine s_nil trivial ?_
     exact n_round (X1.length + 40 - (k + 1)) (by omega) ⟨k + 1, by omega, rfl, rfl, rfl⟩ (wk hE [0, 1, 2, 3, 4, 5, 6, 7, 8, 9])
   · obtain rfl : k = X1.length + 40 := by omega
     refine w_exit (x_thn (x_thn (x_eq (n_blo (n_wp (g_reg hP hn ?_))))))
     refine o3 ?_
     refine s_nil trivial ?_
     exact n_round 2 (by omega) (.inr (.inr (.inl ⟨rfl, rfl, rfl⟩))) (wk hE [0, 1, 2, 3, 4, 5, 6, 7, 8])
 · refine w_seq (qz hP hn ?_)
   refine o4 ?_
   refine o3 ?_
   refine s_nil trivial (n_wp ?_)
   refine w_T rfl ?_ 
   refine w_skip (n_wp (w_seq (w_block (qz hP hn ?_))))
   refine o3 ?_
   refine o2 ?_
   refine s_op (k_ixG 6 2) ?_
   refine s_op (k_ld (h := by exact a_load_agg (sub := (R3 .nils (.gro 7 1 (0 + 40)) 3 [])) (r := (R3 .nils (.gro 7 1 (0 + 40)) 3 (R3 (.slice 3 0 0 X3.length X3.length) (.gro 8 1 (X3.length + 40)) 4 []))) rfl rfl (by kernel_rfl) (by kernel_rfl))) ?_
   refine s_op k_al ?_
   refine s_st (k_st (h := by exact a_store_agg rfl rfl rfl (put_w (by kernel_rfl)) (by exact Nat.le_of_ble_eq_true rfl) (by kernel_rfl) (by repeat (first | exact hset_0 | apply hset_s)))) ?_
   refine s_nil trivial (n_wp (w_seq (qz hP hn ?_)))
   refine o4 ?_
   refine o3 ?_
   refine s_op (l_bin rfl rfl (b_neq (r := false) (decide_eq_false (by omega)))) ?_
   refine s_nil trivial (n_wp ?_)
   refine w_F rfl ?_ 
   refine w_skip (n_wp (qz hP hn ?_))
   refine s_op k_as ?_
   refine s_nil trivial (n_wp (w_block ?_))
   refine c_loop (fun m_ T H => ∃ k, k ≤ 0 + 40 ∧ m_ = 0 + 40 - k ∧ T = [(0, .s (.ptr 0 0 0)), (3, .s (.int .i64 ((2 : Nat) : Int))), (4, .s (.ptr 9 0 0)), (5, .s (.int .i64 ((k : Nat) : Int)))] ∧ H = [BKb 4 (.gro 4 3 4), IB (X0.length + 1) (List.replicate (X0.length + 1) 1), IB (X1.length + 1) (List.replicate (X1.length + 1) 2), IB X3.length (List.replicate X3.length 4), RB (R3 (.slice 1 0 0 X0.length (X0.length + 1)) (.gro 5 1 (X0.length + 40)) 1 (R3 (.slice 2 0 0 X1.length (X1.length + 1)) (.gro 6 1 (X1.length + 40)) 2 (R3 .nils (.gro 7 1 (0 + 40)) 3 (R3 (.slice 3 0 0 X3.length X3.length) (.gro 8 1 (X3.length + 40)) 4 [])))), IB (X0.length + 40) (List.replicate (X0.length + 40) 1), IB (X1.length + 40) (List.replicate (X1.length + 40) 2), IB (0 + 40) (List.replicate (0 + 40) 3), IB (X3.length + 40) (List.replicate (X3.length + 40) 4), RB (R3 .nils (.gro 7 1 (0 + 40)) 3 [])]) (0 + 40) ⟨0, by omega, rfl, rfl, rfl⟩ (wk hE [0, 1, 2, 3, 4, 5, 6, 7, 8, 9]) ?_
   rintro n_ T_ H_ ⟨k, hk, rfl, rfl, rfl⟩
   refine w_seq (qz hP hn ?_)
   refine o3 ?_
   refine o2 ?_
   refine s_nil trivial (n_wp ?_)
   refine w_if rfl (fun h_t34 => ?_) (fun h_t34 => ?_)
   · refine w_skip (n_wp (w_seq (w_block (w_seq ?_))))
     refine g_any hP hn ?_
     refine o4 ?_
     refine o3 ?_
     refine s_op (k_call [] (con := is_t 3 _ (by decide) (rep_g _ _ _ (by omega)))) ?_
     refine o2 ?_
     refine s_on rfl rfl rfl k_mv ?_
     refine s_on rfl rfl rfl k_fa ?_
     refine s_on rfl rfl rfl k_ld ?_
     refine s_on rfl rfl rfl k_len ?_
     refine s_on rfl rfl rfl (l_bin rfl rfl (b_lss (r := false) (decide_eq_false (by omega)))) ?_
     refine s_on rfl rfl rfl k_mv ?_
     refine s_off rfl rfl rfl ?_
     refine s_off rfl rfl rfl ?_
     refine s_off rfl rfl rfl ?_
     refine s_off rfl rfl rfl ?_
     refine s_off rfl rfl rfl ?_
     refine s_off rfl rfl rfl ?_
     refine s_off rfl rfl rfl ?_
     refine s_off rfl rfl rfl ?_
     refine s_off rfl rfl rfl ?_
     refine s_on rfl rfl rfl k_pk ?_
     refine s_op k_pk ?_
     refine s_nil (by kernel_rfl) ?_
     refine n_wp ?_
     refine w_F rfl ?_ (by first | rfl | exact Bool.and_false _ | simp)
     refine w_skip (n_blo (n_wp (g_reg hP hn ?_)))
     refine o3 ?_
     refine s_nil trivial ?_
     exact n_round (0 + 40 - (k + 1)) (by omega) ⟨k + 1, by omega, rfl, rfl, rfl⟩ (wk hE [0, 1, 2, 3, 4, 5, 6, 7, 8, 9])
   · obtain rfl : k = 0 + 40 := by omega
     refine w_exit (x_thn (x_thn (x_eq (n_blo (n_wp (g_reg hP hn ?_))))))
     refine o3 ?_
     refine s_nil trivial ?_
     exact n_round 1 (by omega) (.inr (.inr (.inr (.inl ⟨rfl, rfl, rfl⟩)))) (wk hE [0, 1, 2, 3, 4, 5, 6, 7, 8])
 · refine w_seq (qz hP hn ?_)
   refine o4 ?_
   refine o3 ?_
   refine s_nil trivial (n_wp ?_)
   refine w_T rfl ?_ 
   refine w_skip (n_wp (w_seq (w_block (qz hP hn ?_))))
   refine o3 ?_
   refine o2 ?_
   refine s_op (k_ixG 9 3) ?_
   refine s_op (k_ld (h := by exact a_load_agg (sub := (R3 (.slice 3 0 0 X3.length X3.length) (.gro 8 1 (X3.length + 40)) 4 [])) (r := (R3 (.slice 3 0 0 X3.length X3.length) (.gro 8 1 (X3.length + 40)) 4 [])) rfl rfl (by kernel_rfl) (by kernel_rfl))) ?_
   refine s_op k_al ?_
   refine s_st (k_st (h := by exact a_store_agg rfl rfl rfl (put_w (by kernel_rfl)) (by exact Nat.le_of_ble_eq_true rfl) (by kernel_rfl) (by repeat (first | exact hset_0 | apply hset_s)))) ?_
   refine s_nil trivial (n_wp (w_seq (qz hP hn ?_)))
   refine o4 ?_
   refine o3 ?_
   refine s_op (l_bin rfl rfl (b_neq (r := false) (decide_eq_false (by omega)))) ?_
   refine s_nil trivial (n_wp ?_)
   refine w_F rfl ?_ 
   refine w_skip (n_wp (qz hP hn ?_))
   refine s_op k_as ?_
   refine s_nil trivial (n_wp (w_block ?_))
   refine c_loop (fun m_ T H => ∃ k, k ≤ X3.length + 40 ∧ m_ = X3.length + 40 - k ∧ T = [(0, .s (.ptr 0 0 0)), (3, .s (.int .i64 ((3 : Nat) : Int))), (4, .s (.ptr 9 0 0)), (5, .s (.int .i64 ((k : Nat) : Int)))] ∧ H = [BKb 4 (.gro 4 3 4), IB (X0.length + 1) (List.replicate (X0.length + 1) 1), IB (X1.length + 1) (List.replicate (X1.length + 1) 2), IB X3.length (List.replicate X3.length 4), RB (R3 (.slice 1 0 0 X0.length (X0.length + 1)) (.gro 5 1 (X0.length + 40)) 1 (R3 (.slice 2 0 0 X1.length (X1.length + 1)) (.gro 6 1 (X1.length + 40)) 2 (R3 .nils (.gro 7 1 (0 + 40)) 3 (R3 (.slice 3 0 0 X3.length X3.length) (.gro 8 1 (X3.length + 40)) 4 [])))), IB (X0.length + 40) (List.replicate (X0.length + 40) 1), IB (X1.length + 40) (List.replicate (X1.length + 40) 2), IB (0 + 40) (List.replicate (0 + 40) 3), IB (X3.length + 40) (List.replicate (X3.length + 40) 4), RB (R3 (.slice 3 0 0 X3.length X3.length) (.gro 8 1 (X3.length + 40)) 4 [])]) (X3.length + 40) ⟨0, by omega, rfl, rfl, rfl⟩ (wk hE [0, 1, 2, 3, 4, 5, 6, 7, 8, 9]) ?_
   rintro n_ T_ H_ ⟨k, hk, rfl, rfl, rfl⟩
   refine w_seq (qz hP hn ?_)
   refine o3 ?_
   refine o2 ?_
   refine s_nil trivial (n_wp ?_)
   refine w_if rfl (fun h_t34 => ?_) (fun h_t34 => ?_)
   · refine w_skip (n_wp (w_seq (w_block (w_seq ?_))))
     refine g_any hP hn ?_
     refine o4 ?_
     refine o3 ?_
     refine s_op (k_call [] (con := is_t 4 _ (by decide) (rep_g _ _ _ (by omega)))) ?_
     refine o2 ?_
     refine s_on rfl rfl rfl k_mv ?_
     refine s_on rfl rfl rfl k_fa ?_
     refine s_on rfl rfl rfl k_ld ?_
     refine s_on rfl rfl rfl k_len ?_
     refine s_on rfl rfl rfl k_lss ?_
     refine s_on rfl rfl rfl k_mv ?_
     refine s_opt rfl rfl (fun hB => by rw [hB]; (try simp only [Bool.or_eq_true, Bool.or_eq_false_iff, Bool.and_eq_true, Bool.not_eq_true', Bool.not_eq_false', decide_eq_true_eq, decide_eq_false_iff_not] at hB); exact k_fa) ?_
     refine s_opt rfl rfl (fun hB => by rw [hB]; (try simp only [Bool.or_eq_true, Bool.or_eq_false_iff, Bool.and_eq_true, Bool.not_eq_true', Bool.not_eq_false', decide_eq_true_eq, decide_eq_false_iff_not] at hB); exact k_ld) ?_
     refine s_opt rfl rfl (fun hB => by rw [hB]; (try simp only [Bool.or_eq_true, Bool.or_eq_false_iff, Bool.and_eq_true, Bool.not_eq_true', Bool.not_eq_false', decide_eq_true_eq, decide_eq_false_iff_not] at hB); exact k_mv) ?_
     refine s_opt rfl rfl (fun hB => by rw [hB]; (try simp only [Bool.or_eq_true, Bool.or_eq_false_iff, Bool.and_eq_true, Bool.not_eq_true', Bool.not_eq_false', decide_eq_true_eq, decide_eq_false_iff_not] at hB); exact k_ix) ?_
     refine s_opt rfl rfl (fun hB => by rw [hB]; (try simp only [Bool.or_eq_true, Bool.or_eq_false_iff, Bool.and_eq_true, Bool.not_eq_true', Bool.not_eq_false', decide_eq_true_eq, decide_eq_false_iff_not] at hB); exact k_ld) ?_
     refine s_opt rfl rfl (fun hB => by rw [hB]; (try simp only [Bool.or_eq_true, Bool.or_eq_false_iff, Bool.and_eq_true, Bool.not_eq_true', Bool.not_eq_false', decide_eq_true_eq, decide_eq_false_iff_not] at hB); exact k_fa) ?_
     refine s_opt rfl rfl (fun hB => by rw [hB]; (try simp only [Bool.or_eq_true, Bool.or_eq_false_iff, Bool.and_eq_true, Bool.not_eq_true', Bool.not_eq_false', decide_eq_true_eq, decide_eq_false_iff_not] at hB); exact k_ld) ?_
     refine s_opt rfl rfl (fun hB => by rw [hB]; (try simp only [Bool.or_eq_true, Bool.or_eq_false_iff, Bool.and_eq_true, Bool.not_eq_true', Bool.not_eq_false', decide_eq_true_eq, decide_eq_false_iff_not] at hB); exact k_call [] (con := is_t 4 _ (by decide) (rep_g _ _ _ (by omega)))) ?_
     refine s_opt rfl rfl (fun hB => by rw [hB]; (try simp only [Bool.or_eq_true, Bool.or_eq_false_iff, Bool.and_eq_true, Bool.not_eq_true', Bool.not_eq_false', decide_eq_true_eq, decide_eq_false_iff_not] at hB); exact k_not) ?_
     refine s_on rfl rfl rfl k_pk ?_
     refine s_op k_pk ?_
     refine s_nil (by kernel_rfl) ?_
     refine n_wp ?_
     refine w_F rfl ?_ (by first | rfl | exact Bool.and_false _ | simp)
     refine w_skip (n_blo (n_wp (g_reg hP hn ?_)))
     refine o3 ?_
     refine s_nil trivial ?_
     exact n_round (X3.length + 40 - (k + 1)) (by omega) ⟨k + 1, by omega, rfl, rfl, rfl⟩ (wk hE [0, 1, 2, 3, 4, 5, 6, 7, 8, 9])
   · obtain rfl : k = X3.length + 40 := by omega
     refine w_exit (x_thn (x_thn (x_eq (n_blo (n_wp (g_reg hP hn ?_))))))
     refine o3 ?_
     refine s_nil trivial ?_
     exact n_round 0 (by omega) (.inr (.inr (.inr (.inr (⟨rfl, rfl, rfl⟩))))) (wk hE [0, 1, 2, 3, 4, 5, 6, 7, 8])
 · refine w_seq (qz hP hn ?_)
   refine o4 ?_
   refine o3 ?_
   refine s_nil trivial (n_wp ?_)
   refine w_F rfl ?_ 
   refine w_exit (x_thn (x_thn (x_eq (n_wp (qz hP hn ?_)))))
   refine s_op k_as ?_
   refine s_nil trivial (n_wp (w_ret ?_))
   exact d_ret hP hn hE [0, 1, 2, 3, 4, 5, 6, 7, 8] (by first | exact r_tmp Tryz.results78 | exact r_tmpa Tryz.results78)

theorem fill_AACC (X0 : List Int) (hX0 : X0.length ≤ 100000) (X1 : List Int) (hX1 : X1.length ≤ 100000) : Con Tryz.prog 48 [.s (.ptr 0 0 0)] [BKb 4 (.gro 3 3 4), IB (X0.length + 1) (X0 ++ [77]), IB (X1.length + 1) (X1 ++ [77]), RB (R3 (.slice 1 0 0 X0.length (X0.length + 1)) .nils 1 (R3 (.slice 2 0 0 X1.length (X1.length + 1)) .nils 2 (R3 .nils .nils 3 (R3 .nils .nils 4 []))))] (.tup []) [BKb 4 (.gro 3 3 4), IB (X0.length + 1) (List.replicate X0.length 1 ++ [77]), IB (X1.length + 1) (List.replicate X1.length 2 ++ [77]), RB (R3 (.slice 1 0 0 X0.length (X0.length + 1)) .nils 1 (R3 (.slice 2 0 0 X1.length (X1.length + 1)) .nils 2 (R3 .nils .nils 3 (R3 .nils .nils 4 []))))] := by
 refine con_in 35 Tryz.func48 rfl rfl (m := 4) rfl ?_
 intro E hP hn hE
 refine qz hP hn ?_
 refine s_op k_as ?_
 refine s_nil trivial (n_wp (w_block ?_))
 refine c_loop (fun m_ T H => (m_ = 4 ∧ T = [(0, .s (.ptr 0 0 0)), (2, .s (.int .i64 ((0 : Nat) : Int)))] ∧ H = [BKb 4 (.gro 3 3 4), IB (X0.length + 1) (X0 ++ [77]), IB (X1.length + 1) (X1 ++ [77]), RB (R3 (.slice 1 0 0 X0.length (X0.length + 1)) .nils 1 (R3 (.slice 2 0 0 X1.length (X1.length + 1)) .nils 2 (R3 .nils .nils 3 (R3 .nils .nils 4 []))))]) ∨ (m_ = 3 ∧ T = [(0, .s (.ptr 0 0 0)), (2, .s (.int .i64 ((1 : Nat) : Int)))] ∧ H = [BKb 4 (.gro 3 3 4), IB (X0.length + 1) (List.replicate X0.length 1 ++ [77]), IB (X1.length + 1) (X1 ++ [77]), RB (R3 (.slice 1 0 0 X0.length (X0.length + 1)) .nils 1 (R3 (.slice 2 0 0 X1.length (X1.length + 1)) .nils 2 (R3 .nils .nils 3 (R3 .nils .nils 4 []))))]) ∨ (m_ = 2 ∧ T = [(0, .s (.ptr 0 0 0)), (2, .s (.int .i64 ((2 : Nat) : Int)))] ∧ H = [BKb 4 (.gro 3 3 4), IB (X0.length + 1) (List.replicate X0.length 1 ++ [77]), IB (X1.length + 1) (List.replicate X1.length 2 ++ [77]), RB (R3 (.slice 1 0 0 X0.length (X0.length + 1)) .nils 1 (R3 (.slice 2 0 0 X1.length (X1.length + 1)) .nils 2 (R3 .nils .nils 3 (R3 .nils .nils 4 []))))]) ∨ (m_ = 1 ∧ T = [(0, .s (.ptr 0 0 0)), (2, .s (.int .i64 ((3 : Nat) : Int)))] ∧ H = [BKb 4 (.gro 3 3 4), IB (X0.length + 1) (List.replicate X0.length 1 ++ [77]), IB (X1.length + 1) (List.replicate X1.length 2 ++ [77]), RB (R3 (.slice 1 0 0 X0.length (X0.length + 1)) .nils 1 (R3 (.slice 2 0 0 X1.length (X1.length + 1)) .nils 2 (R3 .nils .nils 3 (R3 .nils .nils 4 []))))]) ∨ (m_ = 0 ∧ T = [(0, .s (.ptr 0 0 0)), (2, .s (.int .i64 ((4 : Nat) : Int)))] ∧ H = [BKb 4 (.gro 3 3 4), IB (X0.length + 1) (List.replicate X0.length 1 ++ [77]), IB (X1.length + 1) (List.replicate X1.length 2 ++ [77]), RB (R3 (.slice 1 0 0 X0.length (X0.length + 1)) .nils 1 (R3 (.slice 2 0 0 X1.length (X1.length + 1)) .nils 2 (R3 .nils .nils 3 (R3 .nils .nils 4 []))))])) (4) (.inl ⟨rfl, rfl, rfl⟩) (wk hE [0, 1, 2, 3]) ?_
 rintro n_ T_ H_ (⟨rfl, rfl, rfl⟩ | ⟨rfl, rfl, rfl⟩ | ⟨rfl, rfl, rfl⟩ | ⟨rfl, rfl, rfl⟩ | ⟨rfl, rfl, rfl⟩)
 · refine w_seq (qz hP hn ?_)
   refine o4 ?_
   refine o3 ?_
   refine s_nil trivial (n_wp ?_)
   refine w_T rfl ?_ 
   refine w_skip (n_wp (w_seq (w_block (qz hP hn ?_))))
   refine o3 ?_
   refine o2 ?_
   refine s_op (k_ixG 0 0) ?_
   refine s_op (k_ld (h := by exact a_load_agg (sub := (R3 (.slice 1 0 0 X0.length (X0.length + 1)) .nils 1 [])) (r := (R3 (.slice 1 0 0 X0.length (X0.length + 1)) .nils 1 (R3 (.slice 2 0 0 X1.length (X1.length + 1)) .nils 2 (R3 .nils .nils 3 (R3 .nils .nils 4 []))))) rfl rfl (by kernel_rfl) (by kernel_rfl))) ?_
   refine s_op k_al ?_
   refine s_st (k_st (h := by exact a_store_agg rfl rfl rfl (put_w (by kernel_rfl)) (by exact Nat.le_of_ble_eq_true rfl) (by kernel_rfl) (by repeat (first | exact hset_0 | apply hset_s)))) ?_
   refine qx hP hn ?_
   refine s_op k_as ?_
   refine s_nil trivial (n_wp (w_block ?_))
   refine c_loop (fun m_ T H => ∃ k, k ≤ X0.length ∧ m_ = X0.length - k ∧ T = [(0, .s (.ptr 0 0 0)), (2, .s (.int .i64 ((0 : Nat) : Int))), (3, .s (.ptr 4 0 0)), (4, .s (.int .i64 ((k : Nat) : Int)))] ∧ H = [BKb 4 (.gro 3 3 4), IB (X0.length + 1) (fillT (X0 ++ [77]) 1 k), IB (X1.length + 1) (X1 ++ [77]), RB (R3 (.slice 1 0 0 X0.length (X0.length + 1)) .nils 1 (R3 (.slice 2 0 0 X1.length (X1.length + 1)) .nils 2 (R3 .nils .nils 3 (R3 .nils .nils 4 [])))), RB (R3 (.slice 1 0 0 X0.length (X0.length + 1)) .nils 1 [])]) (X0.length) ⟨0, by omega, rfl, rfl, rfl⟩ (wk hE [0, 1, 2, 3, 4]) ?_
   rintro n_ T_ H_ ⟨k, hk, rfl, rfl, rfl⟩
   have hfl := fillT_len (X0 ++ [77]) 1 k
   have hal : (X0 ++ [77]).length = X0.length + 1 := by simp
   refine w_seq (qz hP hn ?_)
   refine o3 ?_
   refine o2 ?_
   refine s_nil trivial (n_wp ?_)
   refine w_if rfl (fun h_t25 => ?_) (fun h_t25 => ?_)
   · refine w_skip (n_wp (w_seq (w_block ?_)))
     refine g_any hP hn ?_
     refine o3 ?_
     refine o2 ?_
     refine s_op (k_call [] (con := mark_c 1 (by decide))) ?_
     refine s_op k_ix ?_
     refine s_st k_st ?_
     refine s_nil (by kernel_rfl) ?_
     refine n_blo (n_wp (g_reg hP hn ?_))
     refine o3 ?_
     refine s_nil trivial ?_
     exact n_round (X0.length - (k + 1)) (by omega) ⟨k + 1, by omega, rfl, rfl, rfl⟩ (wk hE [0, 1, 2, 3, 4])
   · obtain rfl : k = X0.length := by omega
     rw [fillT_a]
     refine w_exit (x_thn (x_thn (x_eq (n_blo (n_wp (g_reg hP hn ?_))))))
     refine o3 ?_
     refine s_nil trivial ?_
     exact n_round 3 (by omega) (.inr (.inl ⟨rfl, rfl, rfl⟩)) (wk hE [0, 1, 2, 3])
 · refine w_seq (qz hP hn ?_)
   refine o4 ?_
   refine o3 ?_
   refine s_nil trivial (n_wp ?_)
   refine w_T rfl ?_ 
   refine w_skip (n_wp (w_seq (w_block (qz hP hn ?_))))
   refine o3 ?_
   refine o2 ?_
   refine s_op (k_ixG 3 1) ?_
   refine s_op (k_ld (h := by exact a_load_agg (sub := (R3 (.slice 2 0 0 X1.length (X1.length + 1)) .nils 2 [])) (r := (R3 (.slice 2 0 0 X1.length (X1.length + 1)) .nils 2 (R3 .nils .nils 3 (R3 .nils .nils 4 [])))) rfl rfl (by kernel_rfl) (by kernel_rfl))) ?_
   refine s_op k_al ?_
   refine s_st (k_st (h := by exact a_store_agg rfl rfl rfl (put_w (by kernel_rfl)) (by exact Nat.le_of_ble_eq_true rfl) (by kernel_rfl) (by repeat (first | exact hset_0 | apply hset_s)))) ?_
   refine qx hP hn ?_
   refine s_op k_as ?_
   refine s_nil trivial (n_wp (w_block ?_))
   refine c_loop (fun m_ T H => ∃ k, k ≤ X1.length ∧ m_ = X1.length - k ∧ T = [(0, .s (.ptr 0 0 0)), (2, .s (.int .i64 ((1 : Nat) : Int))), (3, .s (.ptr 4 0 0)), (4, .s (.int .i64 ((k : Nat) : Int)))] ∧ H = [BKb 4 (.gro 3 3 4), IB (X0.length + 1) (List.replicate X0.length 1 ++ [77]), IB (X1.length + 1) (fillT (X1 ++ [77]) 2 k), RB (R3 (.slice 1 0 0 X0.length (X0.length + 1)) .nils 1 (R3 (.slice 2 0 0 X1.length (X1.length + 1)) .nils 2 (R3 .nils .nils 3 (R3 .nils .nils 4 [])))), RB (R3 (.slice 2 0 0 X1.length (X1.length + 1)) .nils 2 [])]) (X1.length) ⟨0, by omega, rfl, rfl, rfl⟩ (wk hE [0, 1, 2, 3, 4]) ?_
   rintro n_ T_ H_ ⟨k, hk, rfl, rfl, rfl⟩
   have hfl := fillT_len (X1 ++ [77]) 2 k
   have hal : (X1 ++ [77]).length = X1.length + 1 := by simp
   refine w_seq (qz hP hn ?_)
   refine o3 ?_
   refine o2 ?_
   refine s_nil trivial (n_wp ?_)
   refine w_if rfl (fun h_t25 => ?_) (fun h_t25 => ?_)
   · refine w_skip (n_wp (w_seq (w_block ?_)))
     refine g_any hP hn ?_
     refine o3 ?_
     refine o2 ?_
     refine s_op (k_call [] (con := mark_c 2 (by decide))) ?_
     refine s_op k_ix ?_
     refine s_st k_st ?_
     refine s_nil (by kernel_rfl) ?_
     refine n_blo (n_wp (g_reg hP hn ?_))
     refine o3 ?_
     refine s_nil trivial ?_
     exact n_round (X1.length - (k + 1)) (by omega) ⟨k + 1, by omega, rfl, rfl, rfl⟩ (wk hE [0, 1, 2, 3, 4])
   · obtain rfl : k = X1.length := by omega
     rw [fillT_a]
     refine w_exit (x_thn (x_thn (x_eq (n_blo (n_wp (g_reg hP hn ?_))))))
     refine o3 ?_
     refine s_nil trivial ?_
     exact n_round 2 (by omega) (.inr (.inr (.inl ⟨rfl, rfl, rfl⟩))) (wk hE [0, 1, 2, 3])
 · refine w_seq (qz hP hn ?_)
   refine o4 ?_
   refine o3 ?_
   refine s_nil trivial (n_wp ?_)
   refine w_T rfl ?_ 
   refine w_skip (n_wp (w_seq (w_block (qz hP hn ?_))))
   refine o3 ?_
   refine o2 ?_
   refine s_op (k_ixG 6 2) ?_
   refine s_op (k_ld (h := by exact a_load_agg (sub := (R3 .nils .nils 3 [])) (r := (R3 .nils .nils 3 (R3 .nils .nils 4 []))) rfl rfl (by kernel_rfl) (by kernel_rfl))) ?_
   refine s_op k_al ?_
   refine s_st (k_st (h := by exact a_store_agg rfl rfl rfl (put_w (by kernel_rfl)) (by exact Nat.le_of_ble_eq_true rfl) (by kernel_rfl) (by repeat (first | exact hset_0 | apply hset_s)))) ?_
   refine qx hP hn ?_
   refine s_op k_as ?_
   refine s_nil trivial (n_wp (w_block ?_))
   refine c_loop (fun m_ T H => m_ = 0 ∧ T = [(0, .s (.ptr 0 0 0)), (2, .s (.int .i64 ((2 : Nat) : Int))), (3, .s (.ptr 4 0 0)), (4, .s (.int .i64 ((0 : Nat) : Int)))] ∧ H = [BKb 4 (.gro 3 3 4), IB (X0.length + 1) (List.replicate X0.length 1 ++ [77]), IB (X1.length + 1) (List.replicate X1.length 2 ++ [77]), RB (R3 (.slice 1 0 0 X0.length (X0.length + 1)) .nils 1 (R3 (.slice 2 0 0 X1.length (X1.length + 1)) .nils 2 (R3 .nils .nils 3 (R3 .nils .nils 4 [])))), RB (R3 .nils .nils 3 [])]) (0) ⟨rfl, rfl, rfl⟩ (wk hE [0, 1, 2, 3, 4]) ?_
   rintro n_ T_ H_ ⟨rfl, rfl, rfl⟩
   refine w_seq (qz hP hn ?_)
   refine o3 ?_
   refine o2 ?_
   refine s_nil trivial (n_wp ?_)
   refine w_F rfl ?_ 
   refine w_exit (x_thn (x_thn (x_eq (n_blo (n_wp (g_reg hP hn ?_))))))
   refine o3 ?_
   refine s_nil trivial ?_
   exact n_round 1 (by omega) (.inr (.inr (.inr (.inl ⟨rfl, rfl, rfl⟩)))) (wk hE [0, 1, 2, 3])
 · refine w_seq (qz hP hn ?_)
   refine o4 ?_
   refine o3 ?_
   refine s_nil trivial (n_wp ?_)
   refine w_T rfl ?_ 
   refine w_skip (n_wp (w_seq (w_block (qz hP hn ?_))))
   refine o3 ?_
   refine o2 ?_
   refine s_op (k_ixG 9 3) ?_
   refine s_op (k_ld (h := by exact a_load_agg (sub := (R3 .nils .nils 4 [])) (r := (R3 .nils .nils 4 [])) rfl rfl (by kernel_rfl) (by kernel_rfl))) ?_
   refine s_op k_al ?_
   refine s_st (k_st (h := by exact a_store_agg rfl rfl rfl (put_w (by kernel_rfl)) (by exact Nat.le_of_ble_eq_true rfl) (by kernel_rfl) (by repeat (first | exact hset_0 | apply hset_s)))) ?_
   refine qx hP hn ?_
   refine s_op k_as ?_
   refine s_nil trivial (n_wp (w_block ?_))
   refine c_loop (fun m_ T H => m_ = 0 ∧ T = [(0, .s (.ptr 0 0 0)), (2, .s (.int .i64 ((3 : Nat) : Int))), (3, .s (.ptr 4 0 0)), (4, .s (.int .i64 ((0 : Nat) : Int)))] ∧ H = [BKb 4 (.gro 3 3 4), IB (X0.length + 1) (List.replicate X0.length 1 ++ [77]), IB (X1.length + 1) (List.replicate X1.length 2 ++ [77]), RB (R3 (.slice 1 0 0 X0.length (X0.length + 1)) .nils 1 (R3 (.slice 2 0 0 X1.length (X1.length + 1)) .nils 2 (R3 .nils .nils 3 (R3 .nils .nils 4 [])))), RB (R3 .nils .nils 4 [])]) (0) ⟨rfl, rfl, rfl⟩ (wk hE [0, 1, 2, 3, 4]) ?_
   rintro n_ T_ H_ ⟨rfl, rfl, rfl⟩
   refine w_seq (qz hP hn ?_)
   refine o3 ?_
   refine o2 ?_
   refine s_nil trivial (n_wp ?_)
   refine w_F rfl ?_ 
   refine w_exit (x_thn (x_thn (x_eq (n_blo (n_wp (g_reg hP hn ?_))))))
   refine o3 ?_
   refine s_nil trivial ?_
   exact n_round 0 (by omega) (.inr (.inr (.inr (.inr (⟨rfl, rfl, rfl⟩))))) (wk hE [0, 1, 2, 3])
 · refine w_seq (qz hP hn ?_)
   refine o4 ?_
   refine o3 ?_
   refine s_nil trivial (n_wp ?_)
   refine w_F rfl ?_ 
   refine w_exit (x_thn (x_thn (x_eq ?_)))
   exact d_ret hP hn hE [0, 1, 2, 3] (ret_none Tryz.results48)

theorem grow_AACC (X0 : List Int) (hX0 : X0.length ≤ 100000) (X1 : List Int) (hX1 : X1.length ≤ 100000) : Con Tryz.prog 63 [.s (.ptr 0 0 0)] [BKb 4 (.gro 3 3 4), IB (X0.length + 1) (List.replicate X0.length 1 ++ [77]), IB (X1.length + 1) (List.replicate X1.length 2 ++ [77]), RB (R3 (.slice 1 0 0 X0.length (X0.length + 1)) .nils 1 (R3 (.slice 2 0 0 X1.length (X1.length + 1)) .nils 2 (R3 .nils .nils 3 (R3 .nils .nils 4 []))))] (.tup []) [BKb 4 (.gro 3 3 4), IB (X0.length + 1) (List.replicate (X0.length + 1) 1), IB (X1.length + 1) (List.replicate (X1.length + 1) 2), RB (R3 (.slice 1 0 0 X0.length (X0.length + 1)) (.gro 4 1 (X0.length + 40)) 1 (R3 (.slice 2 0 0 X1.length (X1.length + 1)) (.gro 5 1 (X1.length + 40)) 2 (R3 .nils (.gro 6 1 (0 + 40)) 3 (R3 .nils (.gro 7 1 (0 + 40)) 4 [])))), IB (X0.length + 40) (List.replicate (X0.length + 40) 1), IB (X1.length + 40) (List.replicate (X1.length + 40) 2), IB (0 + 40) (List.replicate (0 + 40) 3), IB (0 + 40) (List.replicate (0 + 40) 4)] := by
 refine con_in 42 Tryz.func63 rfl rfl (m := 4) rfl ?_
 intro E hP hn hE
 refine qz hP hn ?_
 refine s_op k_as ?_
 refine s_nil trivial (n_wp (w_block ?_))
 refine c_loop (fun m_ T H => (m_ = 4 ∧ T = [(0, .s (.ptr 0 0 0)), (2, .s (.int .i64 ((0 : Nat) : Int)))] ∧ H = [BKb 4 (.gro 3 3 4), IB (X0.length + 1) (List.replicate X0.length 1 ++ [77]), IB (X1.length + 1) (List.replicate X1.length 2 ++ [77]), RB (R3 (.slice 1 0 0 X0.length (X0.length + 1)) .nils 1 (R3 (.slice 2 0 0 X1.length (X1.length + 1)) .nils 2 (R3 .nils .nils 3 (R3 .nils .nils 4 []))))]) ∨ (m_ = 3 ∧ T = [(0, .s (.ptr 0 0 0)), (2, .s (.int .i64 ((1 : Nat) : Int)))] ∧ H = [BKb 4 (.gro 3 3 4), IB (X0.length + 1) (List.replicate (X0.length + 1) 1), IB (X1.length + 1) (List.replicate X1.length 2 ++ [77]), RB (R3 (.slice 1 0 0 X0.length (X0.length + 1)) (.gro 4 1 (X0.length + 40)) 1 (R3 (.slice 2 0 0 X1.length (X1.length + 1)) .nils 2 (R3 .nils .nils 3 (R3 .nils .nils 4 [])))), IB (X0.length + 40) (List.replicate (X0.length + 40) 1)]) ∨ (m_ = 2 ∧ T = [(0, .s (.ptr 0 0 0)), (2, .s (.int .i64 ((2 : Nat) : Int)))] ∧ H = [BKb 4 (.gro 3 3 4), IB (X0.length + 1) (List.replicate (X0.length + 1) 1), IB (X1.length + 1) (List.replicate (X1.length + 1) 2), RB (R3 (.slice 1 0 0 X0.length (X0.length + 1)) (.gro 4 1 (X0.length + 40)) 1 (R3 (.slice 2 0 0 X1.length (X1.length + 1)) (.gro 5 1 (X1.length + 40)) 2 (R3 .nils .nils 3 (R3 .nils .nils 4 [])))), IB (X0.length + 40) (List.replicate (X0.length + 40) 1), IB (X1.length + 40) (List.replicate (X1.length + 40) 2)]) ∨ (m_ = 1 ∧ T = [(0, .s (.ptr 0 0 0)), (2, .s (.int .i64 ((3 : Nat) : Int)))] ∧ H = [BKb 4 (.gro 3 3 4), IB (X0.length + 1) (List.replicate (X0.length + 1) 1), IB (X1.length + 1) (List.replicate (X1.length + 1) 2), RB (R3 (.slice 1 0 0 X0.length (X0.length + 1)) (.gro 4 1 (X0.length + 40)) 1 (R3 (.slice 2 0 0 X1.length (X1.length + 1)) (.gro 5 1 (X1.length + 40)) 2 (R3 .nils (.gro 6 1 (0 + 40)) 3 (R3 .nils .nils 4 [])))), IB (X0.length + 40) (List.replicate (X0.length + 40) 1), IB (X1.length + 40) (List.replicate (X1.length + 40) 2), IB (0 + 40) (List.replicate (0 + 40) 3)]) ∨ (m_ = 0 ∧ T = [(0, .s (.ptr 0 0 0)), (2, .s (.int .i64 ((4 : Nat) : Int)))] ∧ H = [BKb 4 (.gro 3 3 4), IB (X0.length + 1) (List.replicate (X0.length + 1) 1), IB (X1.length + 1) (List.replicate (X1.length + 1) 2), RB (R3 (.slice 1 0 0 X0.length (X0.length + 1)) (.gro 4 1 (X0.length + 40)) 1 (R3 (.slice 2 0 0 X1.length (X1.length + 1)) (.gro 5 1 (X1.length + 40)) 2 (R3 .nils (.gro 6 1 (0 + 40)) 3 (R3 .nils (.gro 7 1 (0 + 40)) 4 [])))), IB (X0.length + 40) (List.replicate (X0.length + 40) 1), IB (X1.length + 40) (List.replicate (X1.length + 40) 2), IB (0 + 40) (List.replicate (0 + 40) 3), IB (0 + 40) (List.replicate (0 + 40) 4)])) (4) (.inl ⟨rfl, rfl, rfl⟩) (wk hE [0, 1, 2, 3]) ?_
 rintro n_ T_ H_ (⟨rfl, rfl, rfl⟩ | ⟨rfl, rfl, rfl⟩ | ⟨rfl, rfl, rfl⟩ | ⟨rfl, rfl, rfl⟩ | ⟨rfl, rfl, rfl⟩)
 · refine w_seq (qz hP hn ?_)
   refine o4 ?_
   refine o3 ?_
   refine s_nil trivial (n_wp ?_)
   refine w_T rfl ?_ 
   refine w_skip (n_wp (w_seq (w_block (qz hP hn ?_))))
   refine o3 ?_
   refine o2 ?_
   refine s_op (k_ixG 0 0) ?_
   refine s_op (k_ld (h := by exact a_load_agg (sub := (R3 (.slice 1 0 0 X0.length (X0.length + 1)) .nils 1 [])) (r := (R3 (.slice 1 0 0 X0.length (X0.length + 1)) .nils 1 (R3 (.slice 2 0 0 X1.length (X1.length + 1)) .nils 2 (R3 .nils .nils 3 (R3 .nils .nils 4 []))))) rfl rfl (by kernel_rfl) (by kernel_rfl))) ?_
   refine s_op k_al ?_
   refine s_st (k_st (h := by exact a_store_agg rfl rfl rfl (put_w (by kernel_rfl)) (by exact Nat.le_of_ble_eq_true rfl) (by kernel_rfl) (by repeat (first | exact hset_0 | apply hset_s)))) ?_
   refine qx hP hn ?_
   refine o3 ?_
   refine s_nil trivial (n_wp (w_seq (qz hP hn ?_)))
   refine s_op k_as ?_
   refine s_nil trivial (n_wp (w_block ?_))
   refine c_loop (fun m_ T H => (m_ = 40 ∧ T = [(0, .s (.ptr 0 0 0)), (2, .s (.int .i64 ((0 : Nat) : Int))), (3, .s (.ptr 4 0 0)), (4, .s (.slice 1 0 0 X0.length (X0.length + 1))), (5, .s (.int .i64 ((0 : Nat) : Int)))] ∧ H = [BKb 4 (.gro 3 3 4), IB (X0.length + 1) (List.replicate X0.length 1 ++ [77]), IB (X1.length + 1) (List.replicate X1.length 2 ++ [77]), RB (R3 (.slice 1 0 0 X0.length (X0.length + 1)) .nils 1 (R3 (.slice 2 0 0 X1.length (X1.length + 1)) .nils 2 (R3 .nils .nils 3 (R3 .nils .nils 4 [])))), RB (R3 (.slice 1 0 0 X0.length (X0.length + 1)) .nils 1 [])]) ∨ (m_ = 39 ∧ T = [(0, .s (.ptr 0 0 0)), (2, .s (.int .i64 ((0 : Nat) : Int))), (3, .s (.ptr 4 0 0)), (4, .s (.slice 1 0 0 (X0.length + 1) (X0.length + 1))), (5, .s (.int .i64 ((1 : Nat) : Int)))] ∧ H = [BKb 4 (.gro 3 3 4), IB (X0.length + 1) (List.replicate (X0.length + 1) 1), IB (X1.length + 1) (List.replicate X1.length 2 ++ [77]), RB (R3 (.slice 1 0 0 X0.length (X0.length + 1)) .nils 1 (R3 (.slice 2 0 0 X1.length (X1.length + 1)) .nils 2 (R3 .nils .nils 3 (R3 .nils .nils 4 [])))), RB (R3 (.slice 1 0 0 X0.length (X0.length + 1)) .nils 1 [])]) ∨ (∃ k, 2 ≤ k ∧ k ≤ 40 ∧ m_ = 40 - k ∧ T = [(0, .s (.ptr 0 0 0)), (2, .s (.int .i64 ((0 : Nat) : Int))), (3, .s (.ptr 4 0 0)), (4, .s (.gro 5 1 (X0.length + k))), (5, .s (.int .i64 ((k : Nat) : Int)))] ∧ H = [BKb 4 (.gro 3 3 4), IB (X0.length + 1) (List.replicate (X0.length + 1) 1), IB (X1.length + 1) (List.replicate X1.length 2 ++ [77]), RB (R3 (.slice 1 0 0 X0.length (X0.length + 1)) .nils 1 (R3 (.slice 2 0 0 X1.length (X1.length + 1)) .nils 2 (R3 .nils .nils 3 (R3 .nils .nils 4 [])))), RB (R3 (.slice 1 0 0 X0.length (X0.length + 1)) .nils 1 []), IB (X0.length + k) (List.replicate (X0.length + k) 1)])) (40) (.inl ⟨rfl, rfl, rfl⟩) (wk hE [0, 1, 2, 3, 4]) ?_
   rintro n_ T_ H_ (⟨rfl, rfl, rfl⟩ | ⟨rfl, rfl, rfl⟩ | ⟨k, hk1, hk2, rfl, rfl, rfl⟩)
   · refine w_seq (qz hP hn ?_)
     refine o2 ?_
     refine s_nil trivial (n_wp ?_)
     refine w_T rfl ?_ 
     refine w_skip (n_wp (w_seq (w_block (g_reg hP hn ?_))))
     refine o3 ?_
     refine s_op (k_call [] (con := mark_c 1 (by decide))) ?_
     refine s_op k_bsf ?_
     refine s_op (k_apj (List.replicate (X0.length + 1) 1) (hl' := rep_j _ _)) ?_
     refine s_op k_as ?_
     refine s_nil trivial (n_blo (n_wp (g_reg hP hn ?_)))
     refine o3 ?_
     refine s_nil trivial ?_
     exact n_round 39 (by omega) (.inr (.inl ⟨rfl, rfl, rfl⟩)) (wk hE [0, 1, 2, 3, 4])
   · refine w_seq (qz hP hn ?_)
     refine o2 ?_
     refine s_nil trivial (n_wp ?_)
     refine w_T rfl ?_ 
     refine w_skip (n_wp (w_seq (w_block (g_reg hP hn ?_))))
     refine o3 ?_
     refine s_op (k_call [] (con := mark_c 1 (by decide))) ?_
     refine s_op k_bsf ?_
     refine s_op (k_apf (c := X0.length + 2) (l' := List.replicate (X0.length + 2) 1) (hl' := rep_s _ _) (h0 := by exact Nat.zero_lt_one) (hbig := by show X0.length + 1 + 1 ≤ 1000000; omega)) ?_
     refine s_op k_as ?_
     refine s_nil trivial (n_blo (n_wp (g_reg hP hn ?_)))
     refine o3 ?_
     refine s_nil trivial ?_
     exact n_round 38 (by omega) (.inr (.inr ⟨2, by omega, by omega, rfl, rfl, rfl⟩)) (wk hE [0, 1, 2, 3, 4, 6])
   · refine w_seq (qz hP hn ?_)
     refine o2 ?_
     refine s_nil trivial (n_wp ?_)
     refine w_if rfl (fun h_t25 => ?_) (fun h_t25 => ?_)
     · refine w_skip (n_wp (w_seq (w_block (g_reg hP hn ?_))))
       refine o3 ?_
       refine s_op (k_call [] (con := mark_c 1 (by decide))) ?_
       refine s_op k_bsf ?_
       refine s_op (k_apg (c := X0.length + (k + 1)) (l' := List.replicate (X0.length + (k + 1)) 1) (hl' := rep_t _ _) (hq := by exact Nat.le_refl _) (hbig := by show X0.length + k + 1 ≤ 1000000; omega)) ?_
       refine s_op k_as ?_
       refine s_nil trivial (n_blo (n_wp (g_reg hP hn ?_)))
       refine o3 ?_
       refine s_nil trivial ?_
       exact n_round (40 - (k + 1)) (by omega) (.inr (.inr ⟨k + 1, by omega, by omega, rfl, rfl, rfl⟩)) (wk hE [0, 1, 2, 3, 4, 7])
     · obtain rfl : k = 40 := by omega
       refine w_exit (x_thn (x_thn (x_eq (n_wp (g_reg hP hn ?_)))))
       refine o4 ?_
       refine o2 ?_
       refine s_op (k_ixG 0 0) ?_
       refine s_op k_fa ?_
       refine s_st (k_st (h := by exact a_store_one rfl rfl SV.noConfusion rfl rfl (hset_seg (by repeat (first | apply sset_s _ rfl rfl | exact sset_0)) (by repeat (first | exact hset_0 | apply hset_s))))) ?_
       refine s_nil trivial (n_blo (n_wp (g_reg hP hn ?_)))
       refine o3 ?_
       refine s_nil trivial ?_
       exact n_round 3 (by omega) (.inr (.inl ⟨rfl, rfl, rfl⟩)) (wk hE [0, 1, 2, 3, 5])
 · refine w_seq (qz hP hn ?_)
   refine o4 ?_
   refine o3 ?_
   refine s_nil trivial (n_wp ?_)
   refine w_T rfl ?_ 
   refine w_skip (n_wp (w_seq (w_block (qz hP hn ?_))))
   refine o3 ?_
   refine o2 ?_
   refine s_op (k_ixG 3 1) ?_
   refine s_op (k_ld (h := by exact a_load_agg (sub := (R3 (.slice 2 0 0 X1.length (X1.length + 1)) .nils 2 [])) (r := (R3 (.slice 2 0 0 X1.length (X1.length + 1)) .nils 2 (R3 .nils .nils 3 (R3 .nils .nils 4 [])))) rfl rfl (by kernel_rfl) (by kernel_rfl))) ?_
   refine s_op k_al ?_
   refine s_st (k_st (h := by exact a_store_agg rfl rfl rfl (put_w (by kernel_rfl)) (by exact Nat.le_of_ble_eq_true rfl) (by kernel_rfl) (by repeat (first | exact hset_0 | apply hset_s)))) ?_
   refine qx hP hn ?_
   refine o3 ?_
   refine s_nil trivial (n_wp (w_seq (qz hP hn ?_)))
   refine s_op k_as ?_
   refine s_nil trivial (n_wp (w_block ?_))
   refine c_loop (fun m_ T H => (m_ = 40 ∧ T = [(0, .s (.ptr 0 0 0)), (2, .s (.int .i64 ((1 : Nat) : Int))), (3, .s (.ptr 5 0 0)), (4, .s (.slice 2 0 0 X1.length (X1.length + 1))), (5, .s (.int .i64 ((0 : Nat) : Int)))] ∧ H = [BKb 4 (.gro 3 3 4), IB (X0.length + 1) (List.replicate (X0.length + 1) 1), IB (X1.length + 1) (List.replicate X1.length 2 ++ [77]), RB (R3 (.slice 1 0 0 X0.length (X0.length + 1)) (.gro 4 1 (X0.length + 40)) 1 (R3 (.slice 2 0 0 X1.length (X1.length + 1)) .nils 2 (R3 .nils .nils 3 (R3 .nils .nils 4 [])))), IB (X0.length + 40) (List.replicate (X0.length + 40) 1), RB (R3 (.slice 2 0 0 X1.length (X1.length + 1)) .nils 2 [])]) ∨ (m_ = 39 ∧ T = [(0, .s (.ptr 0 0 0)), (2, .s (.int .i64 ((1 : Nat) : Int))), (3, .s (.ptr 5 0 0)), (4, .s (.slice 2 0 0 (X1.length + 1) (X1.length + 1))), (5, .s (.int .i64 ((1 : Nat) : Int)))] ∧ H = [BKb 4 (.gro 3 3 4), IB (X0.length + 1) (List.replicate (X0.length + 1) 1), IB (X1.length + 1) (List.replicate (X1.length + 1) 2), RB (R3 (.slice 1 0 0 X0.length (X0.length + 1)) (.gro 4 1 (X0.length + 40)) 1 (R3 (.slice 2 0 0 X1.length (X1.length + 1)) .nils 2 (R3 .nils .nils 3 (R3 .nils .nils 4 [])))), IB (X0.length + 40) (List.replicate (X0.length + 40) 1), RB (R3 (.slice 2 0 0 X1.length (X1.length + 1)) .nils 2 [])]) ∨ (∃ k, 2 ≤ k ∧ k ≤ 40 ∧ m_ = 40 - k ∧ T = [(0, .s (.ptr 0 0 0)), (2, .s (.int .i64 ((1 : Nat) : Int))), (3, .s (.ptr 5 0 0)), (4, .s (.gro 6 1 (X1.length + k))), (5, .s (.int .i64 ((k : Nat) : Int)))] ∧ H = [BKb 4 (.gro 3 3 4), IB (X0.length + 1) (List.replicate (X0.length + 1) 1), IB (X1.length + 1) (List.replicate (X1.length + 1) 2), RB (R3 (.slice 1 0 0 X0.length (X0.length + 1)) (.gro 4 1 (X0.length + 40)) 1 (R3 (.slice 2 0 0 X1.length (X1.length + 1)) .nils 2 (R3 .nils .nils 3 (R3 .nils .nils 4 [])))), IB (X0.length + 40) (List.replicate (X0.length + 40) 1), RB (R3 (.slice 2 0 0 X1.length (X1.length + 1)) .nils 2 []), IB (X1.length + k) (List.replicate (X1.length + k) 2)])) (40) (.inl ⟨rfl, rfl, rfl⟩) (wk hE [0, 1, 2, 3, 4, 5]) ?_
   rintro n_ T_ H_ (⟨rfl, rfl, rfl⟩ | ⟨rfl, rfl, rfl⟩ | ⟨k, hk1, hk2, rfl, rfl, rfl⟩)
   · refine w_seq (qz hP hn ?_)
     refine o2 ?_
     refine s_nil trivial (n_wp ?_)
     refine w_T rfl ?_ 
     refine w_skip (n_wp (w_seq (w_block (g_reg hP hn ?_))))
     refine o3 ?_
     refine s_op (k_call [] (con := mark_c 2 (by decide))) ?_
     refine s_op k_bsf ?_
     refine s_op (k_apj (List.replicate (X1.length + 1) 2) (hl' := rep_j _ _)) ?_
     refine s_op k_as ?_
     refine s_nil trivial (n_blo (n_wp (g_reg hP hn ?_)))
     refine o3 ?_
     refine s_nil trivial ?_
     exact n_round 39 (by omega) (.inr (.inl ⟨rfl, rfl, rfl⟩)) (wk hE [0, 1, 2, 3, 4, 5])
   · refine w_seq (qz hP hn ?_)
     refine o2 ?_
     refine s_nil trivial (n_wp ?_)
     refine w_T rfl ?_ 
     refine w_skip (n_wp (w_seq (w_block (g_reg hP hn ?_))))
     refine o3 ?_
     refine s_op (k_call [] (con := mark_c 2 (by decide))) ?_
     refine s_op k_bsf ?_
     refine s_op (k_apf (c := X1.length + 2) (l' := List.replicate (X1.length + 2) 2) (hl' := rep_s _ _) (h0 := by exact Nat.zero_lt_one) (hbig := by show X1.length + 1 + 1 ≤ 1000000; omega)) ?_
     refine s_op k_as ?_
     refine s_nil trivial (n_blo (n_wp (g_reg hP hn ?_)))
     refine o3 ?_
     refine s_nil trivial ?_
     exact n_round 38 (by omega) (.inr (.inr ⟨2, by omega, by omega, rfl, rfl, rfl⟩)) (wk hE [0, 1, 2, 3, 4, 5, 7])
   · refine w_seq (qz hP hn ?_)
     refine o2 ?_
     refine s_nil trivial (n_wp ?_)
     refine w_if rfl (fun h_t25 => ?_) (fun h_t25 => ?_)
     · refine w_skip (n_wp (w_seq (w_block (g_reg hP hn ?_))))
       refine o3 ?_
       refine s_op (k_call [] (con := mark_c 2 (by decide))) ?_
       refine s_op k_bsf ?_
       refine s_op (k_apg (c := X1.length + (k + 1)) (l' := List.replicate (X1.length + (k + 1)) 2) (hl' := rep_t _ _) (hq := by exact Nat.le_refl _) (hbig := by show X1.length + k + 1 ≤ 1000000; omega)) ?_
       refine s_op k_as ?_
       refine s_nil trivial (n_blo (n_wp (g_reg hP hn ?_)))
       refine o3 ?_
       refine s_nil trivial ?_
       exact n_round (40 - (k + 1)) (by omega) (.inr (.inr ⟨k + 1, by omega, by omega, rfl, rfl, rfl⟩)) (wk hE [0, 1, 2, 3, 4, 5, 8])
     · obtain rfl : k = 40 := by omega
       refine w_exit (x_thn (x_thn (x_eq (n_wp (g_reg hP hn ?_)))))
       refine o4 ?_
       refine o2 ?_
       refine s_op (k_ixG 3 1) ?_
       refine s_op k_fa ?_
       refine s_st (k_st (h := by exact a_store_one rfl rfl SV.noConfusion rfl rfl (hset_seg (by repeat (first | apply sset_s _ rfl rfl | exact sset_0)) (by repeat (first | exact hset_0 | apply hset_s))))) ?_
       refine s_nil trivial (n_blo (n_wp (g_reg hP hn ?_)))
       refine o3 ?_
       refine s_nil trivial ?_
       exact n_round 2 (by omega) (.inr (.inr (.inl ⟨rfl, rfl, rfl⟩))) (wk hE [0, 1, 2, 3, 4, 6])
 · refine w_seq (qz hP hn ?_)
   refine o4 ?_
   refine o3 ?_
   refine s_nil trivial (n_wp ?_)
   refine w_T rfl ?_ 
   refine w_skip (n_wp (w_seq (w_block (qz hP hn ?_))))
   refine o3 ?_
   refine o2 ?_
   refine s_op (k_ixG 6 2) ?_
   refine s_op (k_ld (h := by exact a_load_agg (sub := (R3 .nils .nils 3 [])) (r := (R3 .nils .nils 3 (R3 .nils .nils 4 []))) rfl rfl (by kernel_rfl) (by kernel_rfl))) ?_
   refine s_op k_al ?_
   refine s_st (k_st (h := by exact a_store_agg rfl rfl rfl (put_w (by kernel_rfl)) (by exact Nat.le_of_ble_eq_true rfl) (by kernel_rfl) (by repeat (first | exact hset_0 | apply hset_s)))) ?_
   refine qx hP hn ?_
   refine o3 ?_
   refine s_nil trivial (n_wp (w_seq (w_seq ?_)))
   refine w_weak (weak_gro 4 1 7 (segs := [.ints .u8 (0 + 0) (List.replicate (0 + 0) 3)]) rfl rfl rfl) ?_
   refine g_reg hP hn ?_
   refine s_op k_as ?_
   refine s_nil trivial (n_wp (w_block ?_))
   refine c_loop (fun m_ T H => ∃ k, 0 ≤ k ∧ k ≤ 40 ∧ m_ = 40 - k ∧ T = [(0, .s (.ptr 0 0 0)), (2, .s (.int .i64 ((2 : Nat) : Int))), (3, .s (.ptr 6 0 0)), (4, .s (.gro 7 1 (0 + k))), (5, .s (.int .i64 ((k : Nat) : Int)))] ∧ H = [BKb 4 (.gro 3 3 4), IB (X0.length + 1) (List.replicate (X0.length + 1) 1), IB (X1.length + 1) (List.replicate (X1.length + 1) 2), RB (R3 (.slice 1 0 0 X0.length (X0.length + 1)) (.gro 4 1 (X0.length + 40)) 1 (R3 (.slice 2 0 0 X1.length (X1.length + 1)) (.gro 5 1 (X1.length + 40)) 2 (R3 .nils .nils 3 (R3 .nils .nils 4 [])))), IB (X0.length + 40) (List.replicate (X0.length + 40) 1), IB (X1.length + 40) (List.replicate (X1.length + 40) 2), RB (R3 .nils .nils 3 []), IB (0 + k) (List.replicate (0 + k) 3)]) (40) ⟨0, by omega, by omega, rfl, rfl, rfl⟩ (wk hE [0, 1, 2, 3, 4, 5, 6, 7]) ?_
   rintro n_ T_ H_ ⟨k, hk1, hk2, rfl, rfl, rfl⟩
   · refine w_seq (qz hP hn ?_)
     refine o2 ?_
     refine s_nil trivial (n_wp ?_)
     refine w_if rfl (fun h_t25 => ?_) (fun h_t25 => ?_)
     · refine w_skip (n_wp (w_seq (w_block (g_reg hP hn ?_))))
       refine o3 ?_
       refine s_op (k_call [] (con := mark_c 3 (by decide))) ?_
       refine s_op k_bsf ?_
       refine s_op (k_apg (c := 0 + (k + 1)) (l' := List.replicate (0 + (k + 1)) 3) (hl' := rep_t _ _) (hq := by exact Nat.le_refl _) (hbig := by show 0 + k + 1 ≤ 1000000; omega)) ?_
       refine s_op k_as ?_
       refine s_nil trivial (n_blo (n_wp (g_reg hP hn ?_)))
       refine o3 ?_
       refine s_nil trivial ?_
       exact n_round (40 - (k + 1)) (by omega) (⟨k + 1, by omega, by omega, rfl, rfl, rfl⟩) (wk hE [0, 1, 2, 3, 4, 5, 6, 9])
     · obtain rfl : k = 40 := by omega
       refine w_exit (x_thn (x_thn (x_eq (n_wp (g_reg hP hn ?_)))))
       refine o4 ?_
       refine o2 ?_
       refine s_op (k_ixG 6 2) ?_
       refine s_op k_fa ?_
       refine s_st (k_st (h := by exact a_store_one rfl rfl SV.noConfusion rfl rfl (hset_seg (by repeat (first | apply sset_s _ rfl rfl | exact sset_0)) (by repeat (first | exact hset_0 | apply hset_s))))) ?_
       refine s_nil trivial (n_blo (n_wp (g_reg hP hn ?_)))
       refine o3 ?_
       refine s_nil trivial ?_
       exact n_round 1 (by omega) (.inr (.inr (.inr (.inl ⟨rfl, rfl, rfl⟩)))) (wk hE [0, 1, 2, 3, 4, 5, 7])
 · refine w_seq (qz hP hn ?_)
   refine o4 ?_
   refine o3 ?_
   refine s_nil trivial (n_wp ?_)
   refine w_T rfl ?_ 
   refine w_skip (n_wp (w_seq (w_block (qz hP hn ?_))))
   refine o3 ?_
   refine o2 ?_
   refine s_op (k_ixG 9 3) ?_
   refine s_op (k_ld (h := by exact a_load_agg (sub := (R3 .nils .nils 4 [])) (r := (R3 .nils .nils 4 [])) rfl rfl (by kernel_rfl) (by kernel_rfl))) ?_
   refine s_op k_al ?_
   refine s_st (k_st (h := by exact a_store_agg rfl rfl rfl (put_w (by kernel_rfl)) (by exact Nat.le_of_ble_eq_true rfl) (by kernel_rfl) (by repeat (first | exact hset_0 | apply hset_s)))) ?_
   refine qx hP hn ?_
   refine o3 ?_
   refine s_nil trivial (n_wp (w_seq (w_seq ?_)))
   refine w_weak (weak_gro 4 1 8 (segs := [.ints .u8 (0 + 0) (List.replicate (0 + 0) 4)]) rfl rfl rfl) ?_
   refine g_reg hP hn ?_
   refine s_op k_as ?_
   refine s_nil trivial (n_wp (w_block ?_))
   refine c_loop (fun m_ T H => ∃ k, 0 ≤ k ∧ k ≤ 40 ∧ m_ = 40 - k ∧ T = [(0, .s (.ptr 0 0 0)), (2, .s (.int .i64 ((3 : Nat) : Int))), (3, .s (.ptr 7 0 0)), (4, .s (.gro 8 1 (0 + k))), (5, .s (.int .i64 ((k : Nat) : Int)))] ∧ H = [BKb 4 (.gro 3 3 4), IB (X0.length + 1) (List.replicate (X0.length + 1) 1), IB (X1.length + 1) (List.replicate (X1.length + 1) 2), RB (R3 (.slice 1 0 0 X0.length (X0.length + 1)) (.gro 4 1 (X0.length + 40)) 1 (R3 (.slice 2 0 0 X1.length (X1.length + 1)) (.gro 5 1 (X1.length + 40)) 2 (R3 .nils (.gro 6 1 (0 + 40)) 3 (R3 .nils .nils 4 [])))), IB (X0.length + 40) (List.replicate (X0.length + 40) 1), IB (X1.length + 40) (List.replicate (X1.length + 40) 2), IB (0 + 40) (List.replicate (0 + 40) 3), RB (R3 .nils .nils 4 []), IB (0 + k) (List.replicate (0 + k) 4)]) (40) ⟨0, by omega, by omega, rfl, rfl, rfl⟩ (wk hE [0, 1, 2, 3, 4, 5, 6, 7, 8]) ?_
   rintro n_ T_ H_ ⟨k, hk1, hk2, rfl, rfl, rfl⟩
   · refine w_seq (qz hP hn ?_)
     refine o2 ?_
     refine s_nil trivial (n_wp ?_)
     refine w_if rfl (fun h_t25 => ?_) (fun h_t25 => ?_)
     · refine w_skip (n_wp (w_seq (w_block (g_reg hP hn ?_))))
       refine o3 ?_
       refine s_op (k_call [] (con := mark_c 4 (by decide))) ?_
       refine s_op k_bsf ?_
       refine s_op (k_apg (c := 0 + (k + 1)) (l' := List.replicate (0 + (k + 1)) 4) (hl' := rep_t _ _) (hq := by exact Nat.le_refl _) (hbig := by show 0 + k + 1 ≤ 1000000; omega)) ?_
       refine s_op k_as ?_
       refine s_nil trivial (n_blo (n_wp (g_reg hP hn ?_)))
       refine o3 ?_
       refine s_nil trivial ?_
       exact n_round (40 - (k + 1)) (by omega) (⟨k + 1, by omega, by omega, rfl, rfl, rfl⟩) (wk hE [0, 1, 2, 3, 4, 5, 6, 7, 10])
     · obtain rfl : k = 40 := by omega
       refine w_exit (x_thn (x_thn (x_eq (n_wp (g_reg hP hn ?_)))))
       refine o4 ?_
       refine o2 ?_
       refine s_op (k_ixG 9 3) ?_
       refine s_op k_fa ?_
       refine s_st (k_st (h := by exact a_store_one rfl rfl SV.noConfusion rfl rfl (hset_seg (by repeat (first | apply sset_s _ rfl rfl | exact sset_0)) (by repeat (first | exact hset_0 | apply hset_s))))) ?_
       refine s_nil trivial (n_blo (n_wp (g_reg hP hn ?_)))
       refine o3 ?_
       refine s_nil trivial ?_
       exact n_round 0 (by omega) (.inr (.inr (.inr (.inr (⟨rfl, rfl, rfl⟩))))) (wk hE [0, 1, 2, 3, 4, 5, 6, 8])
 · refine w_seq (qz hP hn ?_)
   refine o4 ?_
   refine o3 ?_
   refine s_nil trivial (n_wp ?_)
   refine w_F rfl ?_ 
   refine w_exit (x_thn (x_thn (x_eq ?_)))
   exact d_ret hP hn hE [0, 1, 2, 3, 4, 5, 6, 7] (ret_none Tryz.results63)

theorem look_AACC (X0 : List Int) (hX0 : X0.length ≤ 100000) (X1 : List Int) (hX1 : X1.length ≤ 100000) : Con Tryz.prog 78 [.s (.ptr 0 0 0)] [BKb 4 (.gro 3 3 4), IB (X0.length + 1) (List.replicate (X0.length + 1) 1), IB (X1.length + 1) (List.replicate (X1.length + 1) 2), RB (R3 (.slice 1 0 0 X0.length (X0.length + 1)) (.gro 4 1 (X0.length + 40)) 1 (R3 (.slice 2 0 0 X1.length (X1.length + 1)) (.gro 5 1 (X1.length + 40)) 2 (R3 .nils (.gro 6 1 (0 + 40)) 3 (R3 .nils (.gro 7 1 (0 + 40)) 4 [])))), IB (X0.length + 40) (List.replicate (X0.length + 40) 1), IB (X1.length + 40) (List.replicate (X1.length + 40) 2), IB (0 + 40) (List.replicate (0 + 40) 3), IB (0 + 40) (List.replicate (0 + 40) 4)] (.s (.bool true)) [BKb 4 (.gro 3 3 4), IB (X0.length + 1) (List.replicate (X0.length + 1) 1), IB (X1.length + 1) (List.replicate (X1.length + 1) 2), RB (R3 (.slice 1 0 0 X0.length (X0.length + 1)) (.gro 4 1 (X0.length + 40)) 1 (R3 (.slice 2 0 0 X1.length (X1.length + 1)) (.gro 5 1 (X1.length + 40)) 2 (R3 .nils (.gro 6 1 (0 + 40)) 3 (R3 .nils (.gro 7 1 (0 + 40)) 4 [])))), IB (X0.length + 40) (List.replicate (X0.length + 40) 1), IB (X1.length + 40) (List.replicate (X1.length + 40) 2), IB (0 + 40) (List.replicate (0 + 40) 3), IB (0 + 40) (List.replicate (0 + 40) 4)] := by
 refine con_in 64 Tryz.func78 rfl rfl (m := 8) rfl ?_
 intro E hP hn hE
 refine qz hP hn ?_
 refine s_op k_as ?_
 refine s_nil trivial (n_wp (w_seq (qz hP hn ?_)))
 refine s_op k_as ?_
 refine s_nil trivial (n_wp (w_block ?_))
 refine c_loop (fun m_ T H => (m_ = 4 ∧ T = [(0, .s (.ptr 0 0 0)), (3, .s (.int .i64 ((0 : Nat) : Int)))] ∧ H = [BKb 4 (.gro 3 3 4), IB (X0.length + 1) (List.replicate (X0.length + 1) 1), IB (X1.length + 1) (List.replicate (X1.length + 1) 2), RB (R3 (.slice 1 0 0 X0.length (X0.length + 1)) (.gro 4 1 (X0.length + 40)) 1 (R3 (.slice 2 0 0 X1.length (X1.length + 1)) (.gro 5 1 (X1.length + 40)) 2 (R3 .nils (.gro 6 1 (0 + 40)) 3 (R3 .nils (.gro 7 1 (0 + 40)) 4 [])))), IB (X0.length + 40) (List.replicate (X0.length + 40) 1), IB (X1.length + 40) (List.replicate (X1.length + 40) 2), IB (0 + 40) (List.replicate (0 + 40) 3), IB (0 + 40) (List.replicate (0 + 40) 4)]) ∨ (m_ = 3 ∧ T = [(0, .s (.ptr 0 0 0)), (3, .s (.int .i64 ((1 : Nat) : Int)))] ∧ H = [BKb 4 (.gro 3 3 4), IB (X0.length + 1) (List.replicate (X0.length + 1) 1), IB (X1.length + 1) (List.replicate (X1.length + 1) 2), RB (R3 (.slice 1 0 0 X0.length (X0.length + 1)) (.gro 4 1 (X0.length + 40)) 1 (R3 (.slice 2 0 0 X1.length (X1.length + 1)) (.gro 5 1 (X1.length + 40)) 2 (R3 .nils (.gro 6 1 (0 + 40)) 3 (R3 .nils (.gro 7 1 (0 + 40)) 4 [])))), IB (X0.length + 40) (List.replicate (X0.length + 40) 1), IB (X1.length + 40) (List.replicate (X1.length + 40) 2), IB (0 + 40) (List.replicate (0 + 40) 3), IB (0 + 40) (List.replicate (0 + 40) 4)]) ∨ (m_ = 2 ∧ T = [(0, .s (.ptr 0 0 0)), (3, .s (.int .i64 ((2 : Nat) : Int)))] ∧ H = [BKb 4 (.gro 3 3 4), IB (X0.length + 1) (List.replicate (X0.length + 1) 1), IB (X1.length + 1) (List.replicate (X1.length + 1) 2), RB (R3 (.slice 1 0 0 X0.length (X0.length + 1)) (.gro 4 1 (X0.length + 40)) 1 (R3 (.slice 2 0 0 X1.length (X1.length + 1)) (.gro 5 1 (X1.length + 40)) 2 (R3 .nils (.gro 6 1 (0 + 40)) 3 (R3 .nils (.gro 7 1 (0 + 40)) 4 [])))), IB (X0.length + 40) (List.replicate (X0.length + 40) 1), IB (X1.length + 40) (List.replicate (X1.length + 40) 2), IB (0 + 40) (List.replicate (0 + 40) 3), IB (0 + 40) (List.replicate (0 + 40) 4)]) ∨ (m_ = 1 ∧ T = [(0, .s (.ptr 0 0 0)), (3, .s (.int .i64 ((3 : Nat) : Int)))] ∧ H = [BKb 4 (.gro 3 3 4), IB (X0.length + 1) (List.replicate (X0.length + 1) 1), IB (X1.length + 1) (List.replicate (X1.length + 1) 2), RB (R3 (.slice 1 0 0 X0.length (X0.length + 1)) (.gro 4 1 (X0.length + 40)) 1 (R3 (.slice 2 0 0 X1.length (X1.length + 1)) (.gro 5 1 (X1.length + 40)) 2 (R3 .nils (.gro 6 1 (0 + 40)) 3 (R3 .nils (.gro 7 1 (0 + 40)) 4 [])))), IB (X0.length + 40) (List.replicate (X0.length + 40) 1), IB (X1.length + 40) (List.replicate (X1.length + 40) 2), IB (0 + 40) (List.replicate (0 + 40) 3), IB (0 + 40) (List.replicate (0 + 40) 4)]) ∨ (m_ = 0 ∧ T = [(0, .s (.ptr 0 0 0)), (3, .s (.int .i64 ((4 : Nat) : Int)))] ∧ H = [BKb 4 (.gro 3 3 4), IB (X0.length + 1) (List.replicate (X0.length + 1) 1), IB (X1.length + 1) (List.replicate (X1.length + 1) 2), RB (R3 (.slice 1 0 0 X0.length (X0.length + 1)) (.gro 4 1 (X0.length + 40)) 1 (R3 (.slice 2 0 0 X1.length (X1.length + 1)) (.gro 5 1 (X1.length + 40)) 2 (R3 .nils (.gro 6 1 (0 + 40)) 3 (R3 .nils (.gro 7 1 (0 + 40)) 4 [])))), IB (X0.length + 40) (List.replicate (X0.length + 40) 1), IB (X1.length + 40) (List.replicate (X1.length + 40) 2), IB (0 + 40) (List.replicate (0 + 40) 3), IB (0 + 40) (List.replicate (0 + 40) 4)])) (4) (.inl ⟨rfl, rfl, rfl⟩) (wk hE [0, 1, 2, 3, 4, 5, 6, 7]) ?_
 rintro n_ T_ H_ (⟨rfl, rfl, rfl⟩ | ⟨rfl, rfl, rfl⟩ | ⟨rfl, rfl, rfl⟩ | ⟨rfl, rfl, rfl⟩ | ⟨rfl, rfl, rfl⟩)
 · refine w_seq (qz hP hn ?_)
   refine o4 ?_
   refine o3 ?_
   refine s_nil trivial (n_wp ?_)
   refine w_T rfl ?_ 
   refine w_skip (n_wp (w_seq (w_block (qz hP hn ?_))))
   refine o3 ?_
   refine o2 ?_
   refine s_op (k_ixG 0 0) ?_
   refine s_op (k_ld (h := by exact a_load_agg (sub := (R3 (.slice 1 0 0 X0.length (X0.length + 1)) (.gro 4 1 (X0.length + 40)) 1 [])) (r := (R3 (.slice 1 0 0 X0.length (X0.length + 1)) (.gro 4 1 (X0.length + 40)) 1 (R3 (.slice 2 0 0 X1.length (X1.length + 1)) (.gro 5 1 (X1.length + 40)) 2 (R3 .nils (.gro 6 1 (0 + 40)) 3 (R3 .nils (.gro 7 1 (0 + 40)) 4 []))))) rfl rfl (by kernel_rfl) (by kernel_rfl))) ?_
   refine s_op k_al ?_
   refine s_st (k_st (h := by exact a_store_agg rfl rfl rfl (put_w (by kernel_rfl)) (by exact Nat.le_of_ble_eq_true rfl) (by kernel_rfl) (by repeat (first | exact hset_0 | apply hset_s)))) ?_
   refine s_nil trivial (n_wp (w_seq (qz hP hn ?_)))
   refine o4 ?_
   refine o3 ?_
   refine s_op (l_bin rfl rfl (b_neq (r := false) (decide_eq_false (by omega)))) ?_
   refine s_nil trivial (n_wp ?_)
   refine w_F rfl ?_ 
   refine w_skip (n_wp (qz hP hn ?_))
   refine s_op k_as ?_
   refine s_nil trivial (n_wp (w_block ?_))
   refine c_loop (fun m_ T H => ∃ k, k ≤ X0.length + 40 ∧ m_ = X0.length + 40 - k ∧ T = [(0, .s (.ptr 0 0 0)), (3, .s (.int .i64 ((0 : Nat) : Int))), (4, .s (.ptr 8 0 0)), (5, .s (.int .i64 ((k : Nat) : Int)))] ∧ H = [BKb 4 (.gro 3 3 4), IB (X0.length + 1) (List.replicate (X0.length + 1) 1), IB (X1.length + 1) (List.replicate (X1.length + 1) 2), RB (R3 (.slice 1 0 0 X0.length (X0.length + 1)) (.gro 4 1 (X0.length + 40)) 1 (R3 (.slice 2 0 0 X1.length (X1.length + 1)) (.gro 5 1 (X1.length + 40)) 2 (R3 .nils (.gro 6 1 (0 + 40)) 3 (R3 .nils (.gro 7 1 (0 + 40)) 4 [])))), IB (X0.length + 40) (List.replicate (X0.length + 40) 1), IB (X1.length + 40) (List.replicate (X1.length + 40) 2), IB (0 + 40) (List.replicate (0 + 40) 3), IB (0 + 40) (List.replicate (0 + 40) 4), RB (R3 (.slice 1 0 0 X0.length (X0.length + 1)) (.gro 4 1 (X0.length + 40)) 1 [])]) (X0.length + 40) ⟨0, by omega, rfl, rfl, rfl⟩ (wk hE [0, 1, 2, 3, 4, 5, 6, 7, 8]) ?_
   rintro n_ T_ H_ ⟨k, hk, rfl, rfl, rfl⟩
   refine w_seq (qz hP hn ?_)
   refine o3 ?_
   refine o2 ?_
   refine s_nil trivial (n_wp ?_)
   refine w_if rfl (fun h_t34 => ?_) (fun h_t34 => ?_)
   · refine w_skip (n_wp (w_seq (w_block (w_seq ?_))))
     refine g_any hP hn ?_
     refine o4 ?_
     refine o3 ?_
     refine s_op (k_call [] (con := is_t 1 _ (by decide) (rep_g _ _ _ (by omega)))) ?_
     refine o2 ?_
     refine s_on rfl rfl rfl k_mv ?_
     refine s_on rfl rfl rfl k_fa ?_
     refine s_on rfl rfl rfl k_ld ?_
     refine s_on rfl rfl rfl k_len ?_
     refine s_on rfl rfl rfl k_lss ?_
     refine s_on rfl rfl rfl k_mv ?_
     refine s_opt rfl rfl (fun hB => by rw [hB]; (try simp only [Bool.or_eq_true, Bool.or_eq_false_iff, Bool.and_eq_true, Bool.not_eq_true', Bool.not_eq_false', decide_eq_true_eq, decide_eq_false_iff_not] at hB); exact k_fa) ?_
     refine s_opt rfl rfl (fun hB => by rw [hB]; (try simp only [Bool.or_eq_true, Bool.or_eq_false_iff, Bool.and_eq_true, Bool.not_eq_true', Bool.not_eq_false', decide_eq_true_eq, decide_eq_false_iff_not] at hB); exact k_ld) ?_
     refine s_opt rfl rfl (fun hB => by rw [hB]; (try simp only [Bool.or_eq_true, Bool.or_eq_false_iff, Bool.and_eq_true, Bool.not_eq_true', Bool.not_eq_false', decide_eq_true_eq, decide_eq_false_iff_not] at hB); exact k_mv) ?_
     refine s_opt rfl rfl (fun hB => by rw [hB]; (try simp only [Bool.or_eq_true, Bool.or_eq_false_iff, Bool.and_eq_true, Bool.not_eq_true', Bool.not_eq_false', decide_eq_true_eq, decide_eq_false_iff_not] at hB); exact k_ix) ?_
     refine s_opt rfl rfl (fun hB => by rw [hB]; (try simp only [Bool.or_eq_true, Bool.or_eq_false_iff, Bool.and_eq_true, Bool.not_eq_true', Bool.not_eq_false', decide_eq_true_eq, decide_eq_false_iff_not] at hB); exact k_ld) ?_
     refine s_opt rfl rfl (fun hB => by rw [hB]; (try simp only [Bool.or_eq_true, Bool.or_eq_false_iff, Bool.and_eq_true, Bool.not_eq_true', Bool.not_eq_false', decide_eq_true_eq, decide_eq_false_iff_not] at hB); exact k_fa) ?_
     refine s_opt rfl rfl (fun hB => by rw [hB]; (try simp only [Bool.or_eq_true, Bool.or_eq_false_iff, Bool.and_eq_true, Bool.not_eq_true', Bool.not_eq_false', decide_eq_true_eq, decide_eq_false_iff_not] at hB); exact k_ld) ?_
     refine s_opt rfl rfl (fun hB => by rw [hB]; (try simp only [Bool.or_eq_true, Bool.or_eq_false_iff, Bool.and_eq_true, Bool.not_eq_true', Bool.not_eq_false', decide_eq_true_eq, decide_eq_false_iff_not] at hB); exact k_call [] (con := is_t 1 _ (by decide) (rep_g _ _ _ (by omega)))) ?_
     refine s_opt rfl rfl (fun hB => by rw [hB]; (try simp only [Bool.or_eq_true, Bool.or_eq_false_iff, Bool.and_eq_true, Bool.not_eq_true', Bool.not_eq_false', decide_eq_true_eq, decide_eq_false_iff_not] at hB); exact k_not) ?_
     refine s_on rfl rfl rfl k_pk ?_
     refine s_op k_pk ?_
     refine s_nil (by kernel_rfl) ?_
     refine n_wp ?_
     refine w_F rfl ?_ (by first | rfl | exact Bool.and_false _ | simp)
     refine w_skip (n_blo (n_wp (g_reg hP hn ?_)))
     refine o3 ?_
     refine s_nil trivial ?_
     exact n_round (X0.length + 40 - (k + 1)) (by omega) ⟨k + 1, by omega, rfl, rfl, rfl⟩ (wk hE [0, 1, 2, 3, 4, 5, 6, 7, 8])
   · obtain rfl : k = X0.length + 40 := by omega
     refine w_exit (x_thn (x_thn (x_eq (n_blo (n_wp (g_reg hP hn ?_))))))
     refine o3 ?_
     refine s_nil trivial ?_
     exact n_round 3 (by omega) (.inr (.inl ⟨rfl, rfl, rfl⟩)) (wk hE [0, 1, 2, 3, 4, 5, 6, 7])
 · refine w_seq (qz hP hn ?_)
   refine o4 ?_
   refine o3 ?_
   refine s_nil trivial (n_wp ?_)
   refine w_T rfl ?_ 
   refine w_skip (n_wp (w_seq (w_block (qz hP hn ?_))))
   refine o3 ?_
   refine o2 ?_
   refine s_op (k_ixG 3 1) ?_
   refine s_op (k_ld (h := by exact a_load_agg (sub := (R3 (.slice 2 0 0 X1.length (X1.length + 1)) (.gro 5 1 (X1.length + 40)) 2 [])) (r := (R3 (.slice 2 0 0 X1.length (X1.length + 1)) (.gro 5 1 (X1.length + 40)) 2 (R3 .nils (.gro 6 1 (0 + 40)) 3 (R3 .nils (.gro 7 1 (0 + 40)) 4 [])))) rfl rfl (by kernel_rfl) (by kernel_rfl))) ?_
   refine s_op k_al ?_
   refine s_st (k_st (h := by exact a_store_agg rfl rfl rfl (put_w (by kernel_rfl)) (by exact Nat.le_of_ble_eq_true rfl) (by kernel_rfl) (by repeat (first | exact hset_0 | apply hset_s)))) ?_
   refine s_nil trivial (n_wp (w_seq (qz hP hn ?_)))
   refine o4 ?_
   refine o3 ?_
   refine s_op (l_bin rfl rfl (b_neq (r := false) (decide_eq_false (by omega)))) ?_
   refine s_nil trivial (n_wp ?_)
   refine w_F rfl ?_ 
   refine w_skip (n_wp (qz hP hn ?_))
   refine s_op k_as ?_
   refine s_nil trivial (n_wp (w_block ?_))
   refine c_loop (fun m_ T H => ∃ k, k ≤ X1.length + 40 ∧ m_ = X1.length + 40 - k ∧ T = [(0, .s (.ptr 0 0 0)), (3, .s (.int .i64 ((1 : Nat) : Int))), (4, .s (.ptr 8 0 0)), (5, .s (.int .i64 ((k : Nat) : Int)))] ∧ H = [BKb 4 (.gro 3 3 4), IB (X0.length + 1) (List.replicate (X0.length + 1) 1), IB (X1.length + 1) (List.replicate (X1.length + 1) 2), RB (R3 (.slice 1 0 0 X0.length (X0.length + 1)) (.gro 4 1 (X0.length + 40)) 1 (R3 (.slice 2 0 0 X1.length (X1.length + 1)) (.gro 5 1 (X1.length + 40)) 2 (R3 .nils (.gro 6 1 (0 + 40)) 3 (R3 .nils (.gro 7 1 (0 + 40)) 4 [])))), IB (X0.length + 40) (List.replicate (X0.length + 40) 1), IB (X1.length + 40) (List.replicate (X1.length + 40) 2), IB (0 + 40) (List.replicate (0 + 40) 3), IB (0 + 40) (List.replicate (0 + 40) 4), RB (R3 (.slice 2 0 0 X1.length (X1.length + 1)) (.gro 5 1 (X1.length + 40)) 2 [])]) (X1.length + 40) ⟨0, by omega, rfl, rfl, rfl⟩ (wk hE [0, 1, 2, 3, 4, 5, 6, 7, 8]) ?_
   rintro n_ T_ H_ ⟨k, hk, rfl, rfl, rfl⟩
   refine w_seq (qz hP hn ?_)
   refine o3 ?_
   refine o2 ?_
   refine s_nil trivial (n_wp ?_)
   refine w_if rfl (fun h_t34 => ?_) (fun h_t34 => ?_)
   · refine w_skip (n_wp (w_seq (w_block (w_seq ?_))))
     refine g_any hP hn ?_
     refine o4 ?_
     refine o3 ?_
     refine s_op (k_call [] (con := is_t 2 _ (by decide) (rep_g _ _ _ (by omega)))) ?_
     refine o2 ?_
     refine s_on rfl rfl rfl k_mv ?_
     refine s_on rfl rfl rfl k_fa ?_
     refine s_on rfl rfl rfl k_ld ?_
     refine s_on rfl rfl rfl k_len ?_
     refine s_on rfl rfl rfl k_lss ?_
     refine s_on rfl rfl rfl k_mv ?_
     refine s_opt rfl rfl (fun hB => by rw [hB]; (try simp only [Bool.or_eq_true, Bool.or_eq_false_iff, Bool.and_eq_true, Bool.not_eq_true', Bool.not_eq_false', decide_eq_true_eq, decide_eq_false_iff_not] at hB); exact k_fa) ?_
     refine s_opt rfl rfl (fun hB => by rw [hB]; (try simp only [Bool.or_eq_true, Bool.or_eq_false_iff, Bool.and_eq_true, Bool.not_eq_true', Bool.not_eq_false', decide_eq_true_eq, decide_eq_false_iff_not] at hB); exact k_ld) ?_
     refine s_opt rfl rfl (fun hB => by rw [hB]; (try simp only [Bool.or_eq_true, Bool.or_eq_false_iff, Bool.and_eq_true, Bool.not_eq_true', Bool.not_eq_false', decide_eq_true_eq, decide_eq_false_iff_not] at hB); exact k_mv) ?_
     refine s_opt rfl rfl (fun hB => by rw [hB]; (try simp only [Bool.or_eq_true, Bool.or_eq_false_iff, Bool.and_eq_true, Bool.not_eq_true', Bool.not_eq_false', decide_eq_true_eq, decide_eq_false_iff_not] at hB); exact k_ix) ?_
     refine s_opt rfl rfl (fun hB => by rw [hB]; (try simp only [Bool.or_eq_true, Bool.or_eq_false_iff, Bool.and_eq_true, Bool.not_eq_true', Bool.not_eq_false', decide_eq_true_eq, decide_eq_false_iff_not] at hB); exact k_ld) ?_
     refine s_opt rfl rfl (fun hB => by rw [hB]; (try simp only [Bool.or_eq_true, Bool.or_eq_false_iff, Bool.and_eq_true, Bool.not_eq_true', Bool.not_eq_false', decide_eq_true_eq, decide_eq_false_iff_not] at hB); exact k_fa) ?_
     refine s_opt rfl rfl (fun hB => by rw [hB]; (try simp only [Bool.or_eq_true, Bool.or_eq_false_iff, Bool.and_eq_true, Bool.not_eq_true', Bool.not_eq_false', decide_eq_true_eq, decide_eq_false_iff_not] at hB); exact k_ld) ?_
     refine s_opt rfl rfl (fun hB => by rw [hB]; (try simp only [Bool.or_eq_true, Bool.or_eq_false_iff, Bool.and_eq_true, Bool.not_eq_true', Bool.not_eq_false', decide_eq_true_eq, decide_eq_false_iff_not] at hB); exact k_call [] (con := is_t 2 _ (by decide) (rep_g _ _ _ (by omega)))) ?_
     refine s_opt rfl rfl (fun hB => by rw [hB]; (try simp only [Bool.or_eq_true, Bool.or_eq_false_iff, Bool.and_eq_true, Bool.not_eq_true', Bool.not_eq_false', decide_eq_true_eq, decide_eq_false_iff_not] at hB); exact k_not) ?_
     refine s_on rfl rfl rfl k_pk ?_
     refine s_op k_pk ?_
     refine s_nil (by kernel_rfl) ?_
     refine n_wp ?_
     refine w_F rfl ?_ (by first | rfl | exact Bool.and_false _ | simp)
     refine w_skip (n_blo (n_wp (g_reg hP hn ?_)))
     refine o3 ?_
     refine s_nil trivial ?_
     exact n_round (X1.length + 40 - (k + 1)) (by omega) ⟨k + 1, by omega, rfl, rfl, rfl⟩ (wk hE [0, 1, 2, 3, 4, 5, 6, 7, 8])
   · obtain rfl : k = X1.length + 40 := by omega
     refine w_exit (x_thn (x_thn (x_eq (n_blo (n_wp (g_reg hP hn ?_))))))
     refine o3 ?_
     refine s_nil trivial ?_
     exact n_round 2 (by omega) (.inr (.inr (.inl ⟨rfl, rfl, rfl⟩))) (wk hE [0, 1, 2, 3, 4, 5, 6, 7])
 · refine w_seq (qz hP hn ?_)
   refine o4 ?_
   refine o3 ?_
   refine s_nil trivial (n_wp ?_)
   refine w_T rfl ?_ 
   refine w_skip (n_wp (w_seq (w_block (qz hP hn ?_))))
   refine o3 ?_
   refine o2 ?_
   refine s_op (k_ixG 6 2) ?_
   refine s_op (k_ld (h := by exact a_load_agg (sub := (R3 .nils (.gro 6 1 (0 + 40)) 3 [])) (r := (R3 .nils (.gro 6 1 (0 + 40)) 3 (R3 .nils (.gro 7 1 (0 + 40)) 4 []))) rfl rfl (by kernel_rfl) (by kernel_rfl))) ?_
   refine s_op k_al ?_
   refine s_st (k_st (h := by exact a_store_agg rfl rfl rfl (put_w (by kernel_rfl)) (by exact Nat.le_of_ble_eq_true rfl) (by kernel_rfl) (by repeat (first | exact hset_0 | apply hset_s)))) ?_
   refine s_nil trivial (n_wp (w_seq (qz hP hn ?_)))
   refine o4 ?_
   refine o3 ?_
   refine s_op (l_bin rfl rfl (b_neq (r := false) (decide_eq_false (by omega)))) ?_
   refine s_nil trivial (n_wp ?_)
   refine w_F rfl ?_ 
   refine w_skip (n_wp (qz hP hn ?_))
   refine s_op k_as ?_
   refine s_nil trivial (n_wp (w_block ?_))
   refine c_loop (fun m_ T H => ∃ k, k ≤ 0 + 40 ∧ m_ = 0 + 40 - k ∧ T = [(0, .s (.ptr 0 0 0)), (3, .s (.int .i64 ((2 : Nat) : Int))), (4, .s (.ptr 8 0 0)), (5, .s (.int .i64 ((k : Nat) : Int)))] ∧ H = [BKb 4 (.gro 3 3 4), IB (X0.length + 1) (List.replicate (X0.length + 1) 1), IB (X1.length + 1) (List.replicate (X1.length + 1) 2), RB (R3 (.slice 1 0 0 X0.length (X0.length + 1)) (.gro 4 1 (X0.length + 40)) 1 (R3 (.slice 2 0 0 X1.length (X1.length + 1)) (.gro 5 1 (X1.length + 40)) 2 (R3 .nils (.gro 6 1 (0 + 40)) 3 (R3 .nils (.gro 7 1 (0 + 40)) 4 [])))), IB (X0.length + 40) (List.replicate (X0.length + 40) 1), IB (X1.length + 40) (List.replicate (X1.length + 40) 2), IB (0 + 40) (List.replicate (0 + 40) 3), IB (0 + 40) (List.replicate (0 + 40) 4), RB (R3 .nils (.gro 6 1 (0 + 40)) 3 [])]) (0 + 40) ⟨0, by omega, rfl, rfl, rfl⟩ (wk hE [0, 1, 2, 3, 4, 5, 6, 7, 8]) ?_
   rintro n_ T_ H_ ⟨k, hk, rfl, rfl, rfl⟩
   refine w_seq (qz hP hn ?_)
   refine o3 ?_
   refine o2 ?_
   refine s_nil trivial (n_wp ?_)
   refine w_if rfl (fun h_t34 => ?_) (fun h_t34 => ?_)
   · refine w_skip (n_wp (w_seq (w_block (w_seq ?_))))
     refine g_any hP hn ?_
     refine o4 ?_
     refine o3 ?_
     refine s_op (k_call [] (con := is_t 3 _ (by decide) (rep_g _ _ _ (by omega)))) ?_
     refine o2 ?_
     refine s_on rfl rfl rfl k_mv ?_
     refine s_on rfl rfl rfl k_fa ?_
     refine s_on rfl rfl rfl k_ld ?_
     refine s_on rfl rfl rfl k_len ?_
     refine s_on rfl rfl rfl (l_bin rfl rfl (b_lss (r := false) (decide_eq_false (by omega)))) ?_
     refine s_on rfl rfl rfl k_mv ?_
     refine s_off rfl rfl rfl ?_
     refine s_off rfl rfl rfl ?_
     refine s_off rfl rfl rfl ?_
     refine s_off rfl rfl rfl ?_
     refine s_off rfl rfl rfl ?_
     refine s_off rfl rfl rfl ?_
     refine s_off rfl rfl rfl ?_
     refine s_off rfl rfl rfl ?_
     refine s_off rfl rfl rfl ?_
     refine s_on rfl rfl rfl k_pk ?_
     refine s_op k_pk ?_
     refine s_nil (by kernel_rfl) ?_
     refine n_wp ?_
     refine w_F rfl ?_ (by first | rfl | exact Bool.and_false _ | simp)
     refine w_skip (n_blo (n_wp (g_reg hP hn ?_)))
     refine o3 ?_
     refine s_nil trivial ?_
     exact n_round (0 + 40 - (k + 1)) (by omega) ⟨k + 1, by omega, rfl, rfl, rfl⟩ (wk hE [0, 1, 2, 3, 4, 5, 6, 7, 8])
   · obtain rfl : k = 0 + 40 := by omega
     refine w_exit (x_thn (x_thn (x_eq (n_blo (n_wp (g_reg hP hn ?_))))))
     refine o3 ?_
     refine s_nil trivial ?_
     exact n_round 1 (by omega) (.inr (.inr (.inr (.inl ⟨rfl, rfl, rfl⟩)))) (wk hE [0, 1, 2, 3, 4, 5, 6, 7])
 · refine w_seq (qz hP hn ?_)
   refine o4 ?_
   refine o3 ?_
   refine s_nil trivial (n_wp ?_)
   refine w_T rfl ?_ 
   refine w_skip (n_wp (w_seq (w_block (qz hP hn ?_))))
   refine o3 ?_
   refine o2 ?_
   refine s_op (k_ixG 9 3) ?_
   refine s_op (k_ld (h := by exact a_load_agg (sub := (R3 .nils (.gro 7 1 (0 + 40)) 4 [])) (r := (R3 .nils (.gro 7 1 (0 + 40)) 4 [])) rfl rfl (by kernel_rfl) (by kernel_rfl))) ?_
   refine s_op k_al ?_
   refine s_st (k_st (h := by exact a_store_agg rfl rfl rfl (put_w (by kernel_rfl)) (by exact Nat.le_of_ble_eq_true rfl) (by kernel_rfl) (by repeat (first | exact hset_0 | apply hset_s)))) ?_
   refine s_nil trivial (n_wp (w_seq (qz hP hn ?_)))
   refine o4 ?_
   refine o3 ?_
   refine s_op (l_bin rfl rfl (b_neq (r := false) (decide_eq_false (by omega)))) ?_
   refine s_nil trivial (n_wp ?_)
   refine w_F rfl ?_ 
   refine w_skip (n_wp (qz hP hn ?_))
   refine s_op k_as ?_
   refine s_nil trivial (n_wp (w_block ?_))
   refine c_loop (fun m_ T H => ∃ k, k ≤ 0 + 40 ∧ m_ = 0 + 40 - k ∧ T = [(0, .s (.ptr 0 0 0)), (3, .s (.int .i64 ((3 : Nat) : Int))), (4, .s (.ptr 8 0 0)), (5, .s (.int .i64 ((k : Nat) : Int)))] ∧ H = [BKb 4 (.gro 3 3 4), IB (X0.length + 1) (List.replicate (X0.length + 1) 1), IB (X1.length + 1) (List.replicate (X1.length + 1) 2), RB (R3 (.slice 1 0 0 X0.length (X0.length + 1)) (.gro 4 1 (X0.length + 40)) 1 (R3 (.slice 2 0 0 X1.length (X1.length + 1)) (.gro 5 1 (X1.length + 40)) 2 (R3 .nils (.gro 6 1 (0 + 40)) 3 (R3 .nils (.gro 7 1 (0 + 40)) 4 [])))), IB (X0.length + 40) (List.replicate (X0.length + 40) 1), IB (X1.length + 40) (List.replicate (X1.length + 40) 2), IB (0 + 40) (List.replicate (0 + 40) 3), IB (0 + 40) (List.replicate (0 + 40) 4), RB (R3 .nils (.gro 7 1 (0 + 40)) 4 [])]) (0 + 40) ⟨0, by omega, rfl, rfl, rfl⟩ (wk hE [0, 1, 2, 3, 4, 5, 6, 7, 8]) ?_
   rintro n_ T_ H_ ⟨k, hk, rfl, rfl, rfl⟩
   refine w_seq (qz hP hn ?_)
   refine o3 ?_
   refine o2 ?_
   refine s_nil trivial (n_wp ?_)
   refine w_if rfl (fun h_t34 => ?_) (fun h_t34 => ?_)
   · refine w_skip (n_wp (w_seq (w_block (w_seq ?_))))
     refine g_any hP hn ?_
     refine o4 ?_
     refine o3 ?_
     refine s_op (k_call [] (con := is_t 4 _ (by decide) (rep_g _ _ _ (by omega)))) ?_
     refine o2 ?_
     refine s_on rfl rfl rfl k_mv ?_
     refine s_on rfl rfl rfl k_fa ?_
     refine s_on rfl rfl rfl k_ld ?_
     refine s_on rfl rfl rfl k_len ?_
     refine s_on rfl rfl rfl (l_bin rfl rfl (b_lss (r := false) (decide_eq_false (by omega)))) ?_
     refine s_on rfl rfl rfl k_mv ?_
     refine s_off rfl rfl rfl ?_
     refine s_off rfl rfl rfl ?_
     refine s_off rfl rfl rfl ?_
     refine s_off rfl rfl rfl ?_
     refine s_off rfl rfl rfl ?_
     refine s_off rfl rfl rfl ?_
     refine s_off rfl rfl rfl ?_
     refine s_off rfl rfl rfl ?_
     refine s_off rfl rfl rfl ?_
     refine s_on rfl rfl rfl k_pk ?_
     refine s_op k_pk ?_
     refine s_nil (by kernel_rfl) ?_
     refine n_wp ?_
     refine w_F rfl ?_ (by first | rfl | exact Bool.and_false _ | simp)
     refine w_skip (n_blo (n_wp (g_reg hP hn ?_)))
     refine o3 ?_
     refine s_nil trivial ?_
     exact n_round (0 + 40 - (k + 1)) (by omega) ⟨k + 1, by omega, rfl, rfl, rfl⟩ (wk hE [0, 1, 2, 3, 4, 5, 6, 7, 8])
   · obtain rfl : k = 0 + 40 := by omega
     refine w_exit (x_thn (x_thn (x_eq (n_blo (n_wp (g_reg hP hn ?_))))))
     refine o3 ?_
     refine s_nil trivial ?_
     exact n_round 0 (by omega) (.inr (.inr (.inr (.inr (⟨rfl, rfl, rfl⟩))))) (wk hE [0, 1, 2, 3, 4, 5, 6, 7])
 · refine w_seq (qz hP hn ?_)
   refine o4 ?_
   refine o3 ?_
   refine s_nil trivial (n_wp ?_)
   refine w_F rfl ?_ 
   refine w_exit (x_thn (x_thn (x_eq (n_wp (qz hP hn ?_)))))
   refine s_op k_as ?_
   refine s_nil trivial (n_wp (w_ret ?_))
   exact d_ret hP hn hE [0, 1, 2, 3, 4, 5, 6, 7] (by first | exact r_tmp Tryz.results78 | exact r_tmpa Tryz.results78)

end Go.Proofs.X
