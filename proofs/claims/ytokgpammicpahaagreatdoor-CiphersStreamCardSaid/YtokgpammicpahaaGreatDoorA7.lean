/- A part of the proofs of this claim: BBok3. No conditions. -/
import Derived.Test.YtokgpammicpahaaGreatDoorA6
set_option linter.unusedVariables false
set_option linter.unusedSimpArgs false
open Go Go.Bx Go.Proofs
namespace Go.Proofs.X
set_option maxRecDepth 100000
set_option maxHeartbeats 4000000
theorem fill_AB (X0 : List Int) (hX0 : X0.length ≤ 100000) (X1 : List Int) (hX1 : X1.length ≤ 100000) : Con Tryz.prog 48 [.s (.ptr 0 0 0)] [some ⟨true, [.one (.int .i64 ((2 : Nat) : Int)), .one (.gro 3 3 2), .one .nils, .one .nils, .one .nils, .one .nils, .one .nils, .one .nils, .one .nils, .one .nils, .one .nils, .one .nils, .one .nils, .one .nils, .one .nils, .one .nils]⟩, some ⟨true, [.ints .u8 (X0.length + 1) (X0 ++ [77])]⟩, some ⟨true, [.ints .u8 X1.length X1]⟩, some ⟨true, [.one (.slice 1 0 0 X0.length (X0.length + 1)), .one .nils, .one (.int .i64 ((1 : Nat) : Int)), .one (.slice 2 0 0 X1.length X1.length), .one .nils, .one (.int .i64 ((2 : Nat) : Int))]⟩] (.tup []) [some ⟨true, [.one (.int .i64 ((2 : Nat) : Int)), .one (.gro 3 3 2), .one .nils, .one .nils, .one .nils, .one .nils, .one .nils, .one .nils, .one .nils, .one .nils, .one .nils, .one .nils, .one .nils, .one .nils, .one .nils, .one .nils]⟩, some ⟨true, [.ints .u8 (X0.length + 1) (List.replicate X0.length 1 ++ [77])]⟩, some ⟨true, [.ints .u8 X1.length (List.replicate X1.length 2)]⟩, some ⟨true, [.one (.slice 1 0 0 X0.length (X0.length + 1)), .one .nils, .one (.int .i64 ((1 : Nat) : Int)), .one (.slice 2 0 0 X1.length X1.length), .one .nils, .one (.int .i64 ((2 : Nat) : Int))]⟩] := by
 refine con_in 35 Tryz.func48 rfl rfl (m := 4) rfl ?_
 intro E hP hn hE
 refine w_seq ?_
 refine g_reg hP hn ?_
 refine s_op k_as ?_
 refine s_nil trivial ?_
 refine n_wp ?_
 refine w_block ?_
 refine c_loop (fun m_ T H => (m_ = 2 ∧ T = [(0, .s (.ptr 0 0 0)), (2, .s (.int .i64 ((0 : Nat) : Int)))] ∧ H = [some ⟨true, [.one (.int .i64 ((2 : Nat) : Int)), .one (.gro 3 3 2), .one .nils, .one .nils, .one .nils, .one .nils, .one .nils, .one .nils, .one .nils, .one .nils, .one .nils, .one .nils, .one .nils, .one .nils, .one .nils, .one .nils]⟩, some ⟨true, [.ints .u8 (X0.length + 1) (X0 ++ [77])]⟩, some ⟨true, [.ints .u8 X1.length X1]⟩, some ⟨true, [.one (.slice 1 0 0 X0.length (X0.length + 1)), .one .nils, .one (.int .i64 ((1 : Nat) : Int)), .one (.slice 2 0 0 X1.length X1.length), .one .nils, .one (.int .i64 ((2 : Nat) : Int))]⟩]) ∨ (m_ = 1 ∧ T = [(0, .s (.ptr 0 0 0)), (2, .s (.int .i64 ((1 : Nat) : Int)))] ∧ H = [some ⟨true, [.one (.int .i64 ((2 : Nat) : Int)), .one (.gro 3 3 2), .one .nils, .one .nils, .one .nils, .one .nils, .one .nils, .one .nils, .one .nils, .one .nils, .one .nils, .one .nils, .one .nils, .one .nils, .one .nils, .one .nils]⟩, some ⟨true, [.ints .u8 (X0.length + 1) (List.replicate X0.length 1 ++ [77])]⟩, some ⟨true, [.ints .u8 X1.length X1]⟩, some ⟨true, [.one (.slice 1 0 0 X0.length (X0.length + 1)), .one .nils, .one (.int .i64 ((1 : Nat) : Int)), .one (.slice 2 0 0 X1.length X1.length), .one .nils, .one (.int .i64 ((2 : Nat) : Int))]⟩]) ∨ (m_ = 0 ∧ T = [(0, .s (.ptr 0 0 0)), (2, .s (.int .i64 ((2 : Nat) : Int)))] ∧ H = [some ⟨true, [.one (.int .i64 ((2 : Nat) : Int)), .one (.gro 3 3 2), .one .nils, .one .nils, .one .nils, .one .nils, .one .nils, .one .nils, .one .nils, .one .nils, .one .nils, .one .nils, .one .nils, .one .nils, .one .nils, .one .nils]⟩, some ⟨true, [.ints .u8 (X0.length + 1) (List.replicate X0.length 1 ++ [77])]⟩, some ⟨true, [.ints .u8 X1.length (List.replicate X1.length 2)]⟩, some ⟨true, [.one (.slice 1 0 0 X0.length (X0.length + 1)), .one .nils, .one (.int .i64 ((1 : Nat) : Int)), .one (.slice 2 0 0 X1.length X1.length), .one .nils, .one (.int .i64 ((2 : Nat) : Int))]⟩])) (2) (.inl ⟨rfl, rfl, rfl⟩) (wk hE [0, 1, 2, 3]) ?_
 rintro n_ T_ H_ (⟨rfl, rfl, rfl⟩ | ⟨rfl, rfl, rfl⟩ | ⟨rfl, rfl, rfl⟩)
 · skip
   refine w_seq ?_
   refine w_seq ?_
   refine g_reg hP hn ?_
   refine s_op k_mv ?_
   refine s_op k_mv ?_
   refine s_op k_nc ?_
   refine s_op k_fa ?_
   refine s_op k_ld ?_
   refine s_op k_len ?_
   refine s_op k_lss ?_
   refine s_nil trivial ?_
   refine n_wp ?_
   refine w_T rfl ?_ 
   refine w_skip ?_
   refine n_wp ?_
   refine w_seq ?_
   refine w_block ?_
   refine w_seq ?_
   refine g_reg hP hn ?_
   refine s_op k_mv ?_
   refine s_op k_nc ?_
   refine s_op k_fa ?_
   refine s_op k_ld ?_
   refine s_op k_mv ?_
   refine s_op (k_ixG 0 0) ?_
   refine s_op (k_ld (h := by exact a_load_agg (sub := [.one (.slice 1 0 0 X0.length (X0.length + 1)), .one .nils, .one (.int .i64 ((1 : Nat) : Int))]) (r := [.one (.slice 1 0 0 X0.length (X0.length + 1)), .one .nils, .one (.int .i64 ((1 : Nat) : Int)), .one (.slice 2 0 0 X1.length X1.length), .one .nils, .one (.int .i64 ((2 : Nat) : Int))]) rfl rfl (by kernel_rfl) (by kernel_rfl))) ?_
   refine s_op k_al ?_
   refine s_st (k_st (h := by exact a_store_agg rfl rfl rfl (put_w (by kernel_rfl)) (by exact Nat.le_of_ble_eq_true rfl) (by kernel_rfl) (by repeat (first | exact hset_0 | apply hset_s)))) ?_
   refine s_nil trivial ?_
   refine n_wp ?_
   refine w_seq ?_
   refine g_reg hP hn ?_
   refine s_op k_as ?_
   refine s_nil trivial ?_
   refine n_wp ?_
   refine w_block ?_
   refine c_loop (fun m_ T H => ∃ k, k ≤ X0.length ∧ m_ = X0.length - k ∧ T = [(0, .s (.ptr 0 0 0)), (2, .s (.int .i64 ((0 : Nat) : Int))), (3, .s (.ptr 4 0 0)), (4, .s (.int .i64 ((k : Nat) : Int)))] ∧ H = [some ⟨true, [.one (.int .i64 ((2 : Nat) : Int)), .one (.gro 3 3 2), .one .nils, .one .nils, .one .nils, .one .nils, .one .nils, .one .nils, .one .nils, .one .nils, .one .nils, .one .nils, .one .nils, .one .nils, .one .nils, .one .nils]⟩, some ⟨true, [.ints .u8 (X0.length + 1) (fillT (X0 ++ [77]) 1 k)]⟩, some ⟨true, [.ints .u8 X1.length X1]⟩, some ⟨true, [.one (.slice 1 0 0 X0.length (X0.length + 1)), .one .nils, .one (.int .i64 ((1 : Nat) : Int)), .one (.slice 2 0 0 X1.length X1.length), .one .nils, .one (.int .i64 ((2 : Nat) : Int))]⟩, some ⟨true, [.one (.slice 1 0 0 X0.length (X0.length + 1)), .one .nils, .one (.int .i64 ((1 : Nat) : Int))]⟩]) (X0.length) ⟨0, by omega, rfl, rfl, rfl⟩ (wk hE [0, 1, 2, 3, 4]) ?_
   rintro n_ T_ H_ ⟨k, hk, rfl, rfl, rfl⟩
   have hfl := fillT_len (X0 ++ [77]) 1 k
   have hal : (X0 ++ [77]).length = X0.length + 1 := by simp
   refine w_seq ?_
   refine w_seq ?_
   refine g_reg hP hn ?_
   refine s_op k_mv ?_
   refine s_op k_fa ?_
   refine s_op k_ld ?_
   refine s_op k_len ?_
   refine s_op k_lss ?_
   refine s_nil trivial ?_
   refine n_wp ?_
   refine w_if rfl (fun h_t25 => ?_) (fun h_t25 => ?_)
   · skip
     refine w_skip ?_
     refine n_wp ?_
     refine w_seq ?_
     refine w_block ?_
     refine g_any hP hn ?_
     refine s_op k_fa ?_
     refine s_op k_ld ?_
     refine s_op k_mv ?_
     refine s_op k_fa ?_
     refine s_op k_ld ?_
     refine s_op (k_call [] (con := mark_c 1 (by decide))) ?_
     refine s_op k_ix ?_
     refine s_st k_st ?_
     refine s_nil (by kernel_rfl) ?_
     refine n_blo ?_
     refine n_wp ?_
     refine g_reg hP hn ?_
     refine s_op k_mv ?_
     refine s_op k_add ?_
     refine s_op k_as ?_
     refine s_nil trivial ?_
     exact n_round (X0.length - (k + 1)) (by omega) ⟨k + 1, by omega, rfl, rfl, rfl⟩ (wk hE [0, 1, 2, 3, 4])
   · skip
     obtain rfl : k = X0.length := by omega
     rw [fillT_a]
     refine w_exit ?_
     refine x_thn ?_
     refine x_thn ?_
     refine x_eq ?_
     refine n_blo ?_
     refine n_wp ?_
     refine g_reg hP hn ?_
     refine s_op k_mv ?_
     refine s_op k_add ?_
     refine s_op k_as ?_
     refine s_nil trivial ?_
     exact n_round 1 (by omega) (.inr (.inl ⟨rfl, rfl, rfl⟩)) (wk hE [0, 1, 2, 3])
 · skip
   refine w_seq ?_
   refine w_seq ?_
   refine g_reg hP hn ?_
   refine s_op k_mv ?_
   refine s_op k_mv ?_
   refine s_op k_nc ?_
   refine s_op k_fa ?_
   refine s_op k_ld ?_
   refine s_op k_len ?_
   refine s_op k_lss ?_
   refine s_nil trivial ?_
   refine n_wp ?_
   refine w_T rfl ?_ 
   refine w_skip ?_
   refine n_wp ?_
   refine w_seq ?_
   refine w_block ?_
   refine w_seq ?_
   refine g_reg hP hn ?_
   refine s_op k_mv ?_
   refine s_op k_nc ?_
   refine s_op k_fa ?_
   refine s_op k_ld ?_
   refine s_op k_mv ?_
   refine s_op (k_ixG 3 1) ?_
   refine s_op (k_ld (h := by exact a_load_agg (sub := [.one (.slice 2 0 0 X1.length X1.length), .one .nils, .one (.int .i64 ((2 : Nat) : Int))]) (r := [.one (.slice 2 0 0 X1.length X1.length), .one .nils, .one (.int .i64 ((2 : Nat) : Int))]) rfl rfl (by kernel_rfl) (by kernel_rfl))) ?_
   refine s_op k_al ?_
   refine s_st (k_st (h := by exact a_store_agg rfl rfl rfl (put_w (by kernel_rfl)) (by exact Nat.le_of_ble_eq_true rfl) (by kernel_rfl) (by repeat (first | exact hset_0 | apply hset_s)))) ?_
   refine s_nil trivial ?_
   refine n_wp ?_
   refine w_seq ?_
   refine g_reg hP hn ?_
   refine s_op k_as ?_
   refine s_nil trivial ?_
   refine n_wp ?_
   refine w_block ?_
   refine c_loop (fun m_ T H => ∃ k, k ≤ X1.length ∧ m_ = X1.length - k ∧ T = [(0, .s (.ptr 0 0 0)), (2, .s (.int .i64 ((1 : Nat) : Int))), (3, .s (.ptr 4 0 0)), (4, .s (.int .i64 ((k : Nat) : Int)))] ∧ H = [some ⟨true, [.one (.int .i64 ((2 : Nat) : Int)), .one (.gro 3 3 2), .one .nils, .one .nils, .one .nils, .one .nils, .one .nils, .one .nils, .one .nils, .one .nils, .one .nils, .one .nils, .one .nils, .one .nils, .one .nils, .one .nils]⟩, some ⟨true, [.ints .u8 (X0.length + 1) (List.replicate X0.length 1 ++ [77])]⟩, some ⟨true, [.ints .u8 X1.length (fillT X1 2 k)]⟩, some ⟨true, [.one (.slice 1 0 0 X0.length (X0.length + 1)), .one .nils, .one (.int .i64 ((1 : Nat) : Int)), .one (.slice 2 0 0 X1.length X1.length), .one .nils, .one (.int .i64 ((2 : Nat) : Int))]⟩, some ⟨true, [.one (.slice 2 0 0 X1.length X1.length), .one .nils, .one (.int .i64 ((2 : Nat) : Int))]⟩]) (X1.length) ⟨0, by omega, rfl, rfl, rfl⟩ (wk hE [0, 1, 2, 3, 4]) ?_
   rintro n_ T_ H_ ⟨k, hk, rfl, rfl, rfl⟩
   have hfl := fillT_len X1 2 k
   refine w_seq ?_
   refine w_seq ?_
   refine g_reg hP hn ?_
   refine s_op k_mv ?_
   refine s_op k_fa ?_
   refine s_op k_ld ?_
   refine s_op k_len ?_
   refine s_op k_lss ?_
   refine s_nil trivial ?_
   refine n_wp ?_
   refine w_if rfl (fun h_t25 => ?_) (fun h_t25 => ?_)
   · skip
     refine w_skip ?_
     refine n_wp ?_
     refine w_seq ?_
     refine w_block ?_
     refine g_any hP hn ?_
     refine s_op k_fa ?_
     refine s_op k_ld ?_
     refine s_op k_mv ?_
     refine s_op k_fa ?_
     refine s_op k_ld ?_
     refine s_op (k_call [] (con := mark_c 2 (by decide))) ?_
     refine s_op k_ix ?_
     refine s_st k_st ?_
     refine s_nil (by kernel_rfl) ?_
     refine n_blo ?_
     refine n_wp ?_
     refine g_reg hP hn ?_
     refine s_op k_mv ?_
     refine s_op k_add ?_
     refine s_op k_as ?_
     refine s_nil trivial ?_
     exact n_round (X1.length - (k + 1)) (by omega) ⟨k + 1, by omega, rfl, rfl, rfl⟩ (wk hE [0, 1, 2, 3, 4])
   · skip
     obtain rfl : k = X1.length := by omega
     rw [fillT_all]
     refine w_exit ?_
     refine x_thn ?_
     refine x_thn ?_
     refine x_eq ?_
     refine n_blo ?_
     refine n_wp ?_
     refine g_reg hP hn ?_
     refine s_op k_mv ?_
     refine s_op k_add ?_
     refine s_op k_as ?_
     refine s_nil trivial ?_
     exact n_round 0 (by omega) (.inr (.inr (⟨rfl, rfl, rfl⟩))) (wk hE [0, 1, 2, 3])
 · skip
   refine w_seq ?_
   refine w_seq ?_
   refine g_reg hP hn ?_
   refine s_op k_mv ?_
   refine s_op k_mv ?_
   refine s_op k_nc ?_
   refine s_op k_fa ?_
   refine s_op k_ld ?_
   refine s_op k_len ?_
   refine s_op k_lss ?_
   refine s_nil trivial ?_
   refine n_wp ?_
   refine w_F rfl ?_ 
   refine w_exit ?_
   refine x_thn ?_
   refine x_thn ?_
   refine x_eq ?_
   exact d_ret hP hn hE [0, 1, 2, 3] (ret_none Tryz.results48)

theorem grow_AB (X0 : List Int) (hX0 : X0.length ≤ 100000) (X1 : List Int) (hX1 : X1.length ≤ 100000) : Con Tryz.prog 63 [.s (.ptr 0 0 0)] [some ⟨true, [.one (.int .i64 ((2 : Nat) : Int)), .one (.gro 3 3 2), .one .nils, .one .nils, .one .nils, .one .nils, .one .nils, .one .nils, .one .nils, .one .nils, .one .nils, .one .nils, .one .nils, .one .nils, .one .nils, .one .nils]⟩, some ⟨true, [.ints .u8 (X0.length + 1) (List.replicate X0.length 1 ++ [77])]⟩, some ⟨true, [.ints .u8 X1.length (List.replicate X1.length 2)]⟩, some ⟨true, [.one (.slice 1 0 0 X0.length (X0.length + 1)), .one .nils, .one (.int .i64 ((1 : Nat) : Int)), .one (.slice 2 0 0 X1.length X1.length), .one .nils, .one (.int .i64 ((2 : Nat) : Int))]⟩] (.tup []) [some ⟨true, [.one (.int .i64 ((2 : Nat) : Int)), .one (.gro 3 3 2), .one .nils, .one .nils, .one .nils, .one .nils, .one .nils, .one .nils, .one .nils, .one .nils, .one .nils, .one .nils, .one .nils, .one .nils, .one .nils, .one .nils]⟩, some ⟨true, [.ints .u8 (X0.length + 1) (List.replicate (X0.length + 1) 1)]⟩, some ⟨true, [.ints .u8 X1.length (List.replicate X1.length 2)]⟩, some ⟨true, [.one (.slice 1 0 0 X0.length (X0.length + 1)), .one (.gro 4 1 (X0.length + 40)), .one (.int .i64 ((1 : Nat) : Int)), .one (.slice 2 0 0 X1.length X1.length), .one (.gro 5 1 (X1.length + 40)), .one (.int .i64 ((2 : Nat) : Int))]⟩, some ⟨true, [.ints .u8 (X0.length + 40) (List.replicate (X0.length + 40) 1)]⟩, some ⟨true, [.ints .u8 (X1.length + 40) (List.replicate (X1.length + 40) 2)]⟩] := by
 refine con_in 42 Tryz.func63 rfl rfl (m := 4) rfl ?_
 intro E hP hn hE
 refine w_seq ?_
 refine g_reg hP hn ?_
 refine s_op k_as ?_
 refine s_nil trivial ?_
 refine n_wp ?_
 refine w_block ?_
 refine c_loop (fun m_ T H => (m_ = 2 ∧ T = [(0, .s (.ptr 0 0 0)), (2, .s (.int .i64 ((0 : Nat) : Int)))] ∧ H = [some ⟨true, [.one (.int .i64 ((2 : Nat) : Int)), .one (.gro 3 3 2), .one .nils, .one .nils, .one .nils, .one .nils, .one .nils, .one .nils, .one .nils, .one .nils, .one .nils, .one .nils, .one .nils, .one .nils, .one .nils, .one .nils]⟩, some ⟨true, [.ints .u8 (X0.length + 1) (List.replicate X0.length 1 ++ [77])]⟩, some ⟨true, [.ints .u8 X1.length (List.replicate X1.length 2)]⟩, some ⟨true, [.one (.slice 1 0 0 X0.length (X0.length + 1)), .one .nils, .one (.int .i64 ((1 : Nat) : Int)), .one (.slice 2 0 0 X1.length X1.length), .one .nils, .one (.int .i64 ((2 : Nat) : Int))]⟩]) ∨ (m_ = 1 ∧ T = [(0, .s (.ptr 0 0 0)), (2, .s (.int .i64 ((1 : Nat) : Int)))] ∧ H = [some ⟨true, [.one (.int .i64 ((2 : Nat) : Int)), .one (.gro 3 3 2), .one .nils, .one .nils, .one .nils, .one .nils, .one .nils, .one .nils, .one .nils, .one .nils, .one .nils, .one .nils, .one .nils, .one .nils, .one .nils, .one .nils]⟩, some ⟨true, [.ints .u8 (X0.length + 1) (List.replicate (X0.length + 1) 1)]⟩, some ⟨true, [.ints .u8 X1.length (List.replicate X1.length 2)]⟩, some ⟨true, [.one (.slice 1 0 0 X0.length (X0.length + 1)), .one (.gro 4 1 (X0.length + 40)), .one (.int .i64 ((1 : Nat) : Int)), .one (.slice 2 0 0 X1.length X1.length), .one .nils, .one (.int .i64 ((2 : Nat) : Int))]⟩, some ⟨true, [.ints .u8 (X0.length + 40) (List.replicate (X0.length + 40) 1)]⟩]) ∨ (m_ = 0 ∧ T = [(0, .s (.ptr 0 0 0)), (2, .s (.int .i64 ((2 : Nat) : Int)))] ∧ H = [some ⟨true, [.one (.int .i64 ((2 : Nat) : Int)), .one (.gro 3 3 2), .one .nils, .one .nils, .one .nils, .one .nils, .one .nils, .one .nils, .one .nils, .one .nils, .one .nils, .one .nils, .one .nils, .one .nils, .one .nils, .one .nils]⟩, some ⟨true, [.ints .u8 (X0.length + 1) (List.replicate (X0.length + 1) 1)]⟩, some ⟨true, [.ints .u8 X1.length (List.replicate X1.length 2)]⟩, some ⟨true, [.one (.slice 1 0 0 X0.length (X0.length + 1)), .one (.gro 4 1 (X0.length + 40)), .one (.int .i64 ((1 : Nat) : Int)), .one (.slice 2 0 0 X1.length X1.length), .one (.gro 5 1 (X1.length + 40)), .one (.int .i64 ((2 : Nat) : Int))]⟩, some ⟨true, [.ints .u8 (X0.length + 40) (List.replicate (X0.length + 40) 1)]⟩, some ⟨true, [.ints .u8 (X1.length + 40) (List.replicate (X1.length + 40) 2)]⟩])) (2) (.inl ⟨rfl, rfl, rfl⟩) (wk hE [0, 1, 2, 3]) ?_
 rintro n_ T_ H_ (⟨rfl, rfl, rfl⟩ | ⟨rfl, rfl, rfl⟩ | ⟨rfl, rfl, rfl⟩)
 · skip
   refine w_seq ?_
   refine w_seq ?_
   refine g_reg hP hn ?_
   refine s_op k_mv ?_
   refine s_op k_mv ?_
   refine s_op k_nc ?_
   refine s_op k_fa ?_
   refine s_op k_ld ?_
   refine s_op k_len ?_
   refine s_op k_lss ?_
   refine s_nil trivial ?_
   refine n_wp ?_
   refine w_T rfl ?_ 
   refine w_skip ?_
   refine n_wp ?_
   refine w_seq ?_
   refine w_block ?_
   refine w_seq ?_
   refine g_reg hP hn ?_
   refine s_op k_mv ?_
   refine s_op k_nc ?_
   refine s_op k_fa ?_
   refine s_op k_ld ?_
   refine s_op k_mv ?_
   refine s_op (k_ixG 0 0) ?_
   refine s_op (k_ld (h := by exact a_load_agg (sub := [.one (.slice 1 0 0 X0.length (X0.length + 1)), .one .nils, .one (.int .i64 ((1 : Nat) : Int))]) (r := [.one (.slice 1 0 0 X0.length (X0.length + 1)), .one .nils, .one (.int .i64 ((1 : Nat) : Int)), .one (.slice 2 0 0 X1.length X1.length), .one .nils, .one (.int .i64 ((2 : Nat) : Int))]) rfl rfl (by kernel_rfl) (by kernel_rfl))) ?_
   refine s_op k_al ?_
   refine s_st (k_st (h := by exact a_store_agg rfl rfl rfl (put_w (by kernel_rfl)) (by exact Nat.le_of_ble_eq_true rfl) (by kernel_rfl) (by repeat (first | exact hset_0 | apply hset_s)))) ?_
   refine s_nil trivial ?_
   refine n_wp ?_
   refine w_seq ?_
   refine g_reg hP hn ?_
   refine s_op k_fa ?_
   refine s_op k_ld ?_
   refine s_op k_as ?_
   refine s_nil trivial ?_
   refine n_wp ?_
   refine w_seq ?_
   refine w_seq ?_
   refine g_reg hP hn ?_
   refine s_op k_as ?_
   refine s_nil trivial ?_
   refine n_wp ?_
   refine w_block ?_
   refine c_loop (fun m_ T H => (m_ = 40 ∧ T = [(0, .s (.ptr 0 0 0)), (2, .s (.int .i64 ((0 : Nat) : Int))), (3, .s (.ptr 4 0 0)), (4, .s (.slice 1 0 0 X0.length (X0.length + 1))), (5, .s (.int .i64 ((0 : Nat) : Int)))] ∧ H = [some ⟨true, [.one (.int .i64 ((2 : Nat) : Int)), .one (.gro 3 3 2), .one .nils, .one .nils, .one .nils, .one .nils, .one .nils, .one .nils, .one .nils, .one .nils, .one .nils, .one .nils, .one .nils, .one .nils, .one .nils, .one .nils]⟩, some ⟨true, [.ints .u8 (X0.length + 1) (List.replicate X0.length 1 ++ [77])]⟩, some ⟨true, [.ints .u8 X1.length (List.replicate X1.length 2)]⟩, some ⟨true, [.one (.slice 1 0 0 X0.length (X0.length + 1)), .one .nils, .one (.int .i64 ((1 : Nat) : Int)), .one (.slice 2 0 0 X1.length X1.length), .one .nils, .one (.int .i64 ((2 : Nat) : Int))]⟩, some ⟨true, [.one (.slice 1 0 0 X0.length (X0.length + 1)), .one .nils, .one (.int .i64 ((1 : Nat) : Int))]⟩]) ∨ (m_ = 39 ∧ T = [(0, .s (.ptr 0 0 0)), (2, .s (.int .i64 ((0 : Nat) : Int))), (3, .s (.ptr 4 0 0)), (4, .s (.slice 1 0 0 (X0.length + 1) (X0.length + 1))), (5, .s (.int .i64 ((1 : Nat) : Int)))] ∧ H = [some ⟨true, [.one (.int .i64 ((2 : Nat) : Int)), .one (.gro 3 3 2), .one .nils, .one .nils, .one .nils, .one .nils, .one .nils, .one .nils, .one .nils, .one .nils, .one .nils, .one .nils, .one .nils, .one .nils, .one .nils, .one .nils]⟩, some ⟨true, [.ints .u8 (X0.length + 1) (List.replicate (X0.length + 1) 1)]⟩, some ⟨true, [.ints .u8 X1.length (List.replicate X1.length 2)]⟩, some ⟨true, [.one (.slice 1 0 0 X0.length (X0.length + 1)), .one .nils, .one (.int .i64 ((1 : Nat) : Int)), .one (.slice 2 0 0 X1.length X1.length), .one .nils, .one (.int .i64 ((2 : Nat) : Int))]⟩, some ⟨true, [.one (.slice 1 0 0 X0.length (X0.length + 1)), .one .nils, .one (.int .i64 ((1 : Nat) : Int))]⟩]) ∨ (∃ k, 2 ≤ k ∧ k ≤ 40 ∧ m_ = 40 - k ∧ T = [(0, .s (.ptr 0 0 0)), (2, .s (.int .i64 ((0 : Nat) : Int))), (3, .s (.ptr 4 0 0)), (4, .s (.gro 5 1 (X0.length + k))), (5, .s (.int .i64 ((k : Nat) : Int)))] ∧ H = [some ⟨true, [.one (.int .i64 ((2 : Nat) : Int)), .one (.gro 3 3 2), .one .nils, .one .nils, .one .nils, .one .nils, .one .nils, .one .nils, .one .nils, .one .nils, .one .nils, .one .nils, .one .nils, .one .nils, .one .nils, .one .nils]⟩, some ⟨true, [.ints .u8 (X0.length + 1) (List.replicate (X0.length + 1) 1)]⟩, some ⟨true, [.ints .u8 X1.length (List.replicate X1.length 2)]⟩, some ⟨true, [.one (.slice 1 0 0 X0.length (X0.length + 1)), .one .nils, .one (.int .i64 ((1 : Nat) : Int)), .one (.slice 2 0 0 X1.length X1.length), .one .nils, .one (.int .i64 ((2 : Nat) : Int))]⟩, some ⟨true, [.one (.slice 1 0 0 X0.length (X0.length + 1)), .one .nils, .one (.int .i64 ((1 : Nat) : Int))]⟩, some ⟨true, [.ints .u8 (X0.length + k) (List.replicate (X0.length + k) 1)]⟩])) (40) (.inl ⟨rfl, rfl, rfl⟩) (wk hE [0, 1, 2, 3, 4]) ?_
   rintro n_ T_ H_ (⟨rfl, rfl, rfl⟩ | ⟨rfl, rfl, rfl⟩ | ⟨k, hk1, hk2, rfl, rfl, rfl⟩)
   · skip
     refine w_seq ?_
     refine w_seq ?_
     refine g_reg hP hn ?_
     refine s_op k_mv ?_
     refine s_op k_lss ?_
     refine s_nil trivial ?_
     refine n_wp ?_
     refine w_T rfl ?_ 
     refine w_skip ?_
     refine n_wp ?_
     refine w_seq ?_
     refine w_block ?_
     refine g_reg hP hn ?_
     refine s_op k_mv ?_
     refine s_op k_fa ?_
     refine s_op k_ld ?_
     refine s_op (k_call [] (con := mark_c 1 (by decide))) ?_
     refine s_op k_bsf ?_
     refine s_op (k_apj (List.replicate (X0.length + 1) 1) (hl' := rep_j _ _)) ?_
     refine s_op k_as ?_
     refine s_nil trivial ?_
     refine n_blo ?_
     refine n_wp ?_
     refine g_reg hP hn ?_
     refine s_op k_mv ?_
     refine s_op k_add ?_
     refine s_op k_as ?_
     refine s_nil trivial ?_
     exact n_round 39 (by omega) (.inr (.inl ⟨rfl, rfl, rfl⟩)) (wk hE [0, 1, 2, 3, 4])
   · skip
     refine w_seq ?_
     refine w_seq ?_
     refine g_reg hP hn ?_
     refine s_op k_mv ?_
     refine s_op k_lss ?_
     refine s_nil trivial ?_
     refine n_wp ?_
     refine w_T rfl ?_ 
     refine w_skip ?_
     refine n_wp ?_
     refine w_seq ?_
     refine w_block ?_
     refine g_reg hP hn ?_
     refine s_op k_mv ?_
     refine s_op k_fa ?_
     refine s_op k_ld ?_
     refine s_op (k_call [] (con := mark_c 1 (by decide))) ?_
     refine s_op k_bsf ?_
     refine s_op (k_apf (c := X0.length + 2) (l' := List.replicate (X0.length + 2) 1) (hl' := rep_s _ _) (h0 := by exact Nat.zero_lt_one) (hbig := by show X0.length + 1 + 1 ≤ 1000000; omega)) ?_
     refine s_op k_as ?_
     refine s_nil trivial ?_
     refine n_blo ?_
     refine n_wp ?_
     refine g_reg hP hn ?_
     refine s_op k_mv ?_
     refine s_op k_add ?_
     refine s_op k_as ?_
     refine s_nil trivial ?_
     exact n_round 38 (by omega) (.inr (.inr ⟨2, by omega, by omega, rfl, rfl, rfl⟩)) (wk hE [0, 1, 2, 3, 4, 6])
   · skip
     refine w_seq ?_
     refine w_seq ?_
     refine g_reg hP hn ?_
     refine s_op k_mv ?_
     refine s_op k_lss ?_
     refine s_nil trivial ?_
     refine n_wp ?_
     refine w_if rfl (fun h_t25 => ?_) (fun h_t25 => ?_)
     · skip
       refine w_skip ?_
       refine n_wp ?_
       refine w_seq ?_
       refine w_block ?_
       refine g_reg hP hn ?_
       refine s_op k_mv ?_
       refine s_op k_fa ?_
       refine s_op k_ld ?_
       refine s_op (k_call [] (con := mark_c 1 (by decide))) ?_
       refine s_op k_bsf ?_
       refine s_op (k_apg (c := X0.length + (k + 1)) (l' := List.replicate (X0.length + (k + 1)) 1) (hl' := rep_t _ _) (hq := by exact Nat.le_refl _) (hbig := by show X0.length + k + 1 ≤ 1000000; omega)) ?_
       refine s_op k_as ?_
       refine s_nil trivial ?_
       refine n_blo ?_
       refine n_wp ?_
       refine g_reg hP hn ?_
       refine s_op k_mv ?_
       refine s_op k_add ?_
       refine s_op k_as ?_
       refine s_nil trivial ?_
       exact n_round (40 - (k + 1)) (by omega) (.inr (.inr ⟨k + 1, by omega, by omega, rfl, rfl, rfl⟩)) (wk hE [0, 1, 2, 3, 4, 7])
     · skip
       obtain rfl : k = 40 := by omega
       refine w_exit ?_
       refine x_thn ?_
       refine x_thn ?_
       refine x_eq ?_
       refine n_wp ?_
       refine g_reg hP hn ?_
       refine s_op k_mv ?_
       refine s_op k_nc ?_
       refine s_op k_fa ?_
       refine s_op k_ld ?_
       refine s_op k_mv ?_
       refine s_op k_mv ?_
       refine s_op (k_ixG 0 0) ?_
       refine s_op k_fa ?_
       refine s_st (k_st (h := by exact a_store_one rfl rfl SV.noConfusion rfl rfl (hset_seg (by repeat (first | apply sset_s _ rfl rfl | exact sset_0)) (by repeat (first | exact hset_0 | apply hset_s))))) ?_
       refine s_nil trivial ?_
       refine n_blo ?_
       refine n_wp ?_
       refine g_reg hP hn ?_
       refine s_op k_mv ?_
       refine s_op k_add ?_
       refine s_op k_as ?_
       refine s_nil trivial ?_
       exact n_round 1 (by omega) (.inr (.inl ⟨rfl, rfl, rfl⟩)) (wk hE [0, 1, 2, 3, 5])
 · skip
   refine w_seq ?_
   refine w_seq ?_
   refine g_reg hP hn ?_
   refine s_op k_mv ?_
   refine s_op k_mv ?_
   refine s_op k_nc ?_
   refine s_op k_fa ?_
   refine s_op k_ld ?_
   refine s_op k_len ?_
   refine s_op k_lss ?_
   refine s_nil trivial ?_
   refine n_wp ?_
   refine w_T rfl ?_ 
   refine w_skip ?_
   refine n_wp ?_
   refine w_seq ?_
   refine w_block ?_
   refine w_seq ?_
   refine g_reg hP hn ?_
   refine s_op k_mv ?_
   refine s_op k_nc ?_
   refine s_op k_fa ?_
   refine s_op k_ld ?_
   refine s_op k_mv ?_
   refine s_op (k_ixG 3 1) ?_
   refine s_op (k_ld (h := by exact a_load_agg (sub := [.one (.slice 2 0 0 X1.length X1.length), .one .nils, .one (.int .i64 ((2 : Nat) : Int))]) (r := [.one (.slice 2 0 0 X1.length X1.length), .one .nils, .one (.int .i64 ((2 : Nat) : Int))]) rfl rfl (by kernel_rfl) (by kernel_rfl))) ?_
   refine s_op k_al ?_
   refine s_st (k_st (h := by exact a_store_agg rfl rfl rfl (put_w (by kernel_rfl)) (by exact Nat.le_of_ble_eq_true rfl) (by kernel_rfl) (by repeat (first | exact hset_0 | apply hset_s)))) ?_
   refine s_nil trivial ?_
   refine n_wp ?_
   refine w_seq ?_
   refine g_reg hP hn ?_
   refine s_op k_fa ?_
   refine s_op k_ld ?_
   refine s_op k_as ?_
   refine s_nil trivial ?_
   refine n_wp ?_
   refine w_seq ?_
   refine w_seq ?_
   refine g_reg hP hn ?_
   refine s_op k_as ?_
   refine s_nil trivial ?_
   refine n_wp ?_
   refine w_block ?_
   refine c_loop (fun m_ T H => (m_ = 40 ∧ T = [(0, .s (.ptr 0 0 0)), (2, .s (.int .i64 ((1 : Nat) : Int))), (3, .s (.ptr 5 0 0)), (4, .s (.slice 2 0 0 X1.length X1.length)), (5, .s (.int .i64 ((0 : Nat) : Int)))] ∧ H = [some ⟨true, [.one (.int .i64 ((2 : Nat) : Int)), .one (.gro 3 3 2), .one .nils, .one .nils, .one .nils, .one .nils, .one .nils, .one .nils, .one .nils, .one .nils, .one .nils, .one .nils, .one .nils, .one .nils, .one .nils, .one .nils]⟩, some ⟨true, [.ints .u8 (X0.length + 1) (List.replicate (X0.length + 1) 1)]⟩, some ⟨true, [.ints .u8 X1.length (List.replicate X1.length 2)]⟩, some ⟨true, [.one (.slice 1 0 0 X0.length (X0.length + 1)), .one (.gro 4 1 (X0.length + 40)), .one (.int .i64 ((1 : Nat) : Int)), .one (.slice 2 0 0 X1.length X1.length), .one .nils, .one (.int .i64 ((2 : Nat) : Int))]⟩, some ⟨true, [.ints .u8 (X0.length + 40) (List.replicate (X0.length + 40) 1)]⟩, some ⟨true, [.one (.slice 2 0 0 X1.length X1.length), .one .nils, .one (.int .i64 ((2 : Nat) : Int))]⟩]) ∨ (∃ k, 1 ≤ k ∧ k ≤ 40 ∧ m_ = 40 - k ∧ T = [(0, .s (.ptr 0 0 0)), (2, .s (.int .i64 ((1 : Nat) : Int))), (3, .s (.ptr 5 0 0)), (4, .s (.gro 6 1 (X1.length + k))), (5, .s (.int .i64 ((k : Nat) : Int)))] ∧ H = [some ⟨true, [.one (.int .i64 ((2 : Nat) : Int)), .one (.gro 3 3 2), .one .nils, .one .nils, .one .nils, .one .nils, .one .nils, .one .nils, .one .nils, .one .nils, .one .nils, .one .nils, .one .nils, .one .nils, .one .nils, .one .nils]⟩, some ⟨true, [.ints .u8 (X0.length + 1) (List.replicate (X0.length + 1) 1)]⟩, some ⟨true, [.ints .u8 X1.length (List.replicate X1.length 2)]⟩, some ⟨true, [.one (.slice 1 0 0 X0.length (X0.length + 1)), .one (.gro 4 1 (X0.length + 40)), .one (.int .i64 ((1 : Nat) : Int)), .one (.slice 2 0 0 X1.length X1.length), .one .nils, .one (.int .i64 ((2 : Nat) : Int))]⟩, some ⟨true, [.ints .u8 (X0.length + 40) (List.replicate (X0.length + 40) 1)]⟩, some ⟨true, [.one (.slice 2 0 0 X1.length X1.length), .one .nils, .one (.int .i64 ((2 : Nat) : Int))]⟩, some ⟨true, [.ints .u8 (X1.length + k) (List.replicate (X1.length + k) 2)]⟩])) (40) (.inl ⟨rfl, rfl, rfl⟩) (wk hE [0, 1, 2, 3, 4, 5]) ?_
   rintro n_ T_ H_ (⟨rfl, rfl, rfl⟩ | ⟨k, hk1, hk2, rfl, rfl, rfl⟩)
   · skip
     refine w_seq ?_
     refine w_seq ?_
     refine g_reg hP hn ?_
     refine s_op k_mv ?_
     refine s_op k_lss ?_
     refine s_nil trivial ?_
     refine n_wp ?_
     refine w_T rfl ?_ 
     refine w_skip ?_
     refine n_wp ?_
     refine w_seq ?_
     refine w_block ?_
     refine g_reg hP hn ?_
     refine s_op k_mv ?_
     refine s_op k_fa ?_
     refine s_op k_ld ?_
     refine s_op (k_call [] (con := mark_c 2 (by decide))) ?_
     refine s_op k_bsf ?_
     refine s_op (k_apf (c := X1.length + 1) (l' := List.replicate (X1.length + 1) 2) (hl' := rep_s _ _) (h0 := by exact Nat.zero_lt_one) (hbig := by show X1.length + 1 ≤ 1000000; omega)) ?_
     refine s_op k_as ?_
     refine s_nil trivial ?_
     refine n_blo ?_
     refine n_wp ?_
     refine g_reg hP hn ?_
     refine s_op k_mv ?_
     refine s_op k_add ?_
     refine s_op k_as ?_
     refine s_nil trivial ?_
     exact n_round 39 (by omega) (.inr ⟨1, by omega, by omega, rfl, rfl, rfl⟩) (wk hE [0, 1, 2, 3, 4, 5, 7])
   · skip
     refine w_seq ?_
     refine w_seq ?_
     refine g_reg hP hn ?_
     refine s_op k_mv ?_
     refine s_op k_lss ?_
     refine s_nil trivial ?_
     refine n_wp ?_
     refine w_if rfl (fun h_t25 => ?_) (fun h_t25 => ?_)
     · skip
       refine w_skip ?_
       refine n_wp ?_
       refine w_seq ?_
       refine w_block ?_
       refine g_reg hP hn ?_
       refine s_op k_mv ?_
       refine s_op k_fa ?_
       refine s_op k_ld ?_
       refine s_op (k_call [] (con := mark_c 2 (by decide))) ?_
       refine s_op k_bsf ?_
       refine s_op (k_apg (c := X1.length + (k + 1)) (l' := List.replicate (X1.length + (k + 1)) 2) (hl' := rep_t _ _) (hq := by exact Nat.le_refl _) (hbig := by show X1.length + k + 1 ≤ 1000000; omega)) ?_
       refine s_op k_as ?_
       refine s_nil trivial ?_
       refine n_blo ?_
       refine n_wp ?_
       refine g_reg hP hn ?_
       refine s_op k_mv ?_
       refine s_op k_add ?_
       refine s_op k_as ?_
       refine s_nil trivial ?_
       exact n_round (40 - (k + 1)) (by omega) (.inr ⟨k + 1, by omega, by omega, rfl, rfl, rfl⟩) (wk hE [0, 1, 2, 3, 4, 5, 8])
     · skip
       obtain rfl : k = 40 := by omega
       refine w_exit ?_
       refine x_thn ?_
       refine x_thn ?_
       refine x_eq ?_
       refine n_wp ?_
       refine g_reg hP hn ?_
       refine s_op k_mv ?_
       refine s_op k_nc ?_
       refine s_op k_fa ?_
       refine s_op k_ld ?_
       refine s_op k_mv ?_
       refine s_op k_mv ?_
       refine s_op (k_ixG 3 1) ?_
       refine s_op k_fa ?_
       refine s_st (k_st (h := by exact a_store_one rfl rfl SV.noConfusion rfl rfl (hset_seg (by repeat (first | apply sset_s _ rfl rfl | exact sset_0)) (by repeat (first | exact hset_0 | apply hset_s))))) ?_
       refine s_nil trivial ?_
       refine n_blo ?_
       refine n_wp ?_
       refine g_reg hP hn ?_
       refine s_op k_mv ?_
       refine s_op k_add ?_
       refine s_op k_as ?_
       refine s_nil trivial ?_
       exact n_round 0 (by omega) (.inr (.inr (⟨rfl, rfl, rfl⟩))) (wk hE [0, 1, 2, 3, 4, 6])
 · skip
   refine w_seq ?_
   refine w_seq ?_
   refine g_reg hP hn ?_
   refine s_op k_mv ?_
   refine s_op k_mv ?_
   refine s_op k_nc ?_
   refine s_op k_fa ?_
   refine s_op k_ld ?_
   refine s_op k_len ?_
   refine s_op k_lss ?_
   refine s_nil trivial ?_
   refine n_wp ?_
   refine w_F rfl ?_ 
   refine w_exit ?_
   refine x_thn ?_
   refine x_thn ?_
   refine x_eq ?_
   exact d_ret hP hn hE [0, 1, 2, 3, 4, 5] (ret_none Tryz.results63)

theorem look_AB (X0 : List Int) (hX0 : X0.length ≤ 100000) (X1 : List Int) (hX1 : X1.length ≤ 100000) : Con Tryz.prog 78 [.s (.ptr 0 0 0)] [some ⟨true, [.one (.int .i64 ((2 : Nat) : Int)), .one (.gro 3 3 2), .one .nils, .one .nils, .one .nils, .one .nils, .one .nils, .one .nils, .one .nils, .one .nils, .one .nils, .one .nils, .one .nils, .one .nils, .one .nils, .one .nils]⟩, some ⟨true, [.ints .u8 (X0.length + 1) (List.replicate (X0.length + 1) 1)]⟩, some ⟨true, [.ints .u8 X1.length (List.replicate X1.length 2)]⟩, some ⟨true, [.one (.slice 1 0 0 X0.length (X0.length + 1)), .one (.gro 4 1 (X0.length + 40)), .one (.int .i64 ((1 : Nat) : Int)), .one (.slice 2 0 0 X1.length X1.length), .one (.gro 5 1 (X1.length + 40)), .one (.int .i64 ((2 : Nat) : Int))]⟩, some ⟨true, [.ints .u8 (X0.length + 40) (List.replicate (X0.length + 40) 1)]⟩, some ⟨true, [.ints .u8 (X1.length + 40) (List.replicate (X1.length + 40) 2)]⟩] (.s (.bool true)) [some ⟨true, [.one (.int .i64 ((2 : Nat) : Int)), .one (.gro 3 3 2), .one .nils, .one .nils, .one .nils, .one .nils, .one .nils, .one .nils, .one .nils, .one .nils, .one .nils, .one .nils, .one .nils, .one .nils, .one .nils, .one .nils]⟩, some ⟨true, [.ints .u8 (X0.length + 1) (List.replicate (X0.length + 1) 1)]⟩, some ⟨true, [.ints .u8 X1.length (List.replicate X1.length 2)]⟩, some ⟨true, [.one (.slice 1 0 0 X0.length (X0.length + 1)), .one (.gro 4 1 (X0.length + 40)), .one (.int .i64 ((1 : Nat) : Int)), .one (.slice 2 0 0 X1.length X1.length), .one (.gro 5 1 (X1.length + 40)), .one (.int .i64 ((2 : Nat) : Int))]⟩, some ⟨true, [.ints .u8 (X0.length + 40) (List.replicate (X0.length + 40) 1)]⟩, some ⟨true, [.ints .u8 (X1.length + 40) (List.replicate (X1.length + 40) 2)]⟩] := by
 refine con_in 64 Tryz.func78 rfl rfl (m := 6) rfl ?_
 intro E hP hn hE
 refine w_seq ?_
 refine g_reg hP hn ?_
 refine s_op k_as ?_
 refine s_nil trivial ?_
 refine n_wp ?_
 refine w_seq ?_
 refine w_seq ?_
 refine g_reg hP hn ?_
 refine s_op k_as ?_
 refine s_nil trivial ?_
 refine n_wp ?_
 refine w_block ?_
 refine c_loop (fun m_ T H => (m_ = 2 ∧ T = [(0, .s (.ptr 0 0 0)), (3, .s (.int .i64 ((0 : Nat) : Int)))] ∧ H = [some ⟨true, [.one (.int .i64 ((2 : Nat) : Int)), .one (.gro 3 3 2), .one .nils, .one .nils, .one .nils, .one .nils, .one .nils, .one .nils, .one .nils, .one .nils, .one .nils, .one .nils, .one .nils, .one .nils, .one .nils, .one .nils]⟩, some ⟨true, [.ints .u8 (X0.length + 1) (List.replicate (X0.length + 1) 1)]⟩, some ⟨true, [.ints .u8 X1.length (List.replicate X1.length 2)]⟩, some ⟨true, [.one (.slice 1 0 0 X0.length (X0.length + 1)), .one (.gro 4 1 (X0.length + 40)), .one (.int .i64 ((1 : Nat) : Int)), .one (.slice 2 0 0 X1.length X1.length), .one (.gro 5 1 (X1.length + 40)), .one (.int .i64 ((2 : Nat) : Int))]⟩, some ⟨true, [.ints .u8 (X0.length + 40) (List.replicate (X0.length + 40) 1)]⟩, some ⟨true, [.ints .u8 (X1.length + 40) (List.replicate (X1.length + 40) 2)]⟩]) ∨ (m_ = 1 ∧ T = [(0, .s (.ptr 0 0 0)), (3, .s (.int .i64 ((1 : Nat) : Int)))] ∧ H = [some ⟨true, [.one (.int .i64 ((2 : Nat) : Int)), .one (.gro 3 3 2), .one .nils, .one .nils, .one .nils, .one .nils, .one .nils, .one .nils, .one .nils, .one .nils, .one .nils, .one .nils, .one .nils, .one .nils, .one .nils, .one .nils]⟩, some ⟨true, [.ints .u8 (X0.length + 1) (List.replicate (X0.length + 1) 1)]⟩, some ⟨true, [.ints .u8 X1.length (List.replicate X1.length 2)]⟩, some ⟨true, [.one (.slice 1 0 0 X0.length (X0.length + 1)), .one (.gro 4 1 (X0.length + 40)), .one (.int .i64 ((1 : Nat) : Int)), .one (.slice 2 0 0 X1.length X1.length), .one (.gro 5 1 (X1.length + 40)), .one (.int .i64 ((2 : Nat) : Int))]⟩, some ⟨true, [.ints .u8 (X0.length + 40) (List.replicate (X0.length + 40) 1)]⟩, some ⟨true, [.ints .u8 (X1.length + 40) (List.replicate (X1.length + 40) 2)]⟩]) ∨ (m_ = 0 ∧ T = [(0, .s (.ptr 0 0 0)), (3, .s (.int .i64 ((2 : Nat) : Int)))] ∧ H = [some ⟨true, [.one (.int .i64 ((2 : Nat) : Int)), .one (.gro 3 3 2), .one .nils, .one .nils, .one .nils, .one .nils, .one .nils, .one .nils, .one .nils, .one .nils, .one .nils, .one .nils, .one .nils, .one .nils, .one .nils, .one .nils]⟩, some ⟨true, [.ints .u8 (X0.length + 1) (List.replicate (X0.length + 1) 1)]⟩, some ⟨true, [.ints .u8 X1.length (List.replicate X1.length 2)]⟩, some ⟨true, [.one (.slice 1 0 0 X0.length (X0.length + 1)), .one (.gro 4 1 (X0.length + 40)), .one (.int .i64 ((1 : Nat) : Int)), .one (.slice 2 0 0 X1.length X1.length), .one (.gro 5 1 (X1.length + 40)), .one (.int .i64 ((2 : Nat) : Int))]⟩, some ⟨true, [.ints .u8 (X0.length + 40) (List.replicate (X0.length + 40) 1)]⟩, some ⟨true, [.ints .u8 (X1.length + 40) (List.replicate (X1.length + 40) 2)]⟩])) (2) (.inl ⟨rfl, rfl, rfl⟩) (wk hE [0, 1, 2, 3, 4, 5]) ?_
 rintro n_ T_ H_ (⟨rfl, rfl, rfl⟩ | ⟨rfl, rfl, rfl⟩ | ⟨rfl, rfl, rfl⟩)
 · skip
   refine w_seq ?_
   refine w_seq ?_
   refine g_reg hP hn ?_
   refine s_op k_mv ?_
   refine s_op k_mv ?_
   refine s_op k_nc ?_
   refine s_op k_fa ?_
   refine s_op k_ld ?_
   refine s_op k_len ?_
   refine s_op k_lss ?_
   refine s_nil trivial ?_
   refine n_wp ?_
   refine w_T rfl ?_ 
   refine w_skip ?_
   refine n_wp ?_
   refine w_seq ?_
   refine w_block ?_
   refine w_seq ?_
   refine g_reg hP hn ?_
   refine s_op k_mv ?_
   refine s_op k_nc ?_
   refine s_op k_fa ?_
   refine s_op k_ld ?_
   refine s_op k_mv ?_
   refine s_op (k_ixG 0 0) ?_
   refine s_op (k_ld (h := by exact a_load_agg (sub := [.one (.slice 1 0 0 X0.length (X0.length + 1)), .one (.gro 4 1 (X0.length + 40)), .one (.int .i64 ((1 : Nat) : Int))]) (r := [.one (.slice 1 0 0 X0.length (X0.length + 1)), .one (.gro 4 1 (X0.length + 40)), .one (.int .i64 ((1 : Nat) : Int)), .one (.slice 2 0 0 X1.length X1.length), .one (.gro 5 1 (X1.length + 40)), .one (.int .i64 ((2 : Nat) : Int))]) rfl rfl (by kernel_rfl) (by kernel_rfl))) ?_
   refine s_op k_al ?_
   refine s_st (k_st (h := by exact a_store_agg rfl rfl rfl (put_w (by kernel_rfl)) (by exact Nat.le_of_ble_eq_true rfl) (by kernel_rfl) (by repeat (first | exact hset_0 | apply hset_s)))) ?_
   refine s_nil trivial ?_
   refine n_wp ?_
   refine w_seq ?_
   refine w_seq ?_
   refine g_reg hP hn ?_
   refine s_op k_fa ?_
   refine s_op k_ld ?_
   refine s_op k_len ?_
   refine s_op k_fa ?_
   refine s_op k_ld ?_
   refine s_op k_len ?_
   refine s_op k_add ?_
   refine s_op (l_bin rfl rfl (b_neq (r := false) (decide_eq_false (by omega)))) ?_
   refine s_nil trivial ?_
   refine n_wp ?_
   refine w_F rfl ?_ 
   refine w_skip ?_
   refine n_wp ?_
   refine w_seq ?_
   refine g_reg hP hn ?_
   refine s_op k_as ?_
   refine s_nil trivial ?_
   refine n_wp ?_
   refine w_block ?_
   refine c_loop (fun m_ T H => ∃ k, k ≤ X0.length + 40 ∧ m_ = X0.length + 40 - k ∧ T = [(0, .s (.ptr 0 0 0)), (3, .s (.int .i64 ((0 : Nat) : Int))), (4, .s (.ptr 6 0 0)), (5, .s (.int .i64 ((k : Nat) : Int)))] ∧ H = [some ⟨true, [.one (.int .i64 ((2 : Nat) : Int)), .one (.gro 3 3 2), .one .nils, .one .nils, .one .nils, .one .nils, .one .nils, .one .nils, .one .nils, .one .nils, .one .nils, .one .nils, .one .nils, .one .nils, .one .nils, .one .nils]⟩, some ⟨true, [.ints .u8 (X0.length + 1) (List.replicate (X0.length + 1) 1)]⟩, some ⟨true, [.ints .u8 X1.length (List.replicate X1.length 2)]⟩, some ⟨true, [.one (.slice 1 0 0 X0.length (X0.length + 1)), .one (.gro 4 1 (X0.length + 40)), .one (.int .i64 ((1 : Nat) : Int)), .one (.slice 2 0 0 X1.length X1.length), .one (.gro 5 1 (X1.length + 40)), .one (.int .i64 ((2 : Nat) : Int))]⟩, some ⟨true, [.ints .u8 (X0.length + 40) (List.replicate (X0.length + 40) 1)]⟩, some ⟨true, [.ints .u8 (X1.length + 40) (List.replicate (X1.length + 40) 2)]⟩, some ⟨true, [.one (.slice 1 0 0 X0.length (X0.length + 1)), .one (.gro 4 1 (X0.length + 40)), .one (.int .i64 ((1 : Nat) : Int))]⟩]) (X0.length + 40) ⟨0, by omega, rfl, rfl, rfl⟩ (wk hE [0, 1, 2, 3, 4, 5, 6]) ?_
   rintro n_ T_ H_ ⟨k, hk, rfl, rfl, rfl⟩
   refine w_seq ?_
   refine w_seq ?_
   refine g_reg hP hn ?_
   refine s_op k_mv ?_
   refine s_op k_fa ?_
   refine s_op k_ld ?_
   refine s_op k_len ?_
   refine s_op k_lss ?_
   refine s_nil trivial ?_
   refine n_wp ?_
   refine w_if rfl (fun h_t34 => ?_) (fun h_t34 => ?_)
   · skip
     refine w_skip ?_
     refine n_wp ?_
     refine w_seq ?_
     refine w_block ?_
     refine w_seq ?_
     refine g_any hP hn ?_
     refine s_op k_fa ?_
     refine s_op k_ld ?_
     refine s_op k_mv ?_
     refine s_op k_ix ?_
     refine s_op k_ld ?_
     refine s_op k_fa ?_
     refine s_op k_ld ?_
     refine s_op (k_call [] (con := is_t 1 _ (by decide) (rep_g _ _ _ (by omega)))) ?_
     refine s_op k_not ?_
     refine s_op k_mv ?_
     refine s_on rfl rfl rfl k_mv ?_
     refine s_on rfl rfl rfl k_fa ?_
     refine s_on rfl rfl rfl k_ld ?_
     refine s_on rfl rfl rfl k_len ?_
     refine s_on rfl rfl rfl k_lss ?_
     refine s_on rfl rfl rfl k_mv ?_
     refine s_opt rfl rfl (fun hB => by rw [hB]; (try simp only [Bool.or_eq_true, Bool.or_eq_false_iff, Bool.and_eq_true, Bool.not_eq_true', Bool.not_eq_false', decide_eq_true_eq, decide_eq_false_iff_not] at hB); exact k_fa) ?_
     refine s_opt rfl rfl (fun hB => by rw [hB]; (try simp only [Bool.or_eq_true, Bool.or_eq_false_iff, Bool.and_eq_true, Bool.not_eq_true', Bool.not_eq_false', decide_eq_true_eq, decide_eq_false_iff_not] at hB); exact k_ld) ?_
     refine s_opt rfl rfl (fun hB => by rw [hB]; (try simp only [Bool.or_eq_true, Bool.or_eq_false_iff, Bool.and_eq_true, Bool.not_eq_true', Bool.not_eq_false', decide_eq_true_eq, decide_eq_false_iff_not] at hB); exact k_mv) ?_
     refine s_opt rfl rfl (fun hB => by rw [hB]; (try simp only [Bool.or_eq_true, Bool.or_eq_false_iff, Bool.and_eq_true, Bool.not_eq_true', Bool.not_eq_false', decide_eq_true_eq, decide_eq_false_iff_not] at hB); exact k_ix) ?_
     refine s_opt rfl rfl (fun hB => by rw [hB]; (try simp only [Bool.or_eq_true, Bool.or_eq_false_iff, Bool.and_eq_true, Bool.not_eq_true', Bool.not_eq_false', decide_eq_true_eq, decide_eq_false_iff_not] at hB); exact k_ld) ?_
     refine s_opt rfl rfl (fun hB => by rw [hB]; (try simp only [Bool.or_eq_true, Bool.or_eq_false_iff, Bool.and_eq_true, Bool.not_eq_true', Bool.not_eq_false', decide_eq_true_eq, decide_eq_false_iff_not] at hB); exact k_fa) ?_
     refine s_opt rfl rfl (fun hB => by rw [hB]; (try simp only [Bool.or_eq_true, Bool.or_eq_false_iff, Bool.and_eq_true, Bool.not_eq_true', Bool.not_eq_false', decide_eq_true_eq, decide_eq_false_iff_not] at hB); exact k_ld) ?_
     refine s_opt rfl rfl (fun hB => by rw [hB]; (try simp only [Bool.or_eq_true, Bool.or_eq_false_iff, Bool.and_eq_true, Bool.not_eq_true', Bool.not_eq_false', decide_eq_true_eq, decide_eq_false_iff_not] at hB); exact k_call [] (con := is_t 1 _ (by decide) (rep_g _ _ _ (by omega)))) ?_
     refine s_opt rfl rfl (fun hB => by rw [hB]; (try simp only [Bool.or_eq_true, Bool.or_eq_false_iff, Bool.and_eq_true, Bool.not_eq_true', Bool.not_eq_false', decide_eq_true_eq, decide_eq_false_iff_not] at hB); exact k_not) ?_
     refine s_on rfl rfl rfl k_pk ?_
     refine s_op k_pk ?_
     refine s_nil (by kernel_rfl) ?_
     refine n_wp ?_
     refine w_F rfl ?_ (by first | rfl | exact Bool.and_false _ | simp)
     refine w_skip ?_
     refine n_blo ?_
     refine n_wp ?_
     refine g_reg hP hn ?_
     refine s_op k_mv ?_
     refine s_op k_add ?_
     refine s_op k_as ?_
     refine s_nil trivial ?_
     exact n_round (X0.length + 40 - (k + 1)) (by omega) ⟨k + 1, by omega, rfl, rfl, rfl⟩ (wk hE [0, 1, 2, 3, 4, 5, 6])
   · skip
     obtain rfl : k = X0.length + 40 := by omega
     refine w_exit ?_
     refine x_thn ?_
     refine x_thn ?_
     refine x_eq ?_
     refine n_blo ?_
     refine n_wp ?_
     refine g_reg hP hn ?_
     refine s_op k_mv ?_
     refine s_op k_add ?_
     refine s_op k_as ?_
     refine s_nil trivial ?_
     exact n_round 1 (by omega) (.inr (.inl ⟨rfl, rfl, rfl⟩)) (wk hE [0, 1, 2, 3, 4, 5])
 · skip
   refine w_seq ?_
   refine w_seq ?_
   refine g_reg hP hn ?_
   refine s_op k_mv ?_
   refine s_op k_mv ?_
   refine s_op k_nc ?_
   refine s_op k_fa ?_
   refine s_op k_ld ?_
   refine s_op k_len ?_
   refine s_op k_lss ?_
   refine s_nil trivial ?_
   refine n_wp ?_
   refine w_T rfl ?_ 
   refine w_skip ?_
   refine n_wp ?_
   refine w_seq ?_
   refine w_block ?_
   refine w_seq ?_
   refine g_reg hP hn ?_
   refine s_op k_mv ?_
   refine s_op k_nc ?_
   refine s_op k_fa ?_
   refine s_op k_ld ?_
   refine s_op k_mv ?_
   refine s_op (k_ixG 3 1) ?_
   refine s_op (k_ld (h := by exact a_load_agg (sub := [.one (.slice 2 0 0 X1.length X1.length), .one (.gro 5 1 (X1.length + 40)), .one (.int .i64 ((2 : Nat) : Int))]) (r := [.one (.slice 2 0 0 X1.length X1.length), .one (.gro 5 1 (X1.length + 40)), .one (.int .i64 ((2 : Nat) : Int))]) rfl rfl (by kernel_rfl) (by kernel_rfl))) ?_
   refine s_op k_al ?_
   refine s_st (k_st (h := by exact a_store_agg rfl rfl rfl (put_w (by kernel_rfl)) (by exact Nat.le_of_ble_eq_true rfl) (by kernel_rfl) (by repeat (first | exact hset_0 | apply hset_s)))) ?_
   refine s_nil trivial ?_
   refine n_wp ?_
   refine w_seq ?_
   refine w_seq ?_
   refine g_reg hP hn ?_
   refine s_op k_fa ?_
   refine s_op k_ld ?_
   refine s_op k_len ?_
   refine s_op k_fa ?_
   refine s_op k_ld ?_
   refine s_op k_len ?_
   refine s_op k_add ?_
   refine s_op (l_bin rfl rfl (b_neq (r := false) (decide_eq_false (by omega)))) ?_
   refine s_nil trivial ?_
   refine n_wp ?_
   refine w_F rfl ?_ 
   refine w_skip ?_
   refine n_wp ?_
   refine w_seq ?_
   refine g_reg hP hn ?_
   refine s_op k_as ?_
   refine s_nil trivial ?_
   refine n_wp ?_
   refine w_block ?_
   refine c_loop (fun m_ T H => ∃ k, k ≤ X1.length + 40 ∧ m_ = X1.length + 40 - k ∧ T = [(0, .s (.ptr 0 0 0)), (3, .s (.int .i64 ((1 : Nat) : Int))), (4, .s (.ptr 6 0 0)), (5, .s (.int .i64 ((k : Nat) : Int)))] ∧ H = [some ⟨true, [.one (.int .i64 ((2 : Nat) : Int)), .one (.gro 3 3 2), .one .nils, .one .nils, .one .nils, .one .nils, .one .nils, .one .nils, .one .nils, .one .nils, .one .nils, .one .nils, .one .nils, .one .nils, .one .nils, .one .nils]⟩, some ⟨true, [.ints .u8 (X0.length + 1) (List.replicate (X0.length + 1) 1)]⟩, some ⟨true, [.ints .u8 X1.length (List.replicate X1.length 2)]⟩, some ⟨true, [.one (.slice 1 0 0 X0.length (X0.length + 1)), .one (.gro 4 1 (X0.length + 40)), .one (.int .i64 ((1 : Nat) : Int)), .one (.slice 2 0 0 X1.length X1.length), .one (.gro 5 1 (X1.length + 40)), .one (.int .i64 ((2 : Nat) : Int))]⟩, some ⟨true, [.ints .u8 (X0.length + 40) (List.replicate (X0.length + 40) 1)]⟩, some ⟨true, [.ints .u8 (X1.length + 40) (List.replicate (X1.length + 40) 2)]⟩, some ⟨true, [.one (.slice 2 0 0 X1.length X1.length), .one (.gro 5 1 (X1.length + 40)), .one (.int .i64 ((2 : Nat) : Int))]⟩]) (X1.length + 40) ⟨0, by omega, rfl, rfl, rfl⟩ (wk hE [0, 1, 2, 3, 4, 5, 6]) ?_
   rintro n_ T_ H_ ⟨k, hk, rfl, rfl, rfl⟩
   refine w_seq ?_
   refine w_seq ?_
   refine g_reg hP hn ?_
   refine s_op k_mv ?_
   refine s_op k_fa ?_
   refine s_op k_ld ?_
   refine s_op k_len ?_
   refine s_op k_lss ?_
   refine s_nil trivial ?_
   refine n_wp ?_
   refine w_if rfl (fun h_t34 => ?_) (fun h_t34 => ?_)
   · skip
     refine w_skip ?_
     refine n_wp ?_
     refine w_seq ?_
     refine w_block ?_
     refine w_seq ?_
     refine g_any hP hn ?_
     refine s_op k_fa ?_
     refine s_op k_ld ?_
     refine s_op k_mv ?_
     refine s_op k_ix ?_
     refine s_op k_ld ?_
     refine s_op k_fa ?_
     refine s_op k_ld ?_
     refine s_op (k_call [] (con := is_t 2 _ (by decide) (rep_g _ _ _ (by omega)))) ?_
     refine s_op k_not ?_
     refine s_op k_mv ?_
     refine s_on rfl rfl rfl k_mv ?_
     refine s_on rfl rfl rfl k_fa ?_
     refine s_on rfl rfl rfl k_ld ?_
     refine s_on rfl rfl rfl k_len ?_
     refine s_on rfl rfl rfl k_lss ?_
     refine s_on rfl rfl rfl k_mv ?_
     refine s_opt rfl rfl (fun hB => by rw [hB]; (try simp only [Bool.or_eq_true, Bool.or_eq_false_iff, Bool.and_eq_true, Bool.not_eq_true', Bool.not_eq_false', decide_eq_true_eq, decide_eq_false_iff_not] at hB); exact k_fa) ?_
     refine s_opt rfl rfl (fun hB => by rw [hB]; (try simp only [Bool.or_eq_true, Bool.or_eq_false_iff, Bool.and_eq_true, Bool.not_eq_true', Bool.not_eq_false', decide_eq_true_eq, decide_eq_false_iff_not] at hB); exact k_ld) ?_
     refine s_opt rfl rfl (fun hB => by rw [hB]; (try simp only [Bool.or_eq_true, Bool.or_eq_false_iff, Bool.and_eq_true, Bool.not_eq_true', Bool.not_eq_false', decide_eq_true_eq, decide_eq_false_iff_not] at hB); exact k_mv) ?_
     refine s_opt rfl rfl (fun hB => by rw [hB]; (try simp only [Bool.or_eq_true, Bool.or_eq_false_iff, Bool.and_eq_true, Bool.not_eq_true', Bool.not_eq_false', decide_eq_true_eq, decide_eq_false_iff_not] at hB); exact k_ix) ?_
     refine s_opt rfl rfl (fun hB => by rw [hB]; (try simp only [Bool.or_eq_true, Bool.or_eq_false_iff, Bool.and_eq_true, Bool.not_eq_true', Bool.not_eq_false', decide_eq_true_eq, decide_eq_false_iff_not] at hB); exact k_ld) ?_
     refine s_opt rfl rfl (fun hB => by rw [hB]; (try simp only [Bool.or_eq_true, Bool.or_eq_false_iff, Bool.and_eq_true, Bool.not_eq_true', Bool.not_eq_false', decide_eq_true_eq, decide_eq_false_iff_not] at hB); exact k_fa) ?_
     refine s_opt rfl rfl (fun hB => by rw [hB]; (try simp only [Bool.or_eq_true, Bool.or_eq_false_iff, Bool.and_eq_true, Bool.not_eq_true', Bool.not_eq_false', decide_eq_true_eq, decide_eq_false_iff_not] at hB); exact k_ld) ?_
     refine s_opt rfl rfl (fun hB => by rw [hB]; (try simp only [Bool.or_eq_true, Bool.or_eq_false_iff, Bool.and_eq_true, Bool.not_eq_true', Bool.not_eq_false', decide_eq_true_eq, decide_eq_false_iff_not] at hB); exact k_call [] (con := is_t 2 _ (by decide) (rep_g _ _ _ (by omega)))) ?_
     refine s_opt rfl rfl (fun hB => by rw [hB]; (try simp only [Bool.or_eq_true, Bool.or_eq_false_iff, Bool.and_eq_true, Bool.not_eq_true', Bool.not_eq_false', decide_eq_true_eq, decide_eq_false_iff_not] at hB); exact k_not) ?_
     refine s_on rfl rfl rfl k_pk ?_
     refine s_op k_pk ?_
     refine s_nil (by kernel_rfl) ?_
     refine n_wp ?_
     refine w_F rfl ?_ (by first | rfl | exact Bool.and_false _ | simp)
     refine w_skip ?_
     refine n_blo ?_
     refine n_wp ?_
     refine g_reg hP hn ?_
     refine s_op k_mv ?_
     refine s_op k_add ?_
     refine s_op k_as ?_
     refine s_nil trivial ?_
     exact n_round (X1.length + 40 - (k + 1)) (by omega) ⟨k + 1, by omega, rfl, rfl, rfl⟩ (wk hE [0, 1, 2, 3, 4, 5, 6])
   · skip
     obtain rfl : k = X1.length + 40 := by omega
     refine w_exit ?_
     refine x_thn ?_
     refine x_thn ?_
     refine x_eq ?_
     refine n_blo ?_
     refine n_wp ?_
     refine g_reg hP hn ?_
     refine s_op k_mv ?_
     refine s_op k_add ?_
     refine s_op k_as ?_
     refine s_nil trivial ?_
     exact n_round 0 (by omega) (.inr (.inr (⟨rfl, rfl, rfl⟩))) (wk hE [0, 1, 2, 3, 4, 5])
 · skip
   refine w_seq ?_
   refine w_seq ?_
   refine g_reg hP hn ?_
   refine s_op k_mv ?_
   refine s_op k_mv ?_
   refine s_op k_nc ?_
   refine s_op k_fa ?_
   refine s_op k_ld ?_
   refine s_op k_len ?_
   refine s_op k_lss ?_
   refine s_nil trivial ?_
   refine n_wp ?_
   refine w_F rfl ?_ 
   refine w_exit ?_
   refine x_thn ?_
   refine x_thn ?_
   refine x_eq ?_
   refine n_wp ?_
   refine w_seq ?_
   refine g_reg hP hn ?_
   refine s_op k_as ?_
   refine s_nil trivial ?_
   refine n_wp ?_
   refine w_ret ?_
   exact d_ret hP hn hE [0, 1, 2, 3, 4, 5] (by first | exact r_tmp Tryz.results78 | exact r_tmpa Tryz.results78)

theorem fill_AC (X0 : List Int) (hX0 : X0.length ≤ 100000) : Con Tryz.prog 48 [.s (.ptr 0 0 0)] [some ⟨true, [.one (.int .i64 ((2 : Nat) : Int)), .one (.gro 2 3 2), .one .nils, .one .nils, .one .nils, .one .nils, .one .nils, .one .nils, .one .nils, .one .nils, .one .nils, .one .nils, .one .nils, .one .nils, .one .nils, .one .nils]⟩, some ⟨true, [.ints .u8 (X0.length + 1) (X0 ++ [77])]⟩, some ⟨true, [.one (.slice 1 0 0 X0.length (X0.length + 1)), .one .nils, .one (.int .i64 ((1 : Nat) : Int)), .one .nils, .one .nils, .one (.int .i64 ((2 : Nat) : Int))]⟩] (.tup []) [some ⟨true, [.one (.int .i64 ((2 : Nat) : Int)), .one (.gro 2 3 2), .one .nils, .one .nils, .one .nils, .one .nils, .one .nils, .one .nils, .one .nils, .one .nils, .one .nils, .one .nils, .one .nils, .one .nils, .one .nils, .one .nils]⟩, some ⟨true, [.ints .u8 (X0.length + 1) (List.replicate X0.length 1 ++ [77])]⟩, some ⟨true, [.one (.slice 1 0 0 X0.length (X0.length + 1)), .one .nils, .one (.int .i64 ((1 : Nat) : Int)), .one .nils, .one .nils, .one (.int .i64 ((2 : Nat) : Int))]⟩] := by
 refine con_in 35 Tryz.func48 rfl rfl (m := 3) rfl ?_
 intro E hP hn hE
 refine w_seq ?_
 refine g_reg hP hn ?_
 refine s_op k_as ?_
 refine s_nil trivial ?_
 refine n_wp ?_
 refine w_block ?_
 refine c_loop (fun m_ T H => (m_ = 2 ∧ T = [(0, .s (.ptr 0 0 0)), (2, .s (.int .i64 ((0 : Nat) : Int)))] ∧ H = [some ⟨true, [.one (.int .i64 ((2 : Nat) : Int)), .one (.gro 2 3 2), .one .nils, .one .nils, .one .nils, .one .nils, .one .nils, .one .nils, .one .nils, .one .nils, .one .nils, .one .nils, .one .nils, .one .nils, .one .nils, .one .nils]⟩, some ⟨true, [.ints .u8 (X0.length + 1) (X0 ++ [77])]⟩, some ⟨true, [.one (.slice 1 0 0 X0.length (X0.length + 1)), .one .nils, .one (.int .i64 ((1 : Nat) : Int)), .one .nils, .one .nils, .one (.int .i64 ((2 : Nat) : Int))]⟩]) ∨ (m_ = 1 ∧ T = [(0, .s (.ptr 0 0 0)), (2, .s (.int .i64 ((1 : Nat) : Int)))] ∧ H = [some ⟨true, [.one (.int .i64 ((2 : Nat) : Int)), .one (.gro 2 3 2), .one .nils, .one .nils, .one .nils, .one .nils, .one .nils, .one .nils, .one .nils, .one .nils, .one .nils, .one .nils, .one .nils, .one .nils, .one .nils, .one .nils]⟩, some ⟨true, [.ints .u8 (X0.length + 1) (List.replicate X0.length 1 ++ [77])]⟩, some ⟨true, [.one (.slice 1 0 0 X0.length (X0.length + 1)), .one .nils, .one (.int .i64 ((1 : Nat) : Int)), .one .nils, .one .nils, .one (.int .i64 ((2 : Nat) : Int))]⟩]) ∨ (m_ = 0 ∧ T = [(0, .s (.ptr 0 0 0)), (2, .s (.int .i64 ((2 : Nat) : Int)))] ∧ H = [some ⟨true, [.one (.int .i64 ((2 : Nat) : Int)), .one (.gro 2 3 2), .one .nils, .one .nils, .one .nils, .one .nils, .one .nils, .one .nils, .one .nils, .one .nils, .one .nils, .one .nils, .one .nils, .one .nils, .one .nils, .one .nils]⟩, some ⟨true, [.ints .u8 (X0.length + 1) (List.replicate X0.length 1 ++ [77])]⟩, some ⟨true, [.one (.slice 1 0 0 X0.length (X0.length + 1)), .one .nils, .one (.int .i64 ((1 : Nat) : Int)), .one .nils, .one .nils, .one (.int .i64 ((2 : Nat) : Int))]⟩])) (2) (.inl ⟨rfl, rfl, rfl⟩) (wk hE [0, 1, 2]) ?_
 rintro n_ T_ H_ (⟨rfl, rfl, rfl⟩ | ⟨rfl, rfl, rfl⟩ | ⟨rfl, rfl, rfl⟩)
 · skip
   refine w_seq ?_
   refine w_seq ?_
   refine g_reg hP hn ?_
   refine s_op k_mv ?_
   refine s_op k_mv ?_
   refine s_op k_nc ?_
   refine s_op k_fa ?_
   refine s_op k_ld ?_
   refine s_op k_len ?_
   refine s_op k_lss ?_
   refine s_nil trivial ?_
   refine n_wp ?_
   refine w_T rfl ?_ 
   refine w_skip ?_
   refine n_wp ?_
   refine w_seq ?_
   refine w_block ?_
   refine w_seq ?_
   refine g_reg hP hn ?_
   refine s_op k_mv ?_
   refine s_op k_nc ?_
   refine s_op k_fa ?_
   refine s_op k_ld ?_
   refine s_op k_mv ?_
   refine s_op (k_ixG 0 0) ?_
   refine s_op (k_ld (h := by exact a_load_agg (sub := [.one (.slice 1 0 0 X0.length (X0.length + 1)), .one .nils, .one (.int .i64 ((1 : Nat) : Int))]) (r := [.one (.slice 1 0 0 X0.length (X0.length + 1)), .one .nils, .one (.int .i64 ((1 : Nat) : Int)), .one .nils, .one .nils, .one (.int .i64 ((2 : Nat) : Int))]) rfl rfl (by kernel_rfl) (by kernel_rfl))) ?_
   refine s_op k_al ?_
   refine s_st (k_st (h := by exact a_store_agg rfl rfl rfl (put_w (by kernel_rfl)) (by exact Nat.le_of_ble_eq_true rfl) (by kernel_rfl) (by repeat (first | exact hset_0 | apply hset_s)))) ?_
   refine s_nil trivial ?_
   refine n_wp ?_
   refine w_seq ?_
   refine g_reg hP hn ?_
   refine s_op k_as ?_
   refine s_nil trivial ?_
   refine n_wp ?_
   refine w_block ?_
   refine c_loop (fun m_ T H => ∃ k, k ≤ X0.length ∧ m_ = X0.length - k ∧ T = [(0, .s (.ptr 0 0 0)), (2, .s (.int .i64 ((0 : Nat) : Int))), (3, .s (.ptr 3 0 0)), (4, .s (.int .i64 ((k : Nat) : Int)))] ∧ H = [some ⟨true, [.one (.int .i64 ((2 : Nat) : Int)), .one (.gro 2 3 2), .one .nils, .one .nils, .one .nils, .one .nils, .one .nils, .one .nils, .one .nils, .one .nils, .one .nils, .one .nils, .one .nils, .one .nils, .one .nils, .one .nils]⟩, some ⟨true, [.ints .u8 (X0.length + 1) (fillT (X0 ++ [77]) 1 k)]⟩, some ⟨true, [.one (.slice 1 0 0 X0.length (X0.length + 1)), .one .nils, .one (.int .i64 ((1 : Nat) : Int)), .one .nils, .one .nils, .one (.int .i64 ((2 : Nat) : Int))]⟩, some ⟨true, [.one (.slice 1 0 0 X0.length (X0.length + 1)), .one .nils, .one (.int .i64 ((1 : Nat) : Int))]⟩]) (X0.length) ⟨0, by omega, rfl, rfl, rfl⟩ (wk hE [0, 1, 2, 3]) ?_
   rintro n_ T_ H_ ⟨k, hk, rfl, rfl, rfl⟩
   have hfl := fillT_len (X0 ++ [77]) 1 k
   have hal : (X0 ++ [77]).length = X0.length + 1 := by simp
   refine w_seq ?_
   refine w_seq ?_
   refine g_reg hP hn ?_
   refine s_op k_mv ?_
   refine s_op k_fa ?_
   refine s_op k_ld ?_
   refine s_op k_len ?_
   refine s_op k_lss ?_
   refine s_nil trivial ?_
   refine n_wp ?_
   refine w_if rfl (fun h_t25 => ?_) (fun h_t25 => ?_)
   · skip
     refine w_skip ?_
     refine n_wp ?_
     refine w_seq ?_
     refine w_block ?_
     refine g_any hP hn ?_
     refine s_op k_fa ?_
     refine s_op k_ld ?_
     refine s_op k_mv ?_
     refine s_op k_fa ?_
     refine s_op k_ld ?_
     refine s_op (k_call [] (con := mark_c 1 (by decide))) ?_
     refine s_op k_ix ?_
     refine s_st k_st ?_
     refine s_nil (by kernel_rfl) ?_
     refine n_blo ?_
     refine n_wp ?_
     refine g_reg hP hn ?_
     refine s_op k_mv ?_
     refine s_op k_add ?_
     refine s_op k_as ?_
     refine s_nil trivial ?_
     exact n_round (X0.length - (k + 1)) (by omega) ⟨k + 1, by omega, rfl, rfl, rfl⟩ (wk hE [0, 1, 2, 3])
   · skip
     obtain rfl : k = X0.length := by omega
     rw [fillT_a]
     refine w_exit ?_
     refine x_thn ?_
     refine x_thn ?_
     refine x_eq ?_
     refine n_blo ?_
     refine n_wp ?_
     refine g_reg hP hn ?_
     refine s_op k_mv ?_
     refine s_op k_add ?_
     refine s_op k_as ?_
     refine s_nil trivial ?_
     exact n_round 1 (by omega) (.inr (.inl ⟨rfl, rfl, rfl⟩)) (wk hE [0, 1, 2])
 · skip
   refine w_seq ?_
   refine w_seq ?_
   refine g_reg hP hn ?_
   refine s_op k_mv ?_
   refine s_op k_mv ?_
   refine s_op k_nc ?_
   refine s_op k_fa ?_
   refine s_op k_ld ?_
   refine s_op k_len ?_
   refine s_op k_lss ?_
   refine s_nil trivial ?_
   refine n_wp ?_
   refine w_T rfl ?_ 
   refine w_skip ?_
   refine n_wp ?_
   refine w_seq ?_
   refine w_block ?_
   refine w_seq ?_
   refine g_reg hP hn ?_
   refine s_op k_mv ?_
   refine s_op k_nc ?_
   refine s_op k_fa ?_
   refine s_op k_ld ?_
   refine s_op k_mv ?_
   refine s_op (k_ixG 3 1) ?_
   refine s_op (k_ld (h := by exact a_load_agg (sub := [.one .nils, .one .nils, .one (.int .i64 ((2 : Nat) : Int))]) (r := [.one .nils, .one .nils, .one (.int .i64 ((2 : Nat) : Int))]) rfl rfl (by kernel_rfl) (by kernel_rfl))) ?_
   refine s_op k_al ?_
   refine s_st (k_st (h := by exact a_store_agg rfl rfl rfl (put_w (by kernel_rfl)) (by exact Nat.le_of_ble_eq_true rfl) (by kernel_rfl) (by repeat (first | exact hset_0 | apply hset_s)))) ?_
   refine s_nil trivial ?_
   refine n_wp ?_
   refine w_seq ?_
   refine g_reg hP hn ?_
   refine s_op k_as ?_
   refine s_nil trivial ?_
   refine n_wp ?_
   refine w_block ?_
   refine c_loop (fun m_ T H => m_ = 0 ∧ T = [(0, .s (.ptr 0 0 0)), (2, .s (.int .i64 ((1 : Nat) : Int))), (3, .s (.ptr 3 0 0)), (4, .s (.int .i64 ((0 : Nat) : Int)))] ∧ H = [some ⟨true, [.one (.int .i64 ((2 : Nat) : Int)), .one (.gro 2 3 2), .one .nils, .one .nils, .one .nils, .one .nils, .one .nils, .one .nils, .one .nils, .one .nils, .one .nils, .one .nils, .one .nils, .one .nils, .one .nils, .one .nils]⟩, some ⟨true, [.ints .u8 (X0.length + 1) (List.replicate X0.length 1 ++ [77])]⟩, some ⟨true, [.one (.slice 1 0 0 X0.length (X0.length + 1)), .one .nils, .one (.int .i64 ((1 : Nat) : Int)), .one .nils, .one .nils, .one (.int .i64 ((2 : Nat) : Int))]⟩, some ⟨true, [.one .nils, .one .nils, .one (.int .i64 ((2 : Nat) : Int))]⟩]) (0) ⟨rfl, rfl, rfl⟩ (wk hE [0, 1, 2, 3]) ?_
   rintro n_ T_ H_ ⟨rfl, rfl, rfl⟩
   refine w_seq ?_
   refine w_seq ?_
   refine g_reg hP hn ?_
   refine s_op k_mv ?_
   refine s_op k_fa ?_
   refine s_op k_ld ?_
   refine s_op k_len ?_
   refine s_op k_lss ?_
   refine s_nil trivial ?_
   refine n_wp ?_
   refine w_F rfl ?_ 
   refine w_exit ?_
   refine x_thn ?_
   refine x_thn ?_
   refine x_eq ?_
   refine n_blo ?_
   refine n_wp ?_
   refine g_reg hP hn ?_
   refine s_op k_mv ?_
   refine s_op k_add ?_
   refine s_op k_as ?_
   refine s_nil trivial ?_
   exact n_round 0 (by omega) (.inr (.inr (⟨rfl, rfl, rfl⟩))) (wk hE [0, 1, 2])
 · skip
   refine w_seq ?_
   refine w_seq ?_
   refine g_reg hP hn ?_
   refine s_op k_mv ?_
   refine s_op k_mv ?_
   refine s_op k_nc ?_
   refine s_op k_fa ?_
   refine s_op k_ld ?_
   refine s_op k_len ?_
   refine s_op k_lss ?_
   refine s_nil trivial ?_
   refine n_wp ?_
   refine w_F rfl ?_ 
   refine w_exit ?_
   refine x_thn ?_
   refine x_thn ?_
   refine x_eq ?_
   exact d_ret hP hn hE [0, 1, 2] (ret_none Tryz.results48)

theorem grow_AC (X0 : List Int) (hX0 : X0.length ≤ 100000) : Con Tryz.prog 63 [.s (.ptr 0 0 0)] [some ⟨true, [.one (.int .i64 ((2 : Nat) : Int)), .one (.gro 2 3 2), .one .nils, .one .nils, .one .nils, .one .nils, .one .nils, .one .nils, .one .nils, .one .nils, .one .nils, .one .nils, .one .nils, .one .nils, .one .nils, .one .nils]⟩, some ⟨true, [.ints .u8 (X0.length + 1) (List.replicate X0.length 1 ++ [77])]⟩, some ⟨true, [.one (.slice 1 0 0 X0.length (X0.length + 1)), .one .nils, .one (.int .i64 ((1 : Nat) : Int)), .one .nils, .one .nils, .one (.int .i64 ((2 : Nat) : Int))]⟩] (.tup []) [some ⟨true, [.one (.int .i64 ((2 : Nat) : Int)), .one (.gro 2 3 2), .one .nils, .one .nils, .one .nils, .one .nils, .one .nils, .one .nils, .one .nils, .one .nils, .one .nils, .one .nils, .one .nils, .one .nils, .one .nils, .one .nils]⟩, some ⟨true, [.ints .u8 (X0.length + 1) (List.replicate (X0.length + 1) 1)]⟩, some ⟨true, [.one (.slice 1 0 0 X0.length (X0.length + 1)), .one (.gro 3 1 (X0.length + 40)), .one (.int .i64 ((1 : Nat) : Int)), .one .nils, .one (.gro 4 1 (0 + 40)), .one (.int .i64 ((2 : Nat) : Int))]⟩, some ⟨true, [.ints .u8 (X0.length + 40) (List.replicate (X0.length + 40) 1)]⟩, some ⟨true, [.ints .u8 (0 + 40) (List.replicate (0 + 40) 2)]⟩] := by
 refine con_in 42 Tryz.func63 rfl rfl (m := 3) rfl ?_
 intro E hP hn hE
 refine w_seq ?_
 refine g_reg hP hn ?_
 refine s_op k_as ?_
 refine s_nil trivial ?_
 refine n_wp ?_
 refine w_block ?_
 refine c_loop (fun m_ T H => (m_ = 2 ∧ T = [(0, .s (.ptr 0 0 0)), (2, .s (.int .i64 ((0 : Nat) : Int)))] ∧ H = [some ⟨true, [.one (.int .i64 ((2 : Nat) : Int)), .one (.gro 2 3 2), .one .nils, .one .nils, .one .nils, .one .nils, .one .nils, .one .nils, .one .nils, .one .nils, .one .nils, .one .nils, .one .nils, .one .nils, .one .nils, .one .nils]⟩, some ⟨true, [.ints .u8 (X0.length + 1) (List.replicate X0.length 1 ++ [77])]⟩, some ⟨true, [.one (.slice 1 0 0 X0.length (X0.length + 1)), .one .nils, .one (.int .i64 ((1 : Nat) : Int)), .one .nils, .one .nils, .one (.int .i64 ((2 : Nat) : Int))]⟩]) ∨ (m_ = 1 ∧ T = [(0, .s (.ptr 0 0 0)), (2, .s (.int .i64 ((1 : Nat) : Int)))] ∧ H = [some ⟨true, [.one (.int .i64 ((2 : Nat) : Int)), .one (.gro 2 3 2), .one .nils, .one .nils, .one .nils, .one .nils, .one .nils, .one .nils, .one .nils, .one .nils, .one .nils, .one .nils, .one .nils, .one .nils, .one .nils, .one .nils]⟩, some ⟨true, [.ints .u8 (X0.length + 1) (List.replicate (X0.length + 1) 1)]⟩, some ⟨true, [.one (.slice 1 0 0 X0.length (X0.length + 1)), .one (.gro 3 1 (X0.length + 40)), .one (.int .i64 ((1 : Nat) : Int)), .one .nils, .one .nils, .one (.int .i64 ((2 : Nat) : Int))]⟩, some ⟨true, [.ints .u8 (X0.length + 40) (List.replicate (X0.length + 40) 1)]⟩]) ∨ (m_ = 0 ∧ T = [(0, .s (.ptr 0 0 0)), (2, .s (.int .i64 ((2 : Nat) : Int)))] ∧ H = [some ⟨true, [.one (.int .i64 ((2 : Nat) : Int)), .one (.gro 2 3 2), .one .nils, .one .nils, .one .nils, .one .nils, .one .nils, .one .nils, .one .nils, .one .nils, .one .nils, .one .nils, .one .nils, .one .nils, .one .nils, .one .nils]⟩, some ⟨true, [.ints .u8 (X0.length + 1) (List.replicate (X0.length + 1) 1)]⟩, some ⟨true, [.one (.slice 1 0 0 X0.length (X0.length + 1)), .one (.gro 3 1 (X0.length + 40)), .one (.int .i64 ((1 : Nat) : Int)), .one .nils, .one (.gro 4 1 (0 + 40)), .one (.int .i64 ((2 : Nat) : Int))]⟩, some ⟨true, [.ints .u8 (X0.length + 40) (List.replicate (X0.length + 40) 1)]⟩, some ⟨true, [.ints .u8 (0 + 40) (List.replicate (0 + 40) 2)]⟩])) (2) (.inl ⟨rfl, rfl, rfl⟩) (wk hE [0, 1, 2]) ?_
 rintro n_ T_ H_ (⟨rfl, rfl, rfl⟩ | ⟨rfl, rfl, rfl⟩ | ⟨rfl, rfl, rfl⟩)
 · skip
   refine w_seq ?_
   refine w_seq ?_
   refine g_reg hP hn ?_
   refine s_op k_mv ?_
   refine s_op k_mv ?_
   refine s_op k_nc ?_
   refine s_op k_fa ?_
   refine s_op k_ld ?_
   refine s_op k_len ?_
   refine s_op k_lss ?_
   refine s_nil trivial ?_
   refine n_wp ?_
   refine w_T rfl ?_ 
   refine w_skip ?_
   refine n_wp ?_
   refine w_seq ?_
   refine w_block ?_
   refine w_seq ?_
   refine g_reg hP hn ?_
   refine s_op k_mv ?_
   refine s_op k_nc ?_
   refine s_op k_fa ?_
   refine s_op k_ld ?_
   refine s_op k_mv ?_
   refine s_op (k_ixG 0 0) ?_
   refine s_op (k_ld (h := by exact a_load_agg (sub := [.one (.slice 1 0 0 X0.length (X0.length + 1)), .one .nils, .one (.int .i64 ((1 : Nat) : Int))]) (r := [.one (.slice 1 0 0 X0.length (X0.length + 1)), .one .nils, .one (.int .i64 ((1 : Nat) : Int)), .one .nils, .one .nils, .one (.int .i64 ((2 : Nat) : Int))]) rfl rfl (by kernel_rfl) (by kernel_rfl))) ?_
   refine s_op k_al ?_
   refine s_st (k_st (h := by exact a_store_agg rfl rfl rfl (put_w (by kernel_rfl)) (by exact Nat.le_of_ble_eq_true rfl) (by kernel_rfl) (by repeat (first | exact hset_0 | apply hset_s)))) ?_
   refine s_nil trivial ?_
   refine n_wp ?_
   refine w_seq ?_
   refine g_reg hP hn ?_
   refine s_op k_fa ?_
   refine s_op k_ld ?_
   refine s_op k_as ?_
   refine s_nil trivial ?_
   refine n_wp ?_
   refine w_seq ?_
   refine w_seq ?_
   refine g_reg hP hn ?_
   refine s_op k_as ?_
   refine s_nil trivial ?_
   refine n_wp ?_
   refine w_block ?_
   refine c_loop (fun m_ T H => (m_ = 40 ∧ T = [(0, .s (.ptr 0 0 0)), (2, .s (.int .i64 ((0 : Nat) : Int))), (3, .s (.ptr 3 0 0)), (4, .s (.slice 1 0 0 X0.length (X0.length + 1))), (5, .s (.int .i64 ((0 : Nat) : Int)))] ∧ H = [some ⟨true, [.one (.int .i64 ((2 : Nat) : Int)), .one (.gro 2 3 2), .one .nils, .one .nils, .one .nils, .one .nils, .one .nils, .one .nils, .one .nils, .one .nils, .one .nils, .one .nils, .one .nils, .one .nils, .one .nils, .one .nils]⟩, some ⟨true, [.ints .u8 (X0.length + 1) (List.replicate X0.length 1 ++ [77])]⟩, some ⟨true, [.one (.slice 1 0 0 X0.length (X0.length + 1)), .one .nils, .one (.int .i64 ((1 : Nat) : Int)), .one .nils, .one .nils, .one (.int .i64 ((2 : Nat) : Int))]⟩, some ⟨true, [.one (.slice 1 0 0 X0.length (X0.length + 1)), .one .nils, .one (.int .i64 ((1 : Nat) : Int))]⟩]) ∨ (m_ = 39 ∧ T = [(0, .s (.ptr 0 0 0)), (2, .s (.int .i64 ((0 : Nat) : Int))), (3, .s (.ptr 3 0 0)), (4, .s (.slice 1 0 0 (X0.length + 1) (X0.length + 1))), (5, .s (.int .i64 ((1 : Nat) : Int)))] ∧ H = [some ⟨true, [.one (.int .i64 ((2 : Nat) : Int)), .one (.gro 2 3 2), .one .nils, .one .nils, .one .nils, .one .nils, .one .nils, .one .nils, .one .nils, .one .nils, .one .nils, .one .nils, .one .nils, .one .nils, .one .nils, .one .nils]⟩, some ⟨true, [.ints .u8 (X0.length + 1) (List.replicate (X0.length + 1) 1)]⟩, some ⟨true, [.one (.slice 1 0 0 X0.length (X0.length + 1)), .one .nils, .one (.int .i64 ((1 : Nat) : Int)), .one .nils, .one .nils, .one (.int .i64 ((2 : Nat) : Int))]⟩, some ⟨true, [.one (.slice 1 0 0 X0.length (X0.length + 1)), .one .nils, .one (.int .i64 ((1 : Nat) : Int))]⟩]) ∨ (∃ k, 2 ≤ k ∧ k ≤ 40 ∧ m_ = 40 - k ∧ T = [(0, .s (.ptr 0 0 0)), (2, .s (.int .i64 ((0 : Nat) : Int))), (3, .s (.ptr 3 0 0)), (4, .s (.gro 4 1 (X0.length + k))), (5, .s (.int .i64 ((k : Nat) : Int)))] ∧ H = [some ⟨true, [.one (.int .i64 ((2 : Nat) : Int)), .one (.gro 2 3 2), .one .nils, .one .nils, .one .nils, .one .nils, .one .nils, .one .nils, .one .nils, .one .nils, .one .nils, .one .nils, .one .nils, .one .nils, .one .nils, .one .nils]⟩, some ⟨true, [.ints .u8 (X0.length + 1) (List.replicate (X0.length + 1) 1)]⟩, some ⟨true, [.one (.slice 1 0 0 X0.length (X0.length + 1)), .one .nils, .one (.int .i64 ((1 : Nat) : Int)), .one .nils, .one .nils, .one (.int .i64 ((2 : Nat) : Int))]⟩, some ⟨true, [.one (.slice 1 0 0 X0.length (X0.length + 1)), .one .nils, .one (.int .i64 ((1 : Nat) : Int))]⟩, some ⟨true, [.ints .u8 (X0.length + k) (List.replicate (X0.length + k) 1)]⟩])) (40) (.inl ⟨rfl, rfl, rfl⟩) (wk hE [0, 1, 2, 3]) ?_
   rintro n_ T_ H_ (⟨rfl, rfl, rfl⟩ | ⟨rfl, rfl, rfl⟩ | ⟨k, hk1, hk2, rfl, rfl, rfl⟩)
   · skip
     refine w_seq ?_
     refine w_seq ?_
     refine g_reg hP hn ?_
     refine s_op k_mv ?_
     refine s_op k_lss ?_
     refine s_nil trivial ?_
     refine n_wp ?_
     refine w_T rfl ?_ 
     refine w_skip ?_
     refine n_wp ?_
     refine w_seq ?_
     refine w_block ?_
     refine g_reg hP hn ?_
     refine s_op k_mv ?_
     refine s_op k_fa ?_
     refine s_op k_ld ?_
     refine s_op (k_call [] (con := mark_c 1 (by decide))) ?_
     refine s_op k_bsf ?_
     refine s_op (k_apj (List.replicate (X0.length + 1) 1) (hl' := rep_j _ _)) ?_
     refine s_op k_as ?_
     refine s_nil trivial ?_
     refine n_blo ?_
     refine n_wp ?_
     refine g_reg hP hn ?_
     refine s_op k_mv ?_
     refine s_op k_add ?_
     refine s_op k_as ?_
     refine s_nil trivial ?_
     exact n_round 39 (by omega) (.inr (.inl ⟨rfl, rfl, rfl⟩)) (wk hE [0, 1, 2, 3])
   · skip
     refine w_seq ?_
     refine w_seq ?_
     refine g_reg hP hn ?_
     refine s_op k_mv ?_
     refine s_op k_lss ?_
     refine s_nil trivial ?_
     refine n_wp ?_
     refine w_T rfl ?_ 
     refine w_skip ?_
     refine n_wp ?_
     refine w_seq ?_
     refine w_block ?_
     refine g_reg hP hn ?_
     refine s_op k_mv ?_
     refine s_op k_fa ?_
     refine s_op k_ld ?_
     refine s_op (k_call [] (con := mark_c 1 (by decide))) ?_
     refine s_op k_bsf ?_
     refine s_op (k_apf (c := X0.length + 2) (l' := List.replicate (X0.length + 2) 1) (hl' := rep_s _ _) (h0 := by exact Nat.zero_lt_one) (hbig := by show X0.length + 1 + 1 ≤ 1000000; omega)) ?_
     refine s_op k_as ?_
     refine s_nil trivial ?_
     refine n_blo ?_
     refine n_wp ?_
     refine g_reg hP hn ?_
     refine s_op k_mv ?_
     refine s_op k_add ?_
     refine s_op k_as ?_
     refine s_nil trivial ?_
     exact n_round 38 (by omega) (.inr (.inr ⟨2, by omega, by omega, rfl, rfl, rfl⟩)) (wk hE [0, 1, 2, 3, 5])
   · skip
     refine w_seq ?_
     refine w_seq ?_
     refine g_reg hP hn ?_
     refine s_op k_mv ?_
     refine s_op k_lss ?_
     refine s_nil trivial ?_
     refine n_wp ?_
     refine w_if rfl (fun h_t25 => ?_) (fun h_t25 => ?_)
     · skip
       refine w_skip ?_
       refine n_wp ?_
       refine w_seq ?_
       refine w_block ?_
       refine g_reg hP hn ?_
       refine s_op k_mv ?_
       refine s_op k_fa ?_
       refine s_op k_ld ?_
       refine s_op (k_call [] (con := mark_c 1 (by decide))) ?_
       refine s_op k_bsf ?_
       refine s_op (k_apg (c := X0.length + (k + 1)) (l' := List.replicate (X0.length + (k + 1)) 1) (hl' := rep_t _ _) (hq := by exact Nat.le_refl _) (hbig := by show X0.length + k + 1 ≤ 1000000; omega)) ?_
       refine s_op k_as ?_
       refine s_nil trivial ?_
       refine n_blo ?_
       refine n_wp ?_
       refine g_reg hP hn ?_
       refine s_op k_mv ?_
       refine s_op k_add ?_
       refine s_op k_as ?_
       refine s_nil trivial ?_
       exact n_round (40 - (k + 1)) (by omega) (.inr (.inr ⟨k + 1, by omega, by omega, rfl, rfl, rfl⟩)) (wk hE [0, 1, 2, 3, 6])
     · skip
       obtain rfl : k = 40 := by omega
       refine w_exit ?_
       refine x_thn ?_
       refine x_thn ?_
       refine x_eq ?_
       refine n_wp ?_
       refine g_reg hP hn ?_
       refine s_op k_mv ?_
       refine s_op k_nc ?_
       refine s_op k_fa ?_
       refine s_op k_ld ?_
       refine s_op k_mv ?_
       refine s_op k_mv ?_
       refine s_op (k_ixG 0 0) ?_
       refine s_op k_fa ?_
       refine s_st (k_st (h := by exact a_store_one rfl rfl SV.noConfusion rfl rfl (hset_seg (by repeat (first | apply sset_s _ rfl rfl | exact sset_0)) (by repeat (first | exact hset_0 | apply hset_s))))) ?_
       refine s_nil trivial ?_
       refine n_blo ?_
       refine n_wp ?_
       refine g_reg hP hn ?_
       refine s_op k_mv ?_
       refine s_op k_add ?_
       refine s_op k_as ?_
       refine s_nil trivial ?_
       exact n_round 1 (by omega) (.inr (.inl ⟨rfl, rfl, rfl⟩)) (wk hE [0, 1, 2, 4])
 · skip
   refine w_seq ?_
   refine w_seq ?_
   refine g_reg hP hn ?_
   refine s_op k_mv ?_
   refine s_op k_mv ?_
   refine s_op k_nc ?_
   refine s_op k_fa ?_
   refine s_op k_ld ?_
   refine s_op k_len ?_
   refine s_op k_lss ?_
   refine s_nil trivial ?_
   refine n_wp ?_
   refine w_T rfl ?_ 
   refine w_skip ?_
   refine n_wp ?_
   refine w_seq ?_
   refine w_block ?_
   refine w_seq ?_
   refine g_reg hP hn ?_
   refine s_op k_mv ?_
   refine s_op k_nc ?_
   refine s_op k_fa ?_
   refine s_op k_ld ?_
   refine s_op k_mv ?_
   refine s_op (k_ixG 3 1) ?_
   refine s_op (k_ld (h := by exact a_load_agg (sub := [.one .nils, .one .nils, .one (.int .i64 ((2 : Nat) : Int))]) (r := [.one .nils, .one .nils, .one (.int .i64 ((2 : Nat) : Int))]) rfl rfl (by kernel_rfl) (by kernel_rfl))) ?_
   refine s_op k_al ?_
   refine s_st (k_st (h := by exact a_store_agg rfl rfl rfl (put_w (by kernel_rfl)) (by exact Nat.le_of_ble_eq_true rfl) (by kernel_rfl) (by repeat (first | exact hset_0 | apply hset_s)))) ?_
   refine s_nil trivial ?_
   refine n_wp ?_
   refine w_seq ?_
   refine g_reg hP hn ?_
   refine s_op k_fa ?_
   refine s_op k_ld ?_
   refine s_op k_as ?_
   refine s_nil trivial ?_
   refine n_wp ?_
   refine w_seq ?_
   refine w_seq ?_
   refine w_weak (weak_gro 4 1 5 (segs := [.ints .u8 (0 + 0) (List.replicate (0 + 0) 2)]) rfl rfl rfl) ?_
   refine g_reg hP hn ?_
   refine s_op k_as ?_
   refine s_nil trivial ?_
   refine n_wp ?_
   refine w_block ?_
   refine c_loop (fun m_ T H => ∃ k, 0 ≤ k ∧ k ≤ 40 ∧ m_ = 40 - k ∧ T = [(0, .s (.ptr 0 0 0)), (2, .s (.int .i64 ((1 : Nat) : Int))), (3, .s (.ptr 4 0 0)), (4, .s (.gro 5 1 (0 + k))), (5, .s (.int .i64 ((k : Nat) : Int)))] ∧ H = [some ⟨true, [.one (.int .i64 ((2 : Nat) : Int)), .one (.gro 2 3 2), .one .nils, .one .nils, .one .nils, .one .nils, .one .nils, .one .nils, .one .nils, .one .nils, .one .nils, .one .nils, .one .nils, .one .nils, .one .nils, .one .nils]⟩, some ⟨true, [.ints .u8 (X0.length + 1) (List.replicate (X0.length + 1) 1)]⟩, some ⟨true, [.one (.slice 1 0 0 X0.length (X0.length + 1)), .one (.gro 3 1 (X0.length + 40)), .one (.int .i64 ((1 : Nat) : Int)), .one .nils, .one .nils, .one (.int .i64 ((2 : Nat) : Int))]⟩, some ⟨true, [.ints .u8 (X0.length + 40) (List.replicate (X0.length + 40) 1)]⟩, some ⟨true, [.one .nils, .one .nils, .one (.int .i64 ((2 : Nat) : Int))]⟩, some ⟨true, [.ints .u8 (0 + k) (List.replicate (0 + k) 2)]⟩]) (40) ⟨0, by omega, by omega, rfl, rfl, rfl⟩ (wk hE [0, 1, 2, 3, 4, 5]) ?_
   rintro n_ T_ H_ ⟨k, hk1, hk2, rfl, rfl, rfl⟩
   · skip
     refine w_seq ?_
     refine w_seq ?_
     refine g_reg hP hn ?_
     refine s_op k_mv ?_
     refine s_op k_lss ?_
     refine s_nil trivial ?_
     refine n_wp ?_
     refine w_if rfl (fun h_t25 => ?_) (fun h_t25 => ?_)
     · skip
       refine w_skip ?_
       refine n_wp ?_
       refine w_seq ?_
       refine w_block ?_
       refine g_reg hP hn ?_
       refine s_op k_mv ?_
       refine s_op k_fa ?_
       refine s_op k_ld ?_
       refine s_op (k_call [] (con := mark_c 2 (by decide))) ?_
       refine s_op k_bsf ?_
       refine s_op (k_apg (c := 0 + (k + 1)) (l' := List.replicate (0 + (k + 1)) 2) (hl' := rep_t _ _) (hq := by exact Nat.le_refl _) (hbig := by show 0 + k + 1 ≤ 1000000; omega)) ?_
       refine s_op k_as ?_
       refine s_nil trivial ?_
       refine n_blo ?_
       refine n_wp ?_
       refine g_reg hP hn ?_
       refine s_op k_mv ?_
       refine s_op k_add ?_
       refine s_op k_as ?_
       refine s_nil trivial ?_
       exact n_round (40 - (k + 1)) (by omega) (⟨k + 1, by omega, by omega, rfl, rfl, rfl⟩) (wk hE [0, 1, 2, 3, 4, 7])
     · skip
       obtain rfl : k = 40 := by omega
       refine w_exit ?_
       refine x_thn ?_
       refine x_thn ?_
       refine x_eq ?_
       refine n_wp ?_
       refine g_reg hP hn ?_
       refine s_op k_mv ?_
       refine s_op k_nc ?_
       refine s_op k_fa ?_
       refine s_op k_ld ?_
       refine s_op k_mv ?_
       refine s_op k_mv ?_
       refine s_op (k_ixG 3 1) ?_
       refine s_op k_fa ?_
       refine s_st (k_st (h := by exact a_store_one rfl rfl SV.noConfusion rfl rfl (hset_seg (by repeat (first | apply sset_s _ rfl rfl | exact sset_0)) (by repeat (first | exact hset_0 | apply hset_s))))) ?_
       refine s_nil trivial ?_
       refine n_blo ?_
       refine n_wp ?_
       refine g_reg hP hn ?_
       refine s_op k_mv ?_
       refine s_op k_add ?_
       refine s_op k_as ?_
       refine s_nil trivial ?_
       exact n_round 0 (by omega) (.inr (.inr (⟨rfl, rfl, rfl⟩))) (wk hE [0, 1, 2, 3, 5])
 · skip
   refine w_seq ?_
   refine w_seq ?_
   refine g_reg hP hn ?_
   refine s_op k_mv ?_
   refine s_op k_mv ?_
   refine s_op k_nc ?_
   refine s_op k_fa ?_
   refine s_op k_ld ?_
   refine s_op k_len ?_
   refine s_op k_lss ?_
   refine s_nil trivial ?_
   refine n_wp ?_
   refine w_F rfl ?_ 
   refine w_exit ?_
   refine x_thn ?_
   refine x_thn ?_
   refine x_eq ?_
   exact d_ret hP hn hE [0, 1, 2, 3, 4] (ret_none Tryz.results63)

theorem look_AC (X0 : List Int) (hX0 : X0.length ≤ 100000) : Con Tryz.prog 78 [.s (.ptr 0 0 0)] [some ⟨true, [.one (.int .i64 ((2 : Nat) : Int)), .one (.gro 2 3 2), .one .nils, .one .nils, .one .nils, .one .nils, .one .nils, .one .nils, .one .nils, .one .nils, .one .nils, .one .nils, .one .nils, .one .nils, .one .nils, .one .nils]⟩, some ⟨true, [.ints .u8 (X0.length + 1) (List.replicate (X0.length + 1) 1)]⟩, some ⟨true, [.one (.slice 1 0 0 X0.length (X0.length + 1)), .one (.gro 3 1 (X0.length + 40)), .one (.int .i64 ((1 : Nat) : Int)), .one .nils, .one (.gro 4 1 (0 + 40)), .one (.int .i64 ((2 : Nat) : Int))]⟩, some ⟨true, [.ints .u8 (X0.length + 40) (List.replicate (X0.length + 40) 1)]⟩, some ⟨true, [.ints .u8 (0 + 40) (List.replicate (0 + 40) 2)]⟩] (.s (.bool true)) [some ⟨true, [.one (.int .i64 ((2 : Nat) : Int)), .one (.gro 2 3 2), .one .nils, .one .nils, .one .nils, .one .nils, .one .nils, .one .nils, .one .nils, .one .nils, .one .nils, .one .nils, .one .nils, .one .nils, .one .nils, .one .nils]⟩, some ⟨true, [.ints .u8 (X0.length + 1) (List.replicate (X0.length + 1) 1)]⟩, some ⟨true, [.one (.slice 1 0 0 X0.length (X0.length + 1)), .one (.gro 3 1 (X0.length + 40)), .one (.int .i64 ((1 : Nat) : Int)), .one .nils, .one (.gro 4 1 (0 + 40)), .one (.int .i64 ((2 : Nat) : Int))]⟩, some ⟨true, [.ints .u8 (X0.length + 40) (List.replicate (X0.length + 40) 1)]⟩, some ⟨true, [.ints .u8 (0 + 40) (List.replicate (0 + 40) 2)]⟩] := by
 refine con_in 64 Tryz.func78 rfl rfl (m := 5) rfl ?_
 intro E hP hn hE
 refine w_seq ?_
 refine g_reg hP hn ?_
 refine s_op k_as ?_
 refine s_nil trivial ?_
 refine n_wp ?_
 refine w_seq ?_
 refine w_seq ?_
 refine g_reg hP hn ?_
 refine s_op k_as ?_
 refine s_nil trivial ?_
 refine n_wp ?_
 refine w_block ?_
 refine c_loop (fun m_ T H => (m_ = 2 ∧ T = [(0, .s (.ptr 0 0 0)), (3, .s (.int .i64 ((0 : Nat) : Int)))] ∧ H = [some ⟨true, [.one (.int .i64 ((2 : Nat) : Int)), .one (.gro 2 3 2), .one .nils, .one .nils, .one .nils, .one .nils, .one .nils, .one .nils, .one .nils, .one .nils, .one .nils, .one .nils, .one .nils, .one .nils, .one .nils, .one .nils]⟩, some ⟨true, [.ints .u8 (X0.length + 1) (List.replicate (X0.length + 1) 1)]⟩, some ⟨true, [.one (.slice 1 0 0 X0.length (X0.length + 1)), .one (.gro 3 1 (X0.length + 40)), .one (.int .i64 ((1 : Nat) : Int)), .one .nils, .one (.gro 4 1 (0 + 40)), .one (.int .i64 ((2 : Nat) : Int))]⟩, some ⟨true, [.ints .u8 (X0.length + 40) (List.replicate (X0.length + 40) 1)]⟩, some ⟨true, [.ints .u8 (0 + 40) (List.replicate (0 + 40) 2)]⟩]) ∨ (m_ = 1 ∧ T = [(0, .s (.ptr 0 0 0)), (3, .s (.int .i64 ((1 : Nat) : Int)))] ∧ H = [some ⟨true, [.one (.int .i64 ((2 : Nat) : Int)), .one (.gro 2 3 2), .one .nils, .one .nils, .one .nils, .one .nils, .one .nils, .one .nils, .one .nils, .one .nils, .one .nils, .one .nils, .one .nils, .one .nils, .one .nils, .one .nils]⟩, some ⟨true, [.ints .u8 (X0.length + 1) (List.replicate (X0.length + 1) 1)]⟩, some ⟨true, [.one (.slice 1 0 0 X0.length (X0.length + 1)), .one (.gro 3 1 (X0.length + 40)), .one (.int .i64 ((1 : Nat) : Int)), .one .nils, .one (.gro 4 1 (0 + 40)), .one (.int .i64 ((2 : Nat) : Int))]⟩, some ⟨true, [.ints .u8 (X0.length + 40) (List.replicate (X0.length + 40) 1)]⟩, some ⟨true, [.ints .u8 (0 + 40) (List.replicate (0 + 40) 2)]⟩]) ∨ (m_ = 0 ∧ T = [(0, .s (.ptr 0 0 0)), (3, .s (.int .i64 ((2 : Nat) : Int)))] ∧ H = [some ⟨true, [.one (.int .i64 ((2 : Nat) : Int)), .one (.gro 2 3 2), .one .nils, .one .nils, .one .nils, .one .nils, .one .nils, .one .nils, .one .nils, .one .nils, .one .nils, .one .nils, .one .nils, .one .nils, .one .nils, .one .nils]⟩, some ⟨true, [.ints .u8 (X0.length + 1) (List.replicate (X0.length + 1) 1)]⟩, some ⟨true, [.one (.slice 1 0 0 X0.length (X0.length + 1)), .one (.gro 3 1 (X0.length + 40)), .one (.int .i64 ((1 : Nat) : Int)), .one .nils, .one (.gro 4 1 (0 + 40)), .one (.int .i64 ((2 : Nat) : Int))]⟩, some ⟨true, [.ints .u8 (X0.length + 40) (List.replicate (X0.length + 40) 1)]⟩, some ⟨true, [.ints .u8 (0 + 40) (List.replicate (0 + 40) 2)]⟩])) (2) (.inl ⟨rfl, rfl, rfl⟩) (wk hE [0, 1, 2, 3, 4]) ?_
 rintro n_ T_ H_ (⟨rfl, rfl, rfl⟩ | ⟨rfl, rfl, rfl⟩ | ⟨rfl, rfl, rfl⟩)
 · skip
   refine w_seq ?_
   refine w_seq ?_
   refine g_reg hP hn ?_
   refine s_op k_mv ?_
   refine s_op k_mv ?_
   refine s_op k_nc ?_
   refine s_op k_fa ?_
   refine s_op k_ld ?_
   refine s_op k_len ?_
   refine s_op k_lss ?_
   refine s_nil trivial ?_
   refine n_wp ?_
   refine w_T rfl ?_ 
   refine w_skip ?_
   refine n_wp ?_
   refine w_seq ?_
   refine w_block ?_
   refine w_seq ?_
   refine g_reg hP hn ?_
   refine s_op k_mv ?_
   refine s_op k_nc ?_
   refine s_op k_fa ?_
   refine s_op k_ld ?_
   refine s_op k_mv ?_
   refine s_op (k_ixG 0 0) ?_
   refine s_op (k_ld (h := by exact a_load_agg (sub := [.one (.slice 1 0 0 X0.length (X0.length + 1)), .one (.gro 3 1 (X0.length + 40)), .one (.int .i64 ((1 : Nat) : Int))]) (r := [.one (.slice 1 0 0 X0.length (X0.length + 1)), .one (.gro 3 1 (X0.length + 40)), .one (.int .i64 ((1 : Nat) : Int)), .one .nils, .one (.gro 4 1 (0 + 40)), .one (.int .i64 ((2 : Nat) : Int))]) rfl rfl (by kernel_rfl) (by kernel_rfl))) ?_
   refine s_op k_al ?_
   refine s_st (k_st (h := by exact a_store_agg rfl rfl rfl (put_w (by kernel_rfl)) (by exact Nat.le_of_ble_eq_true rfl) (by kernel_rfl) (by repeat (first | exact hset_0 | apply hset_s)))) ?_
   refine s_nil trivial ?_
   refine n_wp ?_
   refine w_seq ?_
   refine w_seq ?_
   refine g_reg hP hn ?_
   refine s_op k_fa ?_
   refine s_op k_ld ?_
   refine s_op k_len ?_
   refine s_op k_fa ?_
   refine s_op k_ld ?_
   refine s_op k_len ?_
   refine s_op k_add ?_
   refine s_op (l_bin rfl rfl (b_neq (r := false) (decide_eq_false (by omega)))) ?_
   refine s_nil trivial ?_
   refine n_wp ?_
   refine w_F rfl ?_ 
   refine w_skip ?_
   refine n_wp ?_
   refine w_seq ?_
   refine g_reg hP hn ?_
   refine s_op k_as ?_
   refine s_nil trivial ?_
   refine n_wp ?_
   refine w_block ?_
   refine c_loop (fun m_ T H => ∃ k, k ≤ X0.length + 40 ∧ m_ = X0.length + 40 - k ∧ T = [(0, .s (.ptr 0 0 0)), (3, .s (.int .i64 ((0 : Nat) : Int))), (4, .s (.ptr 5 0 0)), (5, .s (.int .i64 ((k : Nat) : Int)))] ∧ H = [some ⟨true, [.one (.int .i64 ((2 : Nat) : Int)), .one (.gro 2 3 2), .one .nils, .one .nils, .one .nils, .one .nils, .one .nils, .one .nils, .one .nils, .one .nils, .one .nils, .one .nils, .one .nils, .one .nils, .one .nils, .one .nils]⟩, some ⟨true, [.ints .u8 (X0.length + 1) (List.replicate (X0.length + 1) 1)]⟩, some ⟨true, [.one (.slice 1 0 0 X0.length (X0.length + 1)), .one (.gro 3 1 (X0.length + 40)), .one (.int .i64 ((1 : Nat) : Int)), .one .nils, .one (.gro 4 1 (0 + 40)), .one (.int .i64 ((2 : Nat) : Int))]⟩, some ⟨true, [.ints .u8 (X0.length + 40) (List.replicate (X0.length + 40) 1)]⟩, some ⟨true, [.ints .u8 (0 + 40) (List.replicate (0 + 40) 2)]⟩, some ⟨true, [.one (.slice 1 0 0 X0.length (X0.length + 1)), .one (.gro 3 1 (X0.length + 40)), .one (.int .i64 ((1 : Nat) : Int))]⟩]) (X0.length + 40) ⟨0, by omega, rfl, rfl, rfl⟩ (wk hE [0, 1, 2, 3, 4, 5]) ?_
   rintro n_ T_ H_ ⟨k, hk, rfl, rfl, rfl⟩
   refine w_seq ?_
   refine w_seq ?_
   refine g_reg hP hn ?_
   refine s_op k_mv ?_
   refine s_op k_fa ?_
   refine s_op k_ld ?_
   refine s_op k_len ?_
   refine s_op k_lss ?_
   refine s_nil trivial ?_
   refine n_wp ?_
   refine w_if rfl (fun h_t34 => ?_) (fun h_t34 => ?_)
   · skip
     refine w_skip ?_
     refine n_wp ?_
     refine w_seq ?_
     refine w_block ?_
     refine w_seq ?_
     refine g_any hP hn ?_
     refine s_op k_fa ?_
     refine s_op k_ld ?_
     refine s_op k_mv ?_
     refine s_op k_ix ?_
     refine s_op k_ld ?_
     refine s_op k_fa ?_
     refine s_op k_ld ?_
     refine s_op (k_call [] (con := is_t 1 _ (by decide) (rep_g _ _ _ (by omega)))) ?_
     refine s_op k_not ?_
     refine s_op k_mv ?_
     refine s_on rfl rfl rfl k_mv ?_
     refine s_on rfl rfl rfl k_fa ?_
     refine s_on rfl rfl rfl k_ld ?_
     refine s_on rfl rfl rfl k_len ?_
     refine s_on rfl rfl rfl k_lss ?_
     refine s_on rfl rfl rfl k_mv ?_
     refine s_opt rfl rfl (fun hB => by rw [hB]; (try simp only [Bool.or_eq_true, Bool.or_eq_false_iff, Bool.and_eq_true, Bool.not_eq_true', Bool.not_eq_false', decide_eq_true_eq, decide_eq_false_iff_not] at hB); exact k_fa) ?_
     refine s_opt rfl rfl (fun hB => by rw [hB]; (try simp only [Bool.or_eq_true, Bool.or_eq_false_iff, Bool.and_eq_true, Bool.not_eq_true', Bool.not_eq_false', decide_eq_true_eq, decide_eq_false_iff_not] at hB); exact k_ld) ?_
     refine s_opt rfl rfl (fun hB => by rw [hB]; (try simp only [Bool.or_eq_true, Bool.or_eq_false_iff, Bool.and_eq_true, Bool.not_eq_true', Bool.not_eq_false', decide_eq_true_eq, decide_eq_false_iff_not] at hB); exact k_mv) ?_
     refine s_opt rfl rfl (fun hB => by rw [hB]; (try simp only [Bool.or_eq_true, Bool.or_eq_false_iff, Bool.and_eq_true, Bool.not_eq_true', Bool.not_eq_false', decide_eq_true_eq, decide_eq_false_iff_not] at hB); exact k_ix) ?_
     refine s_opt rfl rfl (fun hB => by rw [hB]; (try simp only [Bool.or_eq_true, Bool.or_eq_false_iff, Bool.and_eq_true, Bool.not_eq_true', Bool.not_eq_false', decide_eq_true_eq, decide_eq_false_iff_not] at hB); exact k_ld) ?_
     refine s_opt rfl rfl (fun hB => by rw [hB]; (try simp only [Bool.or_eq_true, Bool.or_eq_false_iff, Bool.and_eq_true, Bool.not_eq_true', Bool.not_eq_false', decide_eq_true_eq, decide_eq_false_iff_not] at hB); exact k_fa) ?_
     refine s_opt rfl rfl (fun hB => by rw [hB]; (try simp only [Bool.or_eq_true, Bool.or_eq_false_iff, Bool.and_eq_true, Bool.not_eq_true', Bool.not_eq_false', decide_eq_true_eq, decide_eq_false_iff_not] at hB); exact k_ld) ?_
     refine s_opt rfl rfl (fun hB => by rw [hB]; (try simp only [Bool.or_eq_true, Bool.or_eq_false_iff, Bool.and_eq_true, Bool.not_eq_true', Bool.not_eq_false', decide_eq_true_eq, decide_eq_false_iff_not] at hB); exact k_call [] (con := is_t 1 _ (by decide) (rep_g _ _ _ (by omega)))) ?_
     refine s_opt rfl rfl (fun hB => by rw [hB]; (try simp only [Bool.or_eq_true, Bool.or_eq_false_iff, Bool.and_eq_true, Bool.not_eq_true', Bool.not_eq_false', decide_eq_true_eq, decide_eq_false_iff_not] at hB); exact k_not) ?_
     refine s_on rfl rfl rfl k_pk ?_
     refine s_op k_pk ?_
     refine s_nil (by kernel_rfl) ?_
     refine n_wp ?_
     refine w_F rfl ?_ (by first | rfl | exact Bool.and_false _ | simp)
     refine w_skip ?_
     refine n_blo ?_
     refine n_wp ?_
     refine g_reg hP hn ?_
     refine s_op k_mv ?_
     refine s_op k_add ?_
     refine s_op k_as ?_
     refine s_nil trivial ?_
     exact n_round (X0.length + 40 - (k + 1)) (by omega) ⟨k + 1, by omega, rfl, rfl, rfl⟩ (wk hE [0, 1, 2, 3, 4, 5])
   · skip
     obtain rfl : k = X0.length + 40 := by omega
     refine w_exit ?_
     refine x_thn ?_
     refine x_thn ?_
     refine x_eq ?_
     refine n_blo ?_
     refine n_wp ?_
     refine g_reg hP hn ?_
     refine s_op k_mv ?_
     refine s_op k_add ?_
     refine s_op k_as ?_
     refine s_nil trivial ?_
     exact n_round 1 (by omega) (.inr (.inl ⟨rfl, rfl, rfl⟩)) (wk hE [0, 1, 2, 3, 4])
 · skip
   refine w_seq ?_
   refine w_seq ?_
   refine g_reg hP hn ?_
   refine s_op k_mv ?_
   refine s_op k_mv ?_
   refine s_op k_nc ?_
   refine s_op k_fa ?_
   refine s_op k_ld ?_
   refine s_op k_len ?_
   refine s_op k_lss ?_
   refine s_nil trivial ?_
   refine n_wp ?_
   refine w_T rfl ?_ 
   refine w_skip ?_
   refine n_wp ?_
   refine w_seq ?_
   refine w_block ?_
   refine w_seq ?_
   refine g_reg hP hn ?_
   refine s_op k_mv ?_
   refine s_op k_nc ?_
   refine s_op k_fa ?_
   refine s_op k_ld ?_
   refine s_op k_mv ?_
   refine s_op (k_ixG 3 1) ?_
   refine s_op (k_ld (h := by exact a_load_agg (sub := [.one .nils, .one (.gro 4 1 (0 + 40)), .one (.int .i64 ((2 : Nat) : Int))]) (r := [.one .nils, .one (.gro 4 1 (0 + 40)), .one (.int .i64 ((2 : Nat) : Int))]) rfl rfl (by kernel_rfl) (by kernel_rfl))) ?_
   refine s_op k_al ?_
   refine s_st (k_st (h := by exact a_store_agg rfl rfl rfl (put_w (by kernel_rfl)) (by exact Nat.le_of_ble_eq_true rfl) (by kernel_rfl) (by repeat (first | exact hset_0 | apply hset_s)))) ?_
   refine s_nil trivial ?_
   refine n_wp ?_
   refine w_seq ?_
   refine w_seq ?_
   refine g_reg hP hn ?_
   refine s_op k_fa ?_
   refine s_op k_ld ?_
   refine s_op k_len ?_
   refine s_op k_fa ?_
   refine s_op k_ld ?_
   refine s_op k_len ?_
   refine s_op k_add ?_
   refine s_op (l_bin rfl rfl (b_neq (r := false) (decide_eq_false (by omega)))) ?_
   refine s_nil trivial ?_
   refine n_wp ?_
   refine w_F rfl ?_ 
   refine w_skip ?_
   refine n_wp ?_
   refine w_seq ?_
   refine g_reg hP hn ?_
   refine s_op k_as ?_
   refine s_nil trivial ?_
   refine n_wp ?_
   refine w_block ?_
   refine c_loop (fun m_ T H => ∃ k, k ≤ 0 + 40 ∧ m_ = 0 + 40 - k ∧ T = [(0, .s (.ptr 0 0 0)), (3, .s (.int .i64 ((1 : Nat) : Int))), (4, .s (.ptr 5 0 0)), (5, .s (.int .i64 ((k : Nat) : Int)))] ∧ H = [some ⟨true, [.one (.int .i64 ((2 : Nat) : Int)), .one (.gro 2 3 2), .one .nils, .one .nils, .one .nils, .one .nils, .one .nils, .one .nils, .one .nils, .one .nils, .one .nils, .one .nils, .one .nils, .one .nils, .one .nils, .one .nils]⟩, some ⟨true, [.ints .u8 (X0.length + 1) (List.replicate (X0.length + 1) 1)]⟩, some ⟨true, [.one (.slice 1 0 0 X0.length (X0.length + 1)), .one (.gro 3 1 (X0.length + 40)), .one (.int .i64 ((1 : Nat) : Int)), .one .nils, .one (.gro 4 1 (0 + 40)), .one (.int .i64 ((2 : Nat) : Int))]⟩, some ⟨true, [.ints .u8 (X0.length + 40) (List.replicate (X0.length + 40) 1)]⟩, some ⟨true, [.ints .u8 (0 + 40) (List.replicate (0 + 40) 2)]⟩, some ⟨true, [.one .nils, .one (.gro 4 1 (0 + 40)), .one (.int .i64 ((2 : Nat) : Int))]⟩]) (0 + 40) ⟨0, by omega, rfl, rfl, rfl⟩ (wk hE [0, 1, 2, 3, 4, 5]) ?_
   rintro n_ T_ H_ ⟨k, hk, rfl, rfl, rfl⟩
   refine w_seq ?_
   refine w_seq ?_
   refine g_reg hP hn ?_
   refine s_op k_mv ?_
   refine s_op k_fa ?_
   refine s_op k_ld ?_
   refine s_op k_len ?_
   refine s_op k_lss ?_
   refine s_nil trivial ?_
   refine n_wp ?_
   refine w_if rfl (fun h_t34 => ?_) (fun h_t34 => ?_)
   · skip
     refine w_skip ?_
     refine n_wp ?_
     refine w_seq ?_
     refine w_block ?_
     refine w_seq ?_
     refine g_any hP hn ?_
     refine s_op k_fa ?_
     refine s_op k_ld ?_
     refine s_op k_mv ?_
     refine s_op k_ix ?_
     refine s_op k_ld ?_
     refine s_op k_fa ?_
     refine s_op k_ld ?_
     refine s_op (k_call [] (con := is_t 2 _ (by decide) (rep_g _ _ _ (by omega)))) ?_
     refine s_op k_not ?_
     refine s_op k_mv ?_
     refine s_on rfl rfl rfl k_mv ?_
     refine s_on rfl rfl rfl k_fa ?_
     refine s_on rfl rfl rfl k_ld ?_
     refine s_on rfl rfl rfl k_len ?_
     refine s_on rfl rfl rfl (l_bin rfl rfl (b_lss (r := false) (decide_eq_false (by omega)))) ?_
     refine s_on rfl rfl rfl k_mv ?_
     refine s_off rfl rfl rfl ?_
     refine s_off rfl rfl rfl ?_
     refine s_off rfl rfl rfl ?_
     refine s_off rfl rfl rfl ?_
     refine s_off rfl rfl rfl ?_
     refine s_off rfl rfl rfl ?_
     refine s_off rfl rfl rfl ?_
     refine s_off rfl rfl rfl ?_
     refine s_off rfl rfl rfl ?_
     refine s_on rfl rfl rfl k_pk ?_
     refine s_op k_pk ?_
     refine s_nil (by kernel_rfl) ?_
     refine n_wp ?_
     refine w_F rfl ?_ (by first | rfl | exact Bool.and_false _ | simp)
     refine w_skip ?_
     refine n_blo ?_
     refine n_wp ?_
     refine g_reg hP hn ?_
     refine s_op k_mv ?_
     refine s_op k_add ?_
     refine s_op k_as ?_
     refine s_nil trivial ?_
     exact n_round (0 + 40 - (k + 1)) (by omega) ⟨k + 1, by omega, rfl, rfl, rfl⟩ (wk hE [0, 1, 2, 3, 4, 5])
   · skip
     obtain rfl : k = 0 + 40 := by omega
     refine w_exit ?_
     refine x_thn ?_
     refine x_thn ?_
     refine x_eq ?_
     refine n_blo ?_
     refine n_wp ?_
     refine g_reg hP hn ?_
     refine s_op k_mv ?_
     refine s_op k_add ?_
     refine s_op k_as ?_
     refine s_nil trivial ?_
     exact n_round 0 (by omega) (.inr (.inr (⟨rfl, rfl, rfl⟩))) (wk hE [0, 1, 2, 3, 4])
 · skip
   refine w_seq ?_
   refine w_seq ?_
   refine g_reg hP hn ?_
   refine s_op k_mv ?_
   refine s_op k_mv ?_
   refine s_op k_nc ?_
   refine s_op k_fa ?_
   refine s_op k_ld ?_
   refine s_op k_len ?_
   refine s_op k_lss ?_
   refine s_nil trivial ?_
   refine n_wp ?_
   refine w_F rfl ?_ 
   refine w_exit ?_
   refine x_thn ?_
   refine x_thn ?_
   refine x_eq ?_
   refine n_wp ?_
   refine w_seq ?_
   refine g_reg hP hn ?_
   refine s_op k_as ?_
   refine s_nil trivial ?_
   refine n_wp ?_
   refine w_ret ?_
   exact d_ret hP hn hE [0, 1, 2, 3, 4] (by first | exact r_tmp Tryz.results78 | exact r_tmpa Tryz.results78)

end Go.Proofs.X
