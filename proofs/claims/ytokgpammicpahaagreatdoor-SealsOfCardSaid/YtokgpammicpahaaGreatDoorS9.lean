/- A part of the proofs of this claim: BBok1, BBok2, BSls3. No conditions. -/
import Derived.Test.YtokgpammicpahaaGreatDoorS6
import Derived.Test.YtokgpammicpahaaGreatDoorS5
import Derived.Test.YtokgpammicpahaaGreatDoorS8
set_option linter.unusedVariables false
set_option linter.unusedSimpArgs false
section
set_option maxRecDepth 100000
set_option maxHeartbeats 4000000
open Go Go.Bx Go.Proofs
namespace Go.Proofs.X
set_option maxRecDepth 100000
set_option maxHeartbeats 4000000
def twT (B : List Int) (i : Nat) : List Int := B.take i ++ List.replicate (B.length + 1 - i) 0
theorem twT_len (B : List Int) (i : Nat) (h : i ≤ B.length) : (twT B i).length = B.length + 1 := by
  rw [twT, List.length_append, List.length_take, List.length_replicate]; omega
theorem twT_s (B : List Int) (i : Nat) (h : i < B.length) : spl (twT B i) [B.getD i 0] i 1 (B.length + 1) = twT B (i + 1) := by
  have ht : (B.take i).length = i := by rw [List.length_take]; omega
  have e := spl_app (B.take i) [B.getD i 0] (List.replicate (B.length + 1 - i) 0) i 1 (B.length + 1) ht rfl (by omega) (by rw [ht, List.length_replicate]; omega)
  have h2 : B.take (i + 1) = B.take i ++ [B.getD i 0] := by rw [List.take_add_one, List.getD_eq_getElem?_getD, List.getElem?_eq_getElem h]; rfl
  rw [twT, e, twT, h2, List.drop_replicate]
  congr 2
theorem twT_e (B : List Int) : spl (twT B B.length) [77] B.length 1 (B.length + 1) = B ++ [77] := by
  have e := spl_app B [77] (List.replicate 1 0) B.length 1 (B.length + 1) rfl rfl (by omega) (by rw [List.length_replicate])
  rw [twT, List.take_length, show B.length + 1 - B.length = 1 by omega, e]
  simp

theorem twin_c (B : List Int) (hB : B.length ≤ 100000) : Con Tryz.prog 8 [.s (.fzi .u8 B)] [] (.s (.slice 0 0 0 B.length (B.length + 1))) [some ⟨true, [.ints .u8 (B.length + 1) (B ++ [77])]⟩] := by
 refine con_in 28 Tryz.func8 rfl rfl (m := 0) rfl ?_
 intro E hP hn hE
 refine qz hP hn ?_
 refine s_op k_as ?_
 refine qx hP hn ?_
 refine o3 ?_
 refine s_op k_mk ?_
 refine s_op k_as ?_
 refine s_nil trivial (n_wp (w_seq (qz hP hn ?_)))
 refine s_op k_as ?_
 refine s_nil trivial (n_wp (w_block ?_))
 refine c_loop (fun m_ T H => ∃ i, i ≤ B.length ∧ m_ = B.length - i ∧ T = [(0, .s (.fzi .u8 B)), (3, .s (.slice 0 0 0 i (B.length + 1))), (4, .s (.int .i64 ((i : Nat) : Int)))] ∧ H = [some ⟨true, [.ints .u8 (B.length + 1) (twT B i)]⟩]) (B.length) ⟨0, by omega, rfl, rfl, rfl⟩ (wk hE [0]) ?_
 rintro n_ T_ H_ ⟨i, hi, rfl, rfl, rfl⟩
 have htl := twT_len B i hi
 refine w_seq (qz hP hn ?_)
 refine o4 ?_
 refine s_nil trivial (n_wp ?_)
 refine w_if rfl (fun h_t12 => ?_) (fun h_t12 => ?_)
 · refine w_skip (n_wp (w_seq (w_block (g_reg hP hn ?_))))
   refine o3 ?_
   refine o2 ?_
   refine s_op k_bsf ?_
   refine s_op (k_apj (twT B (i + 1)) (hl' := twT_s B i h_t12)) ?_
   refine s_op k_as ?_
   refine s_nil trivial (n_blo (n_wp (g_reg hP hn ?_)))
   refine o3 ?_
   refine s_nil trivial ?_
   exact n_round (B.length - (i + 1)) (by omega) ⟨i + 1, by omega, rfl, rfl, rfl⟩ (wk hE [0])
 · obtain rfl : i = B.length := by omega
   refine w_exit (x_thn (x_thn (x_eq (n_wp (qz hP hn ?_)))))
   refine s_op k_mv ?_
   refine s_op k_bsf ?_
   refine s_op (k_apj (B ++ [77]) (hl' := twT_e B)) ?_
   refine o2 ?_
   refine s_op k_sl ?_
   refine s_op k_as ?_
   refine s_nil trivial (n_wp (w_ret ?_))
   exact d_ret hP hn hE [0] (by first | exact r_tmp Tryz.results8 | exact r_tmpa Tryz.results8)

theorem fillInt_0 : Con Tryz.prog 49 [.s (.fptr 16 (fun k => if k = 2 then SV.nils else SV.junk) 0 0)] [] (.tup []) [] := by
 refine con_in 35 Tryz.func49 rfl rfl (m := 0) rfl ?_
 intro E hP hn hE
 refine qz hP hn ?_
 refine s_op k_as ?_
 refine s_nil trivial (n_wp (w_block ?_))
 refine c_loop (fun m_ T H => T = [(0, .s (.fptr 16 (fun k => if k = 2 then SV.nils else SV.junk) 0 0)), (2, .s (.int .i64 ((0 : Nat) : Int)))] ∧ H = []) (0) ⟨rfl, rfl⟩ (wk hE []) ?_
 rintro n_ T_ H_ ⟨rfl, rfl⟩
 refine w_seq (qz hP hn ?_)
 refine o4 ?_
 refine s_op (k_ld (by exact a_loadf (v := .nils) rfl (by decide) rfl)) ?_
 refine o2 ?_
 refine s_nil trivial (n_wp ?_)
 refine w_F rfl ?_ 
 refine w_exit (x_thn (x_thn (x_eq ?_)))
 exact d_ret hP hn hE [] (ret_none Tryz.results49)

theorem growInt_0 : Con Tryz.prog 64 [.s (.fptr 16 (fun k => if k = 2 then SV.nils else SV.junk) 0 0)] [] (.tup []) [] := by
 refine con_in 42 Tryz.func64 rfl rfl (m := 0) rfl ?_
 intro E hP hn hE
 refine qz hP hn ?_
 refine s_op k_as ?_
 refine s_nil trivial (n_wp (w_block ?_))
 refine c_loop (fun m_ T H => T = [(0, .s (.fptr 16 (fun k => if k = 2 then SV.nils else SV.junk) 0 0)), (2, .s (.int .i64 ((0 : Nat) : Int)))] ∧ H = []) (0) ⟨rfl, rfl⟩ (wk hE []) ?_
 rintro n_ T_ H_ ⟨rfl, rfl⟩
 refine w_seq (qz hP hn ?_)
 refine o4 ?_
 refine s_op (k_ld (by exact a_loadf (v := .nils) rfl (by decide) rfl)) ?_
 refine o2 ?_
 refine s_nil trivial (n_wp ?_)
 refine w_F rfl ?_ 
 refine w_exit (x_thn (x_thn (x_eq ?_)))
 exact d_ret hP hn hE [] (ret_none Tryz.results64)

theorem lookInt_0 : Con Tryz.prog 79 [.s (.fptr 16 (fun k => if k = 2 then SV.nils else SV.junk) 0 0)] [] (.s (.bool true)) [] := by
 refine con_in 64 Tryz.func79 rfl rfl (m := 0) rfl ?_
 intro E hP hn hE
 refine qz hP hn ?_
 refine s_op k_as ?_
 refine s_nil trivial (n_wp (w_seq (qz hP hn ?_)))
 refine s_op k_as ?_
 refine s_nil trivial (n_wp (w_block ?_))
 refine c_loop (fun m_ T H => T = [(0, .s (.fptr 16 (fun k => if k = 2 then SV.nils else SV.junk) 0 0)), (3, .s (.int .i64 ((0 : Nat) : Int)))] ∧ H = []) (0) ⟨rfl, rfl⟩ (wk hE []) ?_
 rintro n_ T_ H_ ⟨rfl, rfl⟩
 refine w_seq (qz hP hn ?_)
 refine o4 ?_
 refine s_op (k_ld (by exact a_loadf (v := .nils) rfl (by decide) rfl)) ?_
 refine o2 ?_
 refine s_nil trivial (n_wp ?_)
 refine w_F rfl ?_ 
 refine w_exit (x_thn (x_thn (x_eq (n_wp (qz hP hn ?_)))))
 refine s_op k_as ?_
 refine s_nil trivial (n_wp (w_ret ?_))
 exact d_ret hP hn hE [] (by first | exact r_tmp Tryz.results79 | exact r_tmpa Tryz.results79)

theorem fillText_0 : Con Tryz.prog 50 [.s (.fptr 16 (fun k => if k = 3 then SV.nils else SV.junk) 0 0)] [] (.tup []) [] := by
 refine con_in 35 Tryz.func50 rfl rfl (m := 0) rfl ?_
 intro E hP hn hE
 refine qz hP hn ?_
 refine s_op k_as ?_
 refine s_nil trivial (n_wp (w_block ?_))
 refine c_loop (fun m_ T H => T = [(0, .s (.fptr 16 (fun k => if k = 3 then SV.nils else SV.junk) 0 0)), (2, .s (.int .i64 ((0 : Nat) : Int)))] ∧ H = []) (0) ⟨rfl, rfl⟩ (wk hE []) ?_
 rintro n_ T_ H_ ⟨rfl, rfl⟩
 refine w_seq (qz hP hn ?_)
 refine o4 ?_
 refine s_op (k_ld (by exact a_loadf (v := .nils) rfl (by decide) rfl)) ?_
 refine o2 ?_
 refine s_nil trivial (n_wp ?_)
 refine w_F rfl ?_ 
 refine w_exit (x_thn (x_thn (x_eq ?_)))
 exact d_ret hP hn hE [] (ret_none Tryz.results50)

theorem growText_0 : Con Tryz.prog 65 [.s (.fptr 16 (fun k => if k = 3 then SV.nils else SV.junk) 0 0)] [] (.tup []) [] := by
 refine con_in 42 Tryz.func65 rfl rfl (m := 0) rfl ?_
 intro E hP hn hE
 refine qz hP hn ?_
 refine s_op k_as ?_
 refine s_nil trivial (n_wp (w_block ?_))
 refine c_loop (fun m_ T H => T = [(0, .s (.fptr 16 (fun k => if k = 3 then SV.nils else SV.junk) 0 0)), (2, .s (.int .i64 ((0 : Nat) : Int)))] ∧ H = []) (0) ⟨rfl, rfl⟩ (wk hE []) ?_
 rintro n_ T_ H_ ⟨rfl, rfl⟩
 refine w_seq (qz hP hn ?_)
 refine o4 ?_
 refine s_op (k_ld (by exact a_loadf (v := .nils) rfl (by decide) rfl)) ?_
 refine o2 ?_
 refine s_nil trivial (n_wp ?_)
 refine w_F rfl ?_ 
 refine w_exit (x_thn (x_thn (x_eq ?_)))
 exact d_ret hP hn hE [] (ret_none Tryz.results65)

theorem lookText_0 : Con Tryz.prog 80 [.s (.fptr 16 (fun k => if k = 3 then SV.nils else SV.junk) 0 0)] [] (.s (.bool true)) [] := by
 refine con_in 64 Tryz.func80 rfl rfl (m := 0) rfl ?_
 intro E hP hn hE
 refine qz hP hn ?_
 refine s_op k_as ?_
 refine s_nil trivial (n_wp (w_seq (qz hP hn ?_)))
 refine s_op k_as ?_
 refine s_nil trivial (n_wp (w_block ?_))
 refine c_loop (fun m_ T H => T = [(0, .s (.fptr 16 (fun k => if k = 3 then SV.nils else SV.junk) 0 0)), (3, .s (.int .i64 ((0 : Nat) : Int)))] ∧ H = []) (0) ⟨rfl, rfl⟩ (wk hE []) ?_
 rintro n_ T_ H_ ⟨rfl, rfl⟩
 refine w_seq (qz hP hn ?_)
 refine o4 ?_
 refine s_op (k_ld (by exact a_loadf (v := .nils) rfl (by decide) rfl)) ?_
 refine o2 ?_
 refine s_nil trivial (n_wp ?_)
 refine w_F rfl ?_ 
 refine w_exit (x_thn (x_thn (x_eq (n_wp (qz hP hn ?_)))))
 refine s_op k_as ?_
 refine s_nil trivial (n_wp (w_ret ?_))
 exact d_ret hP hn hE [] (by first | exact r_tmp Tryz.results80 | exact r_tmpa Tryz.results80)

theorem fillNum_0 : Con Tryz.prog 51 [.s (.fptr 16 (fun k => if k = 4 then SV.nils else SV.junk) 0 0)] [] (.tup []) [] := by
 refine con_in 35 Tryz.func51 rfl rfl (m := 0) rfl ?_
 intro E hP hn hE
 refine qz hP hn ?_
 refine s_op k_as ?_
 refine s_nil trivial (n_wp (w_block ?_))
 refine c_loop (fun m_ T H => T = [(0, .s (.fptr 16 (fun k => if k = 4 then SV.nils else SV.junk) 0 0)), (2, .s (.int .i64 ((0 : Nat) : Int)))] ∧ H = []) (0) ⟨rfl, rfl⟩ (wk hE []) ?_
 rintro n_ T_ H_ ⟨rfl, rfl⟩
 refine w_seq (qz hP hn ?_)
 refine o4 ?_
 refine s_op (k_ld (by exact a_loadf (v := .nils) rfl (by decide) rfl)) ?_
 refine o2 ?_
 refine s_nil trivial (n_wp ?_)
 refine w_F rfl ?_ 
 refine w_exit (x_thn (x_thn (x_eq ?_)))
 exact d_ret hP hn hE [] (ret_none Tryz.results51)

theorem growNum_0 : Con Tryz.prog 66 [.s (.fptr 16 (fun k => if k = 4 then SV.nils else SV.junk) 0 0)] [] (.tup []) [] := by
 refine con_in 42 Tryz.func66 rfl rfl (m := 0) rfl ?_
 intro E hP hn hE
 refine qz hP hn ?_
 refine s_op k_as ?_
 refine s_nil trivial (n_wp (w_block ?_))
 refine c_loop (fun m_ T H => T = [(0, .s (.fptr 16 (fun k => if k = 4 then SV.nils else SV.junk) 0 0)), (2, .s (.int .i64 ((0 : Nat) : Int)))] ∧ H = []) (0) ⟨rfl, rfl⟩ (wk hE []) ?_
 rintro n_ T_ H_ ⟨rfl, rfl⟩
 refine w_seq (qz hP hn ?_)
 refine o4 ?_
 refine s_op (k_ld (by exact a_loadf (v := .nils) rfl (by decide) rfl)) ?_
 refine o2 ?_
 refine s_nil trivial (n_wp ?_)
 refine w_F rfl ?_ 
 refine w_exit (x_thn (x_thn (x_eq ?_)))
 exact d_ret hP hn hE [] (ret_none Tryz.results66)

theorem lookNum_0 : Con Tryz.prog 81 [.s (.fptr 16 (fun k => if k = 4 then SV.nils else SV.junk) 0 0)] [] (.s (.bool true)) [] := by
 refine con_in 64 Tryz.func81 rfl rfl (m := 0) rfl ?_
 intro E hP hn hE
 refine qz hP hn ?_
 refine s_op k_as ?_
 refine s_nil trivial (n_wp (w_seq (qz hP hn ?_)))
 refine s_op k_as ?_
 refine s_nil trivial (n_wp (w_block ?_))
 refine c_loop (fun m_ T H => T = [(0, .s (.fptr 16 (fun k => if k = 4 then SV.nils else SV.junk) 0 0)), (3, .s (.int .i64 ((0 : Nat) : Int)))] ∧ H = []) (0) ⟨rfl, rfl⟩ (wk hE []) ?_
 rintro n_ T_ H_ ⟨rfl, rfl⟩
 refine w_seq (qz hP hn ?_)
 refine o4 ?_
 refine s_op (k_ld (by exact a_loadf (v := .nils) rfl (by decide) rfl)) ?_
 refine o2 ?_
 refine s_nil trivial (n_wp ?_)
 refine w_F rfl ?_ 
 refine w_exit (x_thn (x_thn (x_eq (n_wp (qz hP hn ?_)))))
 refine s_op k_as ?_
 refine s_nil trivial (n_wp (w_ret ?_))
 exact d_ret hP hn hE [] (by first | exact r_tmp Tryz.results81 | exact r_tmpa Tryz.results81)

theorem fillSum_0 : Con Tryz.prog 52 [.s (.fptr 16 (fun k => if k = 5 then SV.nils else SV.junk) 0 0)] [] (.tup []) [] := by
 refine con_in 35 Tryz.func52 rfl rfl (m := 0) rfl ?_
 intro E hP hn hE
 refine qz hP hn ?_
 refine s_op k_as ?_
 refine s_nil trivial (n_wp (w_block ?_))
 refine c_loop (fun m_ T H => T = [(0, .s (.fptr 16 (fun k => if k = 5 then SV.nils else SV.junk) 0 0)), (2, .s (.int .i64 ((0 : Nat) : Int)))] ∧ H = []) (0) ⟨rfl, rfl⟩ (wk hE []) ?_
 rintro n_ T_ H_ ⟨rfl, rfl⟩
 refine w_seq (qz hP hn ?_)
 refine o4 ?_
 refine s_op (k_ld (by exact a_loadf (v := .nils) rfl (by decide) rfl)) ?_
 refine o2 ?_
 refine s_nil trivial (n_wp ?_)
 refine w_F rfl ?_ 
 refine w_exit (x_thn (x_thn (x_eq ?_)))
 exact d_ret hP hn hE [] (ret_none Tryz.results52)

theorem growSum_0 : Con Tryz.prog 67 [.s (.fptr 16 (fun k => if k = 5 then SV.nils else SV.junk) 0 0)] [] (.tup []) [] := by
 refine con_in 42 Tryz.func67 rfl rfl (m := 0) rfl ?_
 intro E hP hn hE
 refine qz hP hn ?_
 refine s_op k_as ?_
 refine s_nil trivial (n_wp (w_block ?_))
 refine c_loop (fun m_ T H => T = [(0, .s (.fptr 16 (fun k => if k = 5 then SV.nils else SV.junk) 0 0)), (2, .s (.int .i64 ((0 : Nat) : Int)))] ∧ H = []) (0) ⟨rfl, rfl⟩ (wk hE []) ?_
 rintro n_ T_ H_ ⟨rfl, rfl⟩
 refine w_seq (qz hP hn ?_)
 refine o4 ?_
 refine s_op (k_ld (by exact a_loadf (v := .nils) rfl (by decide) rfl)) ?_
 refine o2 ?_
 refine s_nil trivial (n_wp ?_)
 refine w_F rfl ?_ 
 refine w_exit (x_thn (x_thn (x_eq ?_)))
 exact d_ret hP hn hE [] (ret_none Tryz.results67)

theorem lookSum_0 : Con Tryz.prog 82 [.s (.fptr 16 (fun k => if k = 5 then SV.nils else SV.junk) 0 0)] [] (.s (.bool true)) [] := by
 refine con_in 64 Tryz.func82 rfl rfl (m := 0) rfl ?_
 intro E hP hn hE
 refine qz hP hn ?_
 refine s_op k_as ?_
 refine s_nil trivial (n_wp (w_seq (qz hP hn ?_)))
 refine s_op k_as ?_
 refine s_nil trivial (n_wp (w_block ?_))
 refine c_loop (fun m_ T H => T = [(0, .s (.fptr 16 (fun k => if k = 5 then SV.nils else SV.junk) 0 0)), (3, .s (.int .i64 ((0 : Nat) : Int)))] ∧ H = []) (0) ⟨rfl, rfl⟩ (wk hE []) ?_
 rintro n_ T_ H_ ⟨rfl, rfl⟩
 refine w_seq (qz hP hn ?_)
 refine o4 ?_
 refine s_op (k_ld (by exact a_loadf (v := .nils) rfl (by decide) rfl)) ?_
 refine o2 ?_
 refine s_nil trivial (n_wp ?_)
 refine w_F rfl ?_ 
 refine w_exit (x_thn (x_thn (x_eq (n_wp (qz hP hn ?_)))))
 refine s_op k_as ?_
 refine s_nil trivial (n_wp (w_ret ?_))
 exact d_ret hP hn hE [] (by first | exact r_tmp Tryz.results82 | exact r_tmpa Tryz.results82)

theorem fillTag_0 : Con Tryz.prog 53 [.s (.fptr 16 (fun k => if k = 6 then SV.nils else SV.junk) 0 0)] [] (.tup []) [] := by
 refine con_in 35 Tryz.func53 rfl rfl (m := 0) rfl ?_
 intro E hP hn hE
 refine qz hP hn ?_
 refine s_op k_as ?_
 refine s_nil trivial (n_wp (w_block ?_))
 refine c_loop (fun m_ T H => T = [(0, .s (.fptr 16 (fun k => if k = 6 then SV.nils else SV.junk) 0 0)), (2, .s (.int .i64 ((0 : Nat) : Int)))] ∧ H = []) (0) ⟨rfl, rfl⟩ (wk hE []) ?_
 rintro n_ T_ H_ ⟨rfl, rfl⟩
 refine w_seq (qz hP hn ?_)
 refine o4 ?_
 refine s_op (k_ld (by exact a_loadf (v := .nils) rfl (by decide) rfl)) ?_
 refine o2 ?_
 refine s_nil trivial (n_wp ?_)
 refine w_F rfl ?_ 
 refine w_exit (x_thn (x_thn (x_eq ?_)))
 exact d_ret hP hn hE [] (ret_none Tryz.results53)

theorem growTag_0 : Con Tryz.prog 68 [.s (.fptr 16 (fun k => if k = 6 then SV.nils else SV.junk) 0 0)] [] (.tup []) [] := by
 refine con_in 42 Tryz.func68 rfl rfl (m := 0) rfl ?_
 intro E hP hn hE
 refine qz hP hn ?_
 refine s_op k_as ?_
 refine s_nil trivial (n_wp (w_block ?_))
 refine c_loop (fun m_ T H => T = [(0, .s (.fptr 16 (fun k => if k = 6 then SV.nils else SV.junk) 0 0)), (2, .s (.int .i64 ((0 : Nat) : Int)))] ∧ H = []) (0) ⟨rfl, rfl⟩ (wk hE []) ?_
 rintro n_ T_ H_ ⟨rfl, rfl⟩
 refine w_seq (qz hP hn ?_)
 refine o4 ?_
 refine s_op (k_ld (by exact a_loadf (v := .nils) rfl (by decide) rfl)) ?_
 refine o2 ?_
 refine s_nil trivial (n_wp ?_)
 refine w_F rfl ?_ 
 refine w_exit (x_thn (x_thn (x_eq ?_)))
 exact d_ret hP hn hE [] (ret_none Tryz.results68)

theorem lookTag_0 : Con Tryz.prog 83 [.s (.fptr 16 (fun k => if k = 6 then SV.nils else SV.junk) 0 0)] [] (.s (.bool true)) [] := by
 refine con_in 64 Tryz.func83 rfl rfl (m := 0) rfl ?_
 intro E hP hn hE
 refine qz hP hn ?_
 refine s_op k_as ?_
 refine s_nil trivial (n_wp (w_seq (qz hP hn ?_)))
 refine s_op k_as ?_
 refine s_nil trivial (n_wp (w_block ?_))
 refine c_loop (fun m_ T H => T = [(0, .s (.fptr 16 (fun k => if k = 6 then SV.nils else SV.junk) 0 0)), (3, .s (.int .i64 ((0 : Nat) : Int)))] ∧ H = []) (0) ⟨rfl, rfl⟩ (wk hE []) ?_
 rintro n_ T_ H_ ⟨rfl, rfl⟩
 refine w_seq (qz hP hn ?_)
 refine o4 ?_
 refine s_op (k_ld (by exact a_loadf (v := .nils) rfl (by decide) rfl)) ?_
 refine o2 ?_
 refine s_nil trivial (n_wp ?_)
 refine w_F rfl ?_ 
 refine w_exit (x_thn (x_thn (x_eq (n_wp (qz hP hn ?_)))))
 refine s_op k_as ?_
 refine s_nil trivial (n_wp (w_ret ?_))
 exact d_ret hP hn hE [] (by first | exact r_tmp Tryz.results83 | exact r_tmpa Tryz.results83)

theorem fillSpot_0 : Con Tryz.prog 54 [.s (.fptr 16 (fun k => if k = 7 then SV.nils else SV.junk) 0 0)] [] (.tup []) [] := by
 refine con_in 35 Tryz.func54 rfl rfl (m := 0) rfl ?_
 intro E hP hn hE
 refine qz hP hn ?_
 refine s_op k_as ?_
 refine s_nil trivial (n_wp (w_block ?_))
 refine c_loop (fun m_ T H => T = [(0, .s (.fptr 16 (fun k => if k = 7 then SV.nils else SV.junk) 0 0)), (2, .s (.int .i64 ((0 : Nat) : Int)))] ∧ H = []) (0) ⟨rfl, rfl⟩ (wk hE []) ?_
 rintro n_ T_ H_ ⟨rfl, rfl⟩
 refine w_seq (qz hP hn ?_)
 refine o4 ?_
 refine s_op (k_ld (by exact a_loadf (v := .nils) rfl (by decide) rfl)) ?_
 refine o2 ?_
 refine s_nil trivial (n_wp ?_)
 refine w_F rfl ?_ 
 refine w_exit (x_thn (x_thn (x_eq ?_)))
 exact d_ret hP hn hE [] (ret_none Tryz.results54)

theorem growSpot_0 : Con Tryz.prog 69 [.s (.fptr 16 (fun k => if k = 7 then SV.nils else SV.junk) 0 0)] [] (.tup []) [] := by
 refine con_in 42 Tryz.func69 rfl rfl (m := 0) rfl ?_
 intro E hP hn hE
 refine qz hP hn ?_
 refine s_op k_as ?_
 refine s_nil trivial (n_wp (w_block ?_))
 refine c_loop (fun m_ T H => T = [(0, .s (.fptr 16 (fun k => if k = 7 then SV.nils else SV.junk) 0 0)), (2, .s (.int .i64 ((0 : Nat) : Int)))] ∧ H = []) (0) ⟨rfl, rfl⟩ (wk hE []) ?_
 rintro n_ T_ H_ ⟨rfl, rfl⟩
 refine w_seq (qz hP hn ?_)
 refine o4 ?_
 refine s_op (k_ld (by exact a_loadf (v := .nils) rfl (by decide) rfl)) ?_
 refine o2 ?_
 refine s_nil trivial (n_wp ?_)
 refine w_F rfl ?_ 
 refine w_exit (x_thn (x_thn (x_eq ?_)))
 exact d_ret hP hn hE [] (ret_none Tryz.results69)

theorem lookSpot_0 : Con Tryz.prog 84 [.s (.fptr 16 (fun k => if k = 7 then SV.nils else SV.junk) 0 0)] [] (.s (.bool true)) [] := by
 refine con_in 64 Tryz.func84 rfl rfl (m := 0) rfl ?_
 intro E hP hn hE
 refine qz hP hn ?_
 refine s_op k_as ?_
 refine s_nil trivial (n_wp (w_seq (qz hP hn ?_)))
 refine s_op k_as ?_
 refine s_nil trivial (n_wp (w_block ?_))
 refine c_loop (fun m_ T H => T = [(0, .s (.fptr 16 (fun k => if k = 7 then SV.nils else SV.junk) 0 0)), (3, .s (.int .i64 ((0 : Nat) : Int)))] ∧ H = []) (0) ⟨rfl, rfl⟩ (wk hE []) ?_
 rintro n_ T_ H_ ⟨rfl, rfl⟩
 refine w_seq (qz hP hn ?_)
 refine o4 ?_
 refine s_op (k_ld (by exact a_loadf (v := .nils) rfl (by decide) rfl)) ?_
 refine o2 ?_
 refine s_nil trivial (n_wp ?_)
 refine w_F rfl ?_ 
 refine w_exit (x_thn (x_thn (x_eq (n_wp (qz hP hn ?_)))))
 refine s_op k_as ?_
 refine s_nil trivial (n_wp (w_ret ?_))
 exact d_ret hP hn hE [] (by first | exact r_tmp Tryz.results84 | exact r_tmpa Tryz.results84)

theorem fillGen_0 : Con Tryz.prog 55 [.s (.fptr 16 (fun k => if k = 8 then SV.nils else SV.junk) 0 0)] [] (.tup []) [] := by
 refine con_in 35 Tryz.func55 rfl rfl (m := 0) rfl ?_
 intro E hP hn hE
 refine qz hP hn ?_
 refine s_op k_as ?_
 refine s_nil trivial (n_wp (w_block ?_))
 refine c_loop (fun m_ T H => T = [(0, .s (.fptr 16 (fun k => if k = 8 then SV.nils else SV.junk) 0 0)), (2, .s (.int .i64 ((0 : Nat) : Int)))] ∧ H = []) (0) ⟨rfl, rfl⟩ (wk hE []) ?_
 rintro n_ T_ H_ ⟨rfl, rfl⟩
 refine w_seq (qz hP hn ?_)
 refine o4 ?_
 refine s_op (k_ld (by exact a_loadf (v := .nils) rfl (by decide) rfl)) ?_
 refine o2 ?_
 refine s_nil trivial (n_wp ?_)
 refine w_F rfl ?_ 
 refine w_exit (x_thn (x_thn (x_eq ?_)))
 exact d_ret hP hn hE [] (ret_none Tryz.results55)

theorem growGen_0 : Con Tryz.prog 70 [.s (.fptr 16 (fun k => if k = 8 then SV.nils else SV.junk) 0 0)] [] (.tup []) [] := by
 refine con_in 42 Tryz.func70 rfl rfl (m := 0) rfl ?_
 intro E hP hn hE
 refine qz hP hn ?_
 refine s_op k_as ?_
 refine s_nil trivial (n_wp (w_block ?_))
 refine c_loop (fun m_ T H => T = [(0, .s (.fptr 16 (fun k => if k = 8 then SV.nils else SV.junk) 0 0)), (2, .s (.int .i64 ((0 : Nat) : Int)))] ∧ H = []) (0) ⟨rfl, rfl⟩ (wk hE []) ?_
 rintro n_ T_ H_ ⟨rfl, rfl⟩
 refine w_seq (qz hP hn ?_)
 refine o4 ?_
 refine s_op (k_ld (by exact a_loadf (v := .nils) rfl (by decide) rfl)) ?_
 refine o2 ?_
 refine s_nil trivial (n_wp ?_)
 refine w_F rfl ?_ 
 refine w_exit (x_thn (x_thn (x_eq ?_)))
 exact d_ret hP hn hE [] (ret_none Tryz.results70)

theorem lookGen_0 : Con Tryz.prog 85 [.s (.fptr 16 (fun k => if k = 8 then SV.nils else SV.junk) 0 0)] [] (.s (.bool true)) [] := by
 refine con_in 64 Tryz.func85 rfl rfl (m := 0) rfl ?_
 intro E hP hn hE
 refine qz hP hn ?_
 refine s_op k_as ?_
 refine s_nil trivial (n_wp (w_seq (qz hP hn ?_)))
 refine s_op k_as ?_
 refine s_nil trivial (n_wp (w_block ?_))
 refine c_loop (fun m_ T H => T = [(0, .s (.fptr 16 (fun k => if k = 8 then SV.nils else SV.junk) 0 0)), (3, .s (.int .i64 ((0 : Nat) : Int)))] ∧ H = []) (0) ⟨rfl, rfl⟩ (wk hE []) ?_
 rintro n_ T_ H_ ⟨rfl, rfl⟩
 refine w_seq (qz hP hn ?_)
 refine o4 ?_
 refine s_op (k_ld (by exact a_loadf (v := .nils) rfl (by decide) rfl)) ?_
 refine o2 ?_
 refine s_nil trivial (n_wp ?_)
 refine w_F rfl ?_ 
 refine w_exit (x_thn (x_thn (x_eq (n_wp (qz hP hn ?_)))))
 refine s_op k_as ?_
 refine s_nil trivial (n_wp (w_ret ?_))
 exact d_ret hP hn hE [] (by first | exact r_tmp Tryz.results85 | exact r_tmpa Tryz.results85)

theorem fillLane_0 : Con Tryz.prog 56 [.s (.fptr 16 (fun k => if k = 9 then SV.nils else SV.junk) 0 0)] [] (.tup []) [] := by
 refine con_in 35 Tryz.func56 rfl rfl (m := 0) rfl ?_
 intro E hP hn hE
 refine qz hP hn ?_
 refine s_op k_as ?_
 refine s_nil trivial (n_wp (w_block ?_))
 refine c_loop (fun m_ T H => T = [(0, .s (.fptr 16 (fun k => if k = 9 then SV.nils else SV.junk) 0 0)), (2, .s (.int .i64 ((0 : Nat) : Int)))] ∧ H = []) (0) ⟨rfl, rfl⟩ (wk hE []) ?_
 rintro n_ T_ H_ ⟨rfl, rfl⟩
 refine w_seq (qz hP hn ?_)
 refine o4 ?_
 refine s_op (k_ld (by exact a_loadf (v := .nils) rfl (by decide) rfl)) ?_
 refine o2 ?_
 refine s_nil trivial (n_wp ?_)
 refine w_F rfl ?_ 
 refine w_exit (x_thn (x_thn (x_eq ?_)))
 exact d_ret hP hn hE [] (ret_none Tryz.results56)

theorem growLane_0 : Con Tryz.prog 71 [.s (.fptr 16 (fun k => if k = 9 then SV.nils else SV.junk) 0 0)] [] (.tup []) [] := by
 refine con_in 42 Tryz.func71 rfl rfl (m := 0) rfl ?_
 intro E hP hn hE
 refine qz hP hn ?_
 refine s_op k_as ?_
 refine s_nil trivial (n_wp (w_block ?_))
 refine c_loop (fun m_ T H => T = [(0, .s (.fptr 16 (fun k => if k = 9 then SV.nils else SV.junk) 0 0)), (2, .s (.int .i64 ((0 : Nat) : Int)))] ∧ H = []) (0) ⟨rfl, rfl⟩ (wk hE []) ?_
 rintro n_ T_ H_ ⟨rfl, rfl⟩
 refine w_seq (qz hP hn ?_)
 refine o4 ?_
 refine s_op (k_ld (by exact a_loadf (v := .nils) rfl (by decide) rfl)) ?_
 refine o2 ?_
 refine s_nil trivial (n_wp ?_)
 refine w_F rfl ?_ 
 refine w_exit (x_thn (x_thn (x_eq ?_)))
 exact d_ret hP hn hE [] (ret_none Tryz.results71)

theorem lookLane_0 : Con Tryz.prog 86 [.s (.fptr 16 (fun k => if k = 9 then SV.nils else SV.junk) 0 0)] [] (.s (.bool true)) [] := by
 refine con_in 64 Tryz.func86 rfl rfl (m := 0) rfl ?_
 intro E hP hn hE
 refine qz hP hn ?_
 refine s_op k_as ?_
 refine s_nil trivial (n_wp (w_seq (qz hP hn ?_)))
 refine s_op k_as ?_
 refine s_nil trivial (n_wp (w_block ?_))
 refine c_loop (fun m_ T H => T = [(0, .s (.fptr 16 (fun k => if k = 9 then SV.nils else SV.junk) 0 0)), (3, .s (.int .i64 ((0 : Nat) : Int)))] ∧ H = []) (0) ⟨rfl, rfl⟩ (wk hE []) ?_
 rintro n_ T_ H_ ⟨rfl, rfl⟩
 refine w_seq (qz hP hn ?_)
 refine o4 ?_
 refine s_op (k_ld (by exact a_loadf (v := .nils) rfl (by decide) rfl)) ?_
 refine o2 ?_
 refine s_nil trivial (n_wp ?_)
 refine w_F rfl ?_ 
 refine w_exit (x_thn (x_thn (x_eq (n_wp (qz hP hn ?_)))))
 refine s_op k_as ?_
 refine s_nil trivial (n_wp (w_ret ?_))
 exact d_ret hP hn hE [] (by first | exact r_tmp Tryz.results86 | exact r_tmpa Tryz.results86)

theorem fillParam_0 : Con Tryz.prog 57 [.s (.fptr 16 (fun k => if k = 10 then SV.nils else SV.junk) 0 0)] [] (.tup []) [] := by
 refine con_in 35 Tryz.func57 rfl rfl (m := 0) rfl ?_
 intro E hP hn hE
 refine qz hP hn ?_
 refine s_op k_as ?_
 refine s_nil trivial (n_wp (w_block ?_))
 refine c_loop (fun m_ T H => T = [(0, .s (.fptr 16 (fun k => if k = 10 then SV.nils else SV.junk) 0 0)), (2, .s (.int .i64 ((0 : Nat) : Int)))] ∧ H = []) (0) ⟨rfl, rfl⟩ (wk hE []) ?_
 rintro n_ T_ H_ ⟨rfl, rfl⟩
 refine w_seq (qz hP hn ?_)
 refine o4 ?_
 refine s_op (k_ld (by exact a_loadf (v := .nils) rfl (by decide) rfl)) ?_
 refine o2 ?_
 refine s_nil trivial (n_wp ?_)
 refine w_F rfl ?_ 
 refine w_exit (x_thn (x_thn (x_eq ?_)))
 exact d_ret hP hn hE [] (ret_none Tryz.results57)

theorem growParam_0 : Con Tryz.prog 72 [.s (.fptr 16 (fun k => if k = 10 then SV.nils else SV.junk) 0 0)] [] (.tup []) [] := by
 refine con_in 42 Tryz.func72 rfl rfl (m := 0) rfl ?_
 intro E hP hn hE
 refine qz hP hn ?_
 refine s_op k_as ?_
 refine s_nil trivial (n_wp (w_block ?_))
 refine c_loop (fun m_ T H => T = [(0, .s (.fptr 16 (fun k => if k = 10 then SV.nils else SV.junk) 0 0)), (2, .s (.int .i64 ((0 : Nat) : Int)))] ∧ H = []) (0) ⟨rfl, rfl⟩ (wk hE []) ?_
 rintro n_ T_ H_ ⟨rfl, rfl⟩
 refine w_seq (qz hP hn ?_)
 refine o4 ?_
 refine s_op (k_ld (by exact a_loadf (v := .nils) rfl (by decide) rfl)) ?_
 refine o2 ?_
 refine s_nil trivial (n_wp ?_)
 refine w_F rfl ?_ 
 refine w_exit (x_thn (x_thn (x_eq ?_)))
 exact d_ret hP hn hE [] (ret_none Tryz.results72)

theorem lookParam_0 : Con Tryz.prog 87 [.s (.fptr 16 (fun k => if k = 10 then SV.nils else SV.junk) 0 0)] [] (.s (.bool true)) [] := by
 refine con_in 64 Tryz.func87 rfl rfl (m := 0) rfl ?_
 intro E hP hn hE
 refine qz hP hn ?_
 refine s_op k_as ?_
 refine s_nil trivial (n_wp (w_seq (qz hP hn ?_)))
 refine s_op k_as ?_
 refine s_nil trivial (n_wp (w_block ?_))
 refine c_loop (fun m_ T H => T = [(0, .s (.fptr 16 (fun k => if k = 10 then SV.nils else SV.junk) 0 0)), (3, .s (.int .i64 ((0 : Nat) : Int)))] ∧ H = []) (0) ⟨rfl, rfl⟩ (wk hE []) ?_
 rintro n_ T_ H_ ⟨rfl, rfl⟩
 refine w_seq (qz hP hn ?_)
 refine o4 ?_
 refine s_op (k_ld (by exact a_loadf (v := .nils) rfl (by decide) rfl)) ?_
 refine o2 ?_
 refine s_nil trivial (n_wp ?_)
 refine w_F rfl ?_ 
 refine w_exit (x_thn (x_thn (x_eq (n_wp (qz hP hn ?_)))))
 refine s_op k_as ?_
 refine s_nil trivial (n_wp (w_ret ?_))
 exact d_ret hP hn hE [] (by first | exact r_tmp Tryz.results87 | exact r_tmpa Tryz.results87)

theorem fillPacket_0 : Con Tryz.prog 58 [.s (.fptr 16 (fun k => if k = 11 then SV.nils else SV.junk) 0 0)] [] (.tup []) [] := by
 refine con_in 35 Tryz.func58 rfl rfl (m := 0) rfl ?_
 intro E hP hn hE
 refine qz hP hn ?_
 refine s_op k_as ?_
 refine s_nil trivial (n_wp (w_block ?_))
 refine c_loop (fun m_ T H => T = [(0, .s (.fptr 16 (fun k => if k = 11 then SV.nils else SV.junk) 0 0)), (2, .s (.int .i64 ((0 : Nat) : Int)))] ∧ H = []) (0) ⟨rfl, rfl⟩ (wk hE []) ?_
 rintro n_ T_ H_ ⟨rfl, rfl⟩
 refine w_seq (qz hP hn ?_)
 refine o4 ?_
 refine s_op (k_ld (by exact a_loadf (v := .nils) rfl (by decide) rfl)) ?_
 refine o2 ?_
 refine s_nil trivial (n_wp ?_)
 refine w_F rfl ?_ 
 refine w_exit (x_thn (x_thn (x_eq ?_)))
 exact d_ret hP hn hE [] (ret_none Tryz.results58)

theorem growPacket_0 : Con Tryz.prog 73 [.s (.fptr 16 (fun k => if k = 11 then SV.nils else SV.junk) 0 0)] [] (.tup []) [] := by
 refine con_in 42 Tryz.func73 rfl rfl (m := 0) rfl ?_
 intro E hP hn hE
 refine qz hP hn ?_
 refine s_op k_as ?_
 refine s_nil trivial (n_wp (w_block ?_))
 refine c_loop (fun m_ T H => T = [(0, .s (.fptr 16 (fun k => if k = 11 then SV.nils else SV.junk) 0 0)), (2, .s (.int .i64 ((0 : Nat) : Int)))] ∧ H = []) (0) ⟨rfl, rfl⟩ (wk hE []) ?_
 rintro n_ T_ H_ ⟨rfl, rfl⟩
 refine w_seq (qz hP hn ?_)
 refine o4 ?_
 refine s_op (k_ld (by exact a_loadf (v := .nils) rfl (by decide) rfl)) ?_
 refine o2 ?_
 refine s_nil trivial (n_wp ?_)
 refine w_F rfl ?_ 
 refine w_exit (x_thn (x_thn (x_eq ?_)))
 exact d_ret hP hn hE [] (ret_none Tryz.results73)

theorem lookPacket_0 : Con Tryz.prog 88 [.s (.fptr 16 (fun k => if k = 11 then SV.nils else SV.junk) 0 0)] [] (.s (.bool true)) [] := by
 refine con_in 64 Tryz.func88 rfl rfl (m := 0) rfl ?_
 intro E hP hn hE
 refine qz hP hn ?_
 refine s_op k_as ?_
 refine s_nil trivial (n_wp (w_seq (qz hP hn ?_)))
 refine s_op k_as ?_
 refine s_nil trivial (n_wp (w_block ?_))
 refine c_loop (fun m_ T H => T = [(0, .s (.fptr 16 (fun k => if k = 11 then SV.nils else SV.junk) 0 0)), (3, .s (.int .i64 ((0 : Nat) : Int)))] ∧ H = []) (0) ⟨rfl, rfl⟩ (wk hE []) ?_
 rintro n_ T_ H_ ⟨rfl, rfl⟩
 refine w_seq (qz hP hn ?_)
 refine o4 ?_
 refine s_op (k_ld (by exact a_loadf (v := .nils) rfl (by decide) rfl)) ?_
 refine o2 ?_
 refine s_nil trivial (n_wp ?_)
 refine w_F rfl ?_ 
 refine w_exit (x_thn (x_thn (x_eq (n_wp (qz hP hn ?_)))))
 refine s_op k_as ?_
 refine s_nil trivial (n_wp (w_ret ?_))
 exact d_ret hP hn hE [] (by first | exact r_tmp Tryz.results88 | exact r_tmpa Tryz.results88)

theorem fillFrame_0 : Con Tryz.prog 59 [.s (.fptr 16 (fun k => if k = 12 then SV.nils else SV.junk) 0 0)] [] (.tup []) [] := by
 refine con_in 35 Tryz.func59 rfl rfl (m := 0) rfl ?_
 intro E hP hn hE
 refine qz hP hn ?_
 refine s_op k_as ?_
 refine s_nil trivial (n_wp (w_block ?_))
 refine c_loop (fun m_ T H => T = [(0, .s (.fptr 16 (fun k => if k = 12 then SV.nils else SV.junk) 0 0)), (2, .s (.int .i64 ((0 : Nat) : Int)))] ∧ H = []) (0) ⟨rfl, rfl⟩ (wk hE []) ?_
 rintro n_ T_ H_ ⟨rfl, rfl⟩
 refine w_seq (qz hP hn ?_)
 refine o4 ?_
 refine s_op (k_ld (by exact a_loadf (v := .nils) rfl (by decide) rfl)) ?_
 refine o2 ?_
 refine s_nil trivial (n_wp ?_)
 refine w_F rfl ?_ 
 refine w_exit (x_thn (x_thn (x_eq ?_)))
 exact d_ret hP hn hE [] (ret_none Tryz.results59)

theorem growFrame_0 : Con Tryz.prog 74 [.s (.fptr 16 (fun k => if k = 12 then SV.nils else SV.junk) 0 0)] [] (.tup []) [] := by
 refine con_in 42 Tryz.func74 rfl rfl (m := 0) rfl ?_
 intro E hP hn hE
 refine qz hP hn ?_
 refine s_op k_as ?_
 refine s_nil trivial (n_wp (w_block ?_))
 refine c_loop (fun m_ T H => T = [(0, .s (.fptr 16 (fun k => if k = 12 then SV.nils else SV.junk) 0 0)), (2, .s (.int .i64 ((0 : Nat) : Int)))] ∧ H = []) (0) ⟨rfl, rfl⟩ (wk hE []) ?_
 rintro n_ T_ H_ ⟨rfl, rfl⟩
 refine w_seq (qz hP hn ?_)
 refine o4 ?_
 refine s_op (k_ld (by exact a_loadf (v := .nils) rfl (by decide) rfl)) ?_
 refine o2 ?_
 refine s_nil trivial (n_wp ?_)
 refine w_F rfl ?_ 
 refine w_exit (x_thn (x_thn (x_eq ?_)))
 exact d_ret hP hn hE [] (ret_none Tryz.results74)

theorem lookFrame_0 : Con Tryz.prog 89 [.s (.fptr 16 (fun k => if k = 12 then SV.nils else SV.junk) 0 0)] [] (.s (.bool true)) [] := by
 refine con_in 64 Tryz.func89 rfl rfl (m := 0) rfl ?_
 intro E hP hn hE
 refine qz hP hn ?_
 refine s_op k_as ?_
 refine s_nil trivial (n_wp (w_seq (qz hP hn ?_)))
 refine s_op k_as ?_
 refine s_nil trivial (n_wp (w_block ?_))
 refine c_loop (fun m_ T H => T = [(0, .s (.fptr 16 (fun k => if k = 12 then SV.nils else SV.junk) 0 0)), (3, .s (.int .i64 ((0 : Nat) : Int)))] ∧ H = []) (0) ⟨rfl, rfl⟩ (wk hE []) ?_
 rintro n_ T_ H_ ⟨rfl, rfl⟩
 refine w_seq (qz hP hn ?_)
 refine o4 ?_
 refine s_op (k_ld (by exact a_loadf (v := .nils) rfl (by decide) rfl)) ?_
 refine o2 ?_
 refine s_nil trivial (n_wp ?_)
 refine w_F rfl ?_ 
 refine w_exit (x_thn (x_thn (x_eq (n_wp (qz hP hn ?_)))))
 refine s_op k_as ?_
 refine s_nil trivial (n_wp (w_ret ?_))
 exact d_ret hP hn hE [] (by first | exact r_tmp Tryz.results89 | exact r_tmpa Tryz.results89)

theorem fillMail_0 : Con Tryz.prog 60 [.s (.fptr 16 (fun k => if k = 13 then SV.nils else SV.junk) 0 0)] [] (.tup []) [] := by
 refine con_in 35 Tryz.func60 rfl rfl (m := 0) rfl ?_
 intro E hP hn hE
 refine qz hP hn ?_
 refine s_op k_as ?_
 refine s_nil trivial (n_wp (w_block ?_))
 refine c_loop (fun m_ T H => T = [(0, .s (.fptr 16 (fun k => if k = 13 then SV.nils else SV.junk) 0 0)), (2, .s (.int .i64 ((0 : Nat) : Int)))] ∧ H = []) (0) ⟨rfl, rfl⟩ (wk hE []) ?_
 rintro n_ T_ H_ ⟨rfl, rfl⟩
 refine w_seq (qz hP hn ?_)
 refine o4 ?_
 refine s_op (k_ld (by exact a_loadf (v := .nils) rfl (by decide) rfl)) ?_
 refine o2 ?_
 refine s_nil trivial (n_wp ?_)
 refine w_F rfl ?_ 
 refine w_exit (x_thn (x_thn (x_eq ?_)))
 exact d_ret hP hn hE [] (ret_none Tryz.results60)

theorem growMail_0 : Con Tryz.prog 75 [.s (.fptr 16 (fun k => if k = 13 then SV.nils else SV.junk) 0 0)] [] (.tup []) [] := by
 refine con_in 42 Tryz.func75 rfl rfl (m := 0) rfl ?_
 intro E hP hn hE
 refine qz hP hn ?_
 refine s_op k_as ?_
 refine s_nil trivial (n_wp (w_block ?_))
 refine c_loop (fun m_ T H => T = [(0, .s (.fptr 16 (fun k => if k = 13 then SV.nils else SV.junk) 0 0)), (2, .s (.int .i64 ((0 : Nat) : Int)))] ∧ H = []) (0) ⟨rfl, rfl⟩ (wk hE []) ?_
 rintro n_ T_ H_ ⟨rfl, rfl⟩
 refine w_seq (qz hP hn ?_)
 refine o4 ?_
 refine s_op (k_ld (by exact a_loadf (v := .nils) rfl (by decide) rfl)) ?_
 refine o2 ?_
 refine s_nil trivial (n_wp ?_)
 refine w_F rfl ?_ 
 refine w_exit (x_thn (x_thn (x_eq ?_)))
 exact d_ret hP hn hE [] (ret_none Tryz.results75)

theorem lookMail_0 : Con Tryz.prog 90 [.s (.fptr 16 (fun k => if k = 13 then SV.nils else SV.junk) 0 0)] [] (.s (.bool true)) [] := by
 refine con_in 64 Tryz.func90 rfl rfl (m := 0) rfl ?_
 intro E hP hn hE
 refine qz hP hn ?_
 refine s_op k_as ?_
 refine s_nil trivial (n_wp (w_seq (qz hP hn ?_)))
 refine s_op k_as ?_
 refine s_nil trivial (n_wp (w_block ?_))
 refine c_loop (fun m_ T H => T = [(0, .s (.fptr 16 (fun k => if k = 13 then SV.nils else SV.junk) 0 0)), (3, .s (.int .i64 ((0 : Nat) : Int)))] ∧ H = []) (0) ⟨rfl, rfl⟩ (wk hE []) ?_
 rintro n_ T_ H_ ⟨rfl, rfl⟩
 refine w_seq (qz hP hn ?_)
 refine o4 ?_
 refine s_op (k_ld (by exact a_loadf (v := .nils) rfl (by decide) rfl)) ?_
 refine o2 ?_
 refine s_nil trivial (n_wp ?_)
 refine w_F rfl ?_ 
 refine w_exit (x_thn (x_thn (x_eq (n_wp (qz hP hn ?_)))))
 refine s_op k_as ?_
 refine s_nil trivial (n_wp (w_ret ?_))
 exact d_ret hP hn hE [] (by first | exact r_tmp Tryz.results90 | exact r_tmpa Tryz.results90)

theorem fillSession_0 : Con Tryz.prog 61 [.s (.fptr 16 (fun k => if k = 14 then SV.nils else SV.junk) 0 0)] [] (.tup []) [] := by
 refine con_in 35 Tryz.func61 rfl rfl (m := 0) rfl ?_
 intro E hP hn hE
 refine qz hP hn ?_
 refine s_op k_as ?_
 refine s_nil trivial (n_wp (w_block ?_))
 refine c_loop (fun m_ T H => T = [(0, .s (.fptr 16 (fun k => if k = 14 then SV.nils else SV.junk) 0 0)), (2, .s (.int .i64 ((0 : Nat) : Int)))] ∧ H = []) (0) ⟨rfl, rfl⟩ (wk hE []) ?_
 rintro n_ T_ H_ ⟨rfl, rfl⟩
 refine w_seq (qz hP hn ?_)
 refine o4 ?_
 refine s_op (k_ld (by exact a_loadf (v := .nils) rfl (by decide) rfl)) ?_
 refine o2 ?_
 refine s_nil trivial (n_wp ?_)
 refine w_F rfl ?_ 
 refine w_exit (x_thn (x_thn (x_eq ?_)))
 exact d_ret hP hn hE [] (ret_none Tryz.results61)

theorem growSession_0 : Con Tryz.prog 76 [.s (.fptr 16 (fun k => if k = 14 then SV.nils else SV.junk) 0 0)] [] (.tup []) [] := by
 refine con_in 42 Tryz.func76 rfl rfl (m := 0) rfl ?_
 intro E hP hn hE
 refine qz hP hn ?_
 refine s_op k_as ?_
 refine s_nil trivial (n_wp (w_block ?_))
 refine c_loop (fun m_ T H => T = [(0, .s (.fptr 16 (fun k => if k = 14 then SV.nils else SV.junk) 0 0)), (2, .s (.int .i64 ((0 : Nat) : Int)))] ∧ H = []) (0) ⟨rfl, rfl⟩ (wk hE []) ?_
 rintro n_ T_ H_ ⟨rfl, rfl⟩
 refine w_seq (qz hP hn ?_)
 refine o4 ?_
 refine s_op (k_ld (by exact a_loadf (v := .nils) rfl (by decide) rfl)) ?_
 refine o2 ?_
 refine s_nil trivial (n_wp ?_)
 refine w_F rfl ?_ 
 refine w_exit (x_thn (x_thn (x_eq ?_)))
 exact d_ret hP hn hE [] (ret_none Tryz.results76)

theorem lookSession_0 : Con Tryz.prog 91 [.s (.fptr 16 (fun k => if k = 14 then SV.nils else SV.junk) 0 0)] [] (.s (.bool true)) [] := by
 refine con_in 64 Tryz.func91 rfl rfl (m := 0) rfl ?_
 intro E hP hn hE
 refine qz hP hn ?_
 refine s_op k_as ?_
 refine s_nil trivial (n_wp (w_seq (qz hP hn ?_)))
 refine s_op k_as ?_
 refine s_nil trivial (n_wp (w_block ?_))
 refine c_loop (fun m_ T H => T = [(0, .s (.fptr 16 (fun k => if k = 14 then SV.nils else SV.junk) 0 0)), (3, .s (.int .i64 ((0 : Nat) : Int)))] ∧ H = []) (0) ⟨rfl, rfl⟩ (wk hE []) ?_
 rintro n_ T_ H_ ⟨rfl, rfl⟩
 refine w_seq (qz hP hn ?_)
 refine o4 ?_
 refine s_op (k_ld (by exact a_loadf (v := .nils) rfl (by decide) rfl)) ?_
 refine o2 ?_
 refine s_nil trivial (n_wp ?_)
 refine w_F rfl ?_ 
 refine w_exit (x_thn (x_thn (x_eq (n_wp (qz hP hn ?_)))))
 refine s_op k_as ?_
 refine s_nil trivial (n_wp (w_ret ?_))
 exact d_ret hP hn hE [] (by first | exact r_tmp Tryz.results91 | exact r_tmpa Tryz.results91)

theorem fillRecord_0 : Con Tryz.prog 62 [.s (.fptr 16 (fun k => if k = 15 then SV.nils else SV.junk) 0 0)] [] (.tup []) [] := by
 refine con_in 35 Tryz.func62 rfl rfl (m := 0) rfl ?_
 intro E hP hn hE
 refine qz hP hn ?_
 refine s_op k_as ?_
 refine s_nil trivial (n_wp (w_block ?_))
 refine c_loop (fun m_ T H => T = [(0, .s (.fptr 16 (fun k => if k = 15 then SV.nils else SV.junk) 0 0)), (2, .s (.int .i64 ((0 : Nat) : Int)))] ∧ H = []) (0) ⟨rfl, rfl⟩ (wk hE []) ?_
 rintro n_ T_ H_ ⟨rfl, rfl⟩
 refine w_seq (qz hP hn ?_)
 refine o4 ?_
 refine s_op (k_ld (by exact a_loadf (v := .nils) rfl (by decide) rfl)) ?_
 refine o2 ?_
 refine s_nil trivial (n_wp ?_)
 refine w_F rfl ?_ 
 refine w_exit (x_thn (x_thn (x_eq ?_)))
 exact d_ret hP hn hE [] (ret_none Tryz.results62)

theorem growRecord_0 : Con Tryz.prog 77 [.s (.fptr 16 (fun k => if k = 15 then SV.nils else SV.junk) 0 0)] [] (.tup []) [] := by
 refine con_in 42 Tryz.func77 rfl rfl (m := 0) rfl ?_
 intro E hP hn hE
 refine qz hP hn ?_
 refine s_op k_as ?_
 refine s_nil trivial (n_wp (w_block ?_))
 refine c_loop (fun m_ T H => T = [(0, .s (.fptr 16 (fun k => if k = 15 then SV.nils else SV.junk) 0 0)), (2, .s (.int .i64 ((0 : Nat) : Int)))] ∧ H = []) (0) ⟨rfl, rfl⟩ (wk hE []) ?_
 rintro n_ T_ H_ ⟨rfl, rfl⟩
 refine w_seq (qz hP hn ?_)
 refine o4 ?_
 refine s_op (k_ld (by exact a_loadf (v := .nils) rfl (by decide) rfl)) ?_
 refine o2 ?_
 refine s_nil trivial (n_wp ?_)
 refine w_F rfl ?_ 
 refine w_exit (x_thn (x_thn (x_eq ?_)))
 exact d_ret hP hn hE [] (ret_none Tryz.results77)

theorem lookRecord_0 : Con Tryz.prog 92 [.s (.fptr 16 (fun k => if k = 15 then SV.nils else SV.junk) 0 0)] [] (.s (.bool true)) [] := by
 refine con_in 64 Tryz.func92 rfl rfl (m := 0) rfl ?_
 intro E hP hn hE
 refine qz hP hn ?_
 refine s_op k_as ?_
 refine s_nil trivial (n_wp (w_seq (qz hP hn ?_)))
 refine s_op k_as ?_
 refine s_nil trivial (n_wp (w_block ?_))
 refine c_loop (fun m_ T H => T = [(0, .s (.fptr 16 (fun k => if k = 15 then SV.nils else SV.junk) 0 0)), (3, .s (.int .i64 ((0 : Nat) : Int)))] ∧ H = []) (0) ⟨rfl, rfl⟩ (wk hE []) ?_
 rintro n_ T_ H_ ⟨rfl, rfl⟩
 refine w_seq (qz hP hn ?_)
 refine o4 ?_
 refine s_op (k_ld (by exact a_loadf (v := .nils) rfl (by decide) rfl)) ?_
 refine o2 ?_
 refine s_nil trivial (n_wp ?_)
 refine w_F rfl ?_ 
 refine w_exit (x_thn (x_thn (x_eq (n_wp (qz hP hn ?_)))))
 refine s_op k_as ?_
 refine s_nil trivial (n_wp (w_ret ?_))
 exact d_ret hP hn hE [] (by first | exact r_tmp Tryz.results92 | exact r_tmpa Tryz.results92)

end Go.Proofs.X
end

section
set_option maxRecDepth 100000
set_option maxHeartbeats 4000000
open Go Go.Bx Go.Proofs
namespace Go.Proofs.X
set_option maxRecDepth 100000
set_option maxHeartbeats 4000000
abbrev BKb (n : Nat) (g : SV) : Option Blk := some ⟨true, [.one (.int .i64 ((n : Nat) : Int)), .one g, .one .nils, .one .nils, .one .nils, .one .nils, .one .nils, .one .nils, .one .nils, .one .nils, .one .nils, .one .nils, .one .nils, .one .nils, .one .nils, .one .nils]⟩
abbrev IB (n : Nat) (l : List Int) : Option Blk := some ⟨true, [.ints .u8 n l]⟩
abbrev R3 (a l : SV) (n : Nat) (r : List Seg) : List Seg := .one a :: .one l :: .one (.int .i64 ((n : Nat) : Int)) :: r
abbrev RB (r : List Seg) : Option Blk := some ⟨true, r⟩
def fillT (L : List Int) (m : Int) : Nat → List Int
  | 0 => L
  | k + 1 => (fillT L m k).set k m
theorem fillT_len (L : List Int) (m : Int) (k : Nat) : (fillT L m k).length = L.length := by
  induction k with
  | zero => rfl
  | succ k ih => rw [fillT, List.length_set, ih]
theorem fillT_get (L : List Int) (m : Int) (k i : Nat) (hi : i < L.length) : (fillT L m k).getD i 0 = if i < k then m else L.getD i 0 := by
  induction k with
  | zero => rw [if_neg (by omega)]; rfl
  | succ k ih =>
    simp only [fillT, List.getD_eq_getElem?_getD, List.getElem?_set] at ih ⊢
    by_cases h : k = i
    · subst h; rw [if_pos rfl, if_pos (by rw [fillT_len]; exact hi), if_pos (by omega)]; rfl
    · rw [if_neg h, ih]
      by_cases h2 : i < k
      · rw [if_pos h2, if_pos (by omega)]
      · rw [if_neg h2, if_neg (by omega)]
theorem fillT_all (L : List Int) (m : Int) : fillT L m L.length = List.replicate L.length m := by
  refine eqI (by rw [fillT_len, List.length_replicate]) fun i hi => ?_
  rw [fillT_len] at hi
  rw [fillT_get _ _ _ _ hi, if_pos hi, List.getD_eq_getElem?_getD, List.getElem?_replicate, if_pos hi]; rfl
theorem fillT_app (L : List Int) (m : Int) (k : Nat) (h : k ≤ L.length) : fillT (L ++ [77]) m k = fillT L m k ++ [77] := by
  induction k with
  | zero => rfl
  | succ k ih => rw [fillT, ih (by omega), fillT, List.set_append, if_pos (by rw [fillT_len]; omega)]
theorem fillT_a (L : List Int) (m : Int) : fillT (L ++ [77]) m L.length = List.replicate L.length m ++ [77] := by rw [fillT_app _ _ _ (Nat.le_refl _), fillT_all]
theorem rep_s (n : Nat) (m : Int) : List.replicate n m ++ [m] = List.replicate (n + 1) m := by rw [List.replicate_succ']
theorem rep_t (n : Nat) (m : Int) : (List.replicate n m).take n ++ [m] = List.replicate (n + 1) m := by rw [List.take_of_length_le (by simp), rep_s]
theorem rep_j (n : Nat) (m : Int) : spl (List.replicate n m ++ [77]) [m] n 1 (n + 1) = List.replicate (n + 1) m := by
  have e := spl_app (List.replicate n m) [m] [77] n 1 (n + 1) (by simp) rfl (by omega) (by simp)
  rw [e]; simp [List.replicate_succ']
theorem rep_g (n k : Nat) (m : Int) (h : k < n) : (List.replicate n m).getD k 0 = m := by rw [List.getD_eq_getElem?_getD, List.getElem?_replicate, if_pos h]; rfl

theorem mark_c (n : Nat) (hm : n < 256) : Con Tryz.prog 120 [.s (.int .i64 ((n : Nat) : Int))] [] (.s (.int .u8 ((n : Nat) : Int))) [] := by
 refine con_in 5 Tryz.func120 rfl rfl (m := 0) rfl ?_
 intro E hP hn hE
 refine qz hP hn ?_
 refine s_op k_as ?_
 refine qx hP hn ?_
 refine o3 ?_
 refine s_nil trivial (n_wp (w_ret ?_))
 exact d_ret hP hn hE [] (by first | exact r_tmp Tryz.results120 | exact r_tmpa Tryz.results120)

theorem is_t (n : Nat) (x : Int) (hm : n < 256) (hx : x = (n : Int)) : Con Tryz.prog 135 [.s (.int .u8 x), .s (.int .i64 ((n : Nat) : Int))] [] (.s (.bool true)) [] := by
 refine con_in 9 Tryz.func135 rfl rfl (m := 0) rfl ?_
 intro E hP hn hE
 refine qz hP hn ?_
 refine s_op k_as ?_
 refine qx hP hn ?_
 refine o3 ?_
 refine s_op (l_bin rfl rfl (b_eql (r := true) (decide_eq_true hx))) ?_
 refine s_op k_as ?_
 refine s_nil trivial (n_wp (w_ret ?_))
 exact d_ret hP hn hE [] (by first | exact r_tmp Tryz.results135 | exact r_tmpa Tryz.results135)

theorem keep_A (X0 : List Int) : Con Tryz.prog 45 [.s (.ptr 0 0 0), .s (.slice 1 0 0 X0.length (X0.length + 1))] [BKb 0 .nils, IB (X0.length + 1) (X0 ++ [77])] (.tup []) [BKb 1 (.gro 2 3 1), IB (X0.length + 1) (X0 ++ [77]), RB (R3 (.slice 1 0 0 X0.length (X0.length + 1)) .nils 1 [])] := by
 refine con_in 26 Tryz.func45 rfl rfl (m := 2) rfl ?_
 intro E hP hn hE
 refine qz hP hn ?_
 refine o4 ?_
 refine o3 ?_
 refine s_st (k_st (h := by exact a_store_one rfl rfl SV.noConfusion rfl rfl (hset_seg (by repeat (first | apply sset_s _ rfl rfl | exact sset_0)) (by repeat (first | exact hset_0 | apply hset_s))))) ?_
 refine s_nil trivial (n_wp ?_)
 refine w_weak (H' := [BKb 1 (.gro 2 3 0), IB (X0.length + 1) (X0 ++ [77]), some ⟨true, []⟩]) ((weak_new (segs := []) rfl).trans (weak_row 0 (segs' := [.one (.int .i64 ((0 + 1 : Nat) : Int)), .one (.gro 2 3 0), .one .nils, .one .nils, .one .nils, .one .nils, .one .nils, .one .nils, .one .nils, .one .nils, .one .nils, .one .nils, .one .nils, .one .nils, .one .nils, .one .nils]) rfl (fun _ _ h => row_groM (pre := [.one (.int .i64 ((0 + 1 : Nat) : Int))]) h) rfl)) ?_
 refine g_any hP hn ?_
 refine o4 ?_
 refine o4 ?_
 refine o2 ?_
 refine s_op k_bd ?_
 refine s_op k_bs1 ?_
 refine s_op k_ap1 ?_
 refine o2 ?_
 refine s_st (k_st (h := by exact a_store_one rfl rfl SV.noConfusion rfl rfl (hset_seg (by repeat (first | apply sset_s _ rfl rfl | exact sset_0)) (by repeat (first | exact hset_0 | apply hset_s))))) ?_
 refine s_nil (by kernel_rfl) ?_
 exact d_ret hP hn hE [0, 1, 4] (ret_none Tryz.results45)
theorem bytes_A (X0 : List Int) : Con Tryz.prog 10 [.s (.ptr 0 0 0), .s (.slice 1 0 0 X0.length (X0.length + 1))] [BKb 0 .nils, IB (X0.length + 1) (X0 ++ [77])] (.tup []) [BKb 1 (.gro 2 3 1), IB (X0.length + 1) (X0 ++ [77]), RB (R3 (.slice 1 0 0 X0.length (X0.length + 1)) .nils 1 [])] := by
 refine con_in 7 Tryz.func10 rfl rfl (m := 2) rfl ?_
 intro E hP hn hE
 refine g_reg hP hn ?_
 refine o2 ?_
 refine s_op (k_call [0, 1] (con := keep_A X0)) ?_
 refine s_nil trivial ?_
 exact d_ret hP hn hE [0, 1, 2] (ret_none Tryz.results10)

theorem keep_AA (X0 : List Int) (X1 : List Int) : Con Tryz.prog 45 [.s (.ptr 0 0 0), .s (.slice 2 0 0 X1.length (X1.length + 1))] [BKb 1 (.gro 3 3 1), IB (X0.length + 1) (X0 ++ [77]), IB (X1.length + 1) (X1 ++ [77]), RB (R3 (.slice 1 0 0 X0.length (X0.length + 1)) .nils 1 [])] (.tup []) [BKb 2 (.gro 4 3 2), IB (X0.length + 1) (X0 ++ [77]), IB (X1.length + 1) (X1 ++ [77]), none, RB (R3 (.slice 1 0 0 X0.length (X0.length + 1)) .nils 1 (R3 (.slice 2 0 0 X1.length (X1.length + 1)) .nils 2 []))] := by
 refine con_in 26 Tryz.func45 rfl rfl (m := 4) rfl ?_
 intro E hP hn hE
 refine qz hP hn ?_
 refine o4 ?_
 refine o3 ?_
 refine s_st (k_st (h := by exact a_store_one rfl rfl SV.noConfusion rfl rfl (hset_seg (by repeat (first | apply sset_s _ rfl rfl | exact sset_0)) (by repeat (first | exact hset_0 | apply hset_s))))) ?_
 refine s_nil trivial (n_wp ?_)
 refine g_any hP hn ?_
 refine o4 ?_
 refine o4 ?_
 refine o2 ?_
 refine s_op k_bd ?_
 refine s_op k_bs1 ?_
 refine s_op k_ap1 ?_
 refine o2 ?_
 refine s_st (k_st (h := by exact a_store_one rfl rfl SV.noConfusion rfl rfl (hset_seg (by repeat (first | apply sset_s _ rfl rfl | exact sset_0)) (by repeat (first | exact hset_0 | apply hset_s))))) ?_
 refine s_nil (by kernel_rfl) ?_
 exact d_ret hP hn hE [0, 1, 2, 3, 5] (ret_none Tryz.results45)
theorem bytes_AA (X0 : List Int) (X1 : List Int) : Con Tryz.prog 10 [.s (.ptr 0 0 0), .s (.slice 2 0 0 X1.length (X1.length + 1))] [BKb 1 (.gro 3 3 1), IB (X0.length + 1) (X0 ++ [77]), IB (X1.length + 1) (X1 ++ [77]), RB (R3 (.slice 1 0 0 X0.length (X0.length + 1)) .nils 1 [])] (.tup []) [BKb 2 (.gro 4 3 2), IB (X0.length + 1) (X0 ++ [77]), IB (X1.length + 1) (X1 ++ [77]), none, RB (R3 (.slice 1 0 0 X0.length (X0.length + 1)) .nils 1 (R3 (.slice 2 0 0 X1.length (X1.length + 1)) .nils 2 []))] := by
 refine con_in 7 Tryz.func10 rfl rfl (m := 4) rfl ?_
 intro E hP hn hE
 refine g_reg hP hn ?_
 refine o2 ?_
 refine s_op (k_call [0, 1, 2, 3] (con := keep_AA X0 X1)) ?_
 refine s_nil trivial ?_
 exact d_ret hP hn hE [0, 1, 2, 3, 4] (ret_none Tryz.results10)

theorem keep_AAB (X0 : List Int) (X1 : List Int) (X2 : List Int) : Con Tryz.prog 45 [.s (.ptr 0 0 0), .s (.slice 3 0 0 X2.length X2.length)] [BKb 2 (.gro 4 3 2), IB (X0.length + 1) (X0 ++ [77]), IB (X1.length + 1) (X1 ++ [77]), IB X2.length X2, RB (R3 (.slice 1 0 0 X0.length (X0.length + 1)) .nils 1 (R3 (.slice 2 0 0 X1.length (X1.length + 1)) .nils 2 []))] (.tup []) [BKb 3 (.gro 5 3 3), IB (X0.length + 1) (X0 ++ [77]), IB (X1.length + 1) (X1 ++ [77]), IB X2.length X2, none, RB (R3 (.slice 1 0 0 X0.length (X0.length + 1)) .nils 1 (R3 (.slice 2 0 0 X1.length (X1.length + 1)) .nils 2 (R3 (.slice 3 0 0 X2.length X2.length) .nils 3 [])))] := by
 refine con_in 26 Tryz.func45 rfl rfl (m := 5) rfl ?_
 intro E hP hn hE
 refine qz hP hn ?_
 refine o4 ?_
 refine o3 ?_
 refine s_st (k_st (h := by exact a_store_one rfl rfl SV.noConfusion rfl rfl (hset_seg (by repeat (first | apply sset_s _ rfl rfl | exact sset_0)) (by repeat (first | exact hset_0 | apply hset_s))))) ?_
 refine s_nil trivial (n_wp ?_)
 refine g_any hP hn ?_
 refine o4 ?_
 refine o4 ?_
 refine o2 ?_
 refine s_op k_bd ?_
 refine s_op k_bs1 ?_
 refine s_op k_ap1 ?_
 refine o2 ?_
 refine s_st (k_st (h := by exact a_store_one rfl rfl SV.noConfusion rfl rfl (hset_seg (by repeat (first | apply sset_s _ rfl rfl | exact sset_0)) (by repeat (first | exact hset_0 | apply hset_s))))) ?_
 refine s_nil (by kernel_rfl) ?_
 exact d_ret hP hn hE [0, 1, 2, 3, 4, 6] (ret_none Tryz.results45)
theorem bytes_AAB (X0 : List Int) (X1 : List Int) (X2 : List Int) : Con Tryz.prog 10 [.s (.ptr 0 0 0), .s (.slice 3 0 0 X2.length X2.length)] [BKb 2 (.gro 4 3 2), IB (X0.length + 1) (X0 ++ [77]), IB (X1.length + 1) (X1 ++ [77]), IB X2.length X2, RB (R3 (.slice 1 0 0 X0.length (X0.length + 1)) .nils 1 (R3 (.slice 2 0 0 X1.length (X1.length + 1)) .nils 2 []))] (.tup []) [BKb 3 (.gro 5 3 3), IB (X0.length + 1) (X0 ++ [77]), IB (X1.length + 1) (X1 ++ [77]), IB X2.length X2, none, RB (R3 (.slice 1 0 0 X0.length (X0.length + 1)) .nils 1 (R3 (.slice 2 0 0 X1.length (X1.length + 1)) .nils 2 (R3 (.slice 3 0 0 X2.length X2.length) .nils 3 [])))] := by
 refine con_in 7 Tryz.func10 rfl rfl (m := 5) rfl ?_
 intro E hP hn hE
 refine g_reg hP hn ?_
 refine o2 ?_
 refine s_op (k_call [0, 1, 2, 3, 4] (con := keep_AAB X0 X1 X2)) ?_
 refine s_nil trivial ?_
 exact d_ret hP hn hE [0, 1, 2, 3, 4, 5] (ret_none Tryz.results10)

theorem keep_AABB (X0 : List Int) (X1 : List Int) (X2 : List Int) (X3 : List Int) : Con Tryz.prog 45 [.s (.ptr 0 0 0), .s (.slice 4 0 0 X3.length X3.length)] [BKb 3 (.gro 5 3 3), IB (X0.length + 1) (X0 ++ [77]), IB (X1.length + 1) (X1 ++ [77]), IB X2.length X2, IB X3.length X3, RB (R3 (.slice 1 0 0 X0.length (X0.length + 1)) .nils 1 (R3 (.slice 2 0 0 X1.length (X1.length + 1)) .nils 2 (R3 (.slice 3 0 0 X2.length X2.length) .nils 3 [])))] (.tup []) [BKb 4 (.gro 6 3 4), IB (X0.length + 1) (X0 ++ [77]), IB (X1.length + 1) (X1 ++ [77]), IB X2.length X2, IB X3.length X3, none, RB (R3 (.slice 1 0 0 X0.length (X0.length + 1)) .nils 1 (R3 (.slice 2 0 0 X1.length (X1.length + 1)) .nils 2 (R3 (.slice 3 0 0 X2.length X2.length) .nils 3 (R3 (.slice 4 0 0 X3.length X3.length) .nils 4 []))))] := by
 refine con_in 26 Tryz.func45 rfl rfl (m := 6) rfl ?_
 intro E hP hn hE
 refine qz hP hn ?_
 refine o4 ?_
 refine o3 ?_
 refine s_st (k_st (h := by exact a_store_one rfl rfl SV.noConfusion rfl rfl (hset_seg (by repeat (first | apply sset_s _ rfl rfl | exact sset_0)) (by repeat (first | exact hset_0 | apply hset_s))))) ?_
 refine s_nil trivial (n_wp ?_)
 refine g_any hP hn ?_
 refine o4 ?_
 refine o4 ?_
 refine o2 ?_
 refine s_op k_bd ?_
 refine s_op k_bs1 ?_
 refine s_op k_ap1 ?_
 refine o2 ?_
 refine s_st (k_st (h := by exact a_store_one rfl rfl SV.noConfusion rfl rfl (hset_seg (by repeat (first | apply sset_s _ rfl rfl | exact sset_0)) (by repeat (first | exact hset_0 | apply hset_s))))) ?_
 refine s_nil (by kernel_rfl) ?_
 exact d_ret hP hn hE [0, 1, 2, 3, 4, 5, 7] (ret_none Tryz.results45)
theorem bytes_AABB (X0 : List Int) (X1 : List Int) (X2 : List Int) (X3 : List Int) : Con Tryz.prog 10 [.s (.ptr 0 0 0), .s (.slice 4 0 0 X3.length X3.length)] [BKb 3 (.gro 5 3 3), IB (X0.length + 1) (X0 ++ [77]), IB (X1.length + 1) (X1 ++ [77]), IB X2.length X2, IB X3.length X3, RB (R3 (.slice 1 0 0 X0.length (X0.length + 1)) .nils 1 (R3 (.slice 2 0 0 X1.length (X1.length + 1)) .nils 2 (R3 (.slice 3 0 0 X2.length X2.length) .nils 3 [])))] (.tup []) [BKb 4 (.gro 6 3 4), IB (X0.length + 1) (X0 ++ [77]), IB (X1.length + 1) (X1 ++ [77]), IB X2.length X2, IB X3.length X3, none, RB (R3 (.slice 1 0 0 X0.length (X0.length + 1)) .nils 1 (R3 (.slice 2 0 0 X1.length (X1.length + 1)) .nils 2 (R3 (.slice 3 0 0 X2.length X2.length) .nils 3 (R3 (.slice 4 0 0 X3.length X3.length) .nils 4 []))))] := by
 refine con_in 7 Tryz.func10 rfl rfl (m := 6) rfl ?_
 intro E hP hn hE
 refine g_reg hP hn ?_
 refine o2 ?_
 refine s_op (k_call [0, 1, 2, 3, 4, 5] (con := keep_AABB X0 X1 X2 X3)) ?_
 refine s_nil trivial ?_
 exact d_ret hP hn hE [0, 1, 2, 3, 4, 5, 6] (ret_none Tryz.results10)

theorem keep_AABC (X0 : List Int) (X1 : List Int) (X2 : List Int) : Con Tryz.prog 45 [.s (.ptr 0 0 0), .s .nils] [BKb 3 (.gro 4 3 3), IB (X0.length + 1) (X0 ++ [77]), IB (X1.length + 1) (X1 ++ [77]), IB X2.length X2, RB (R3 (.slice 1 0 0 X0.length (X0.length + 1)) .nils 1 (R3 (.slice 2 0 0 X1.length (X1.length + 1)) .nils 2 (R3 (.slice 3 0 0 X2.length X2.length) .nils 3 [])))] (.tup []) [BKb 4 (.gro 5 3 4), IB (X0.length + 1) (X0 ++ [77]), IB (X1.length + 1) (X1 ++ [77]), IB X2.length X2, none, RB (R3 (.slice 1 0 0 X0.length (X0.length + 1)) .nils 1 (R3 (.slice 2 0 0 X1.length (X1.length + 1)) .nils 2 (R3 (.slice 3 0 0 X2.length X2.length) .nils 3 (R3 .nils .nils 4 []))))] := by
 refine con_in 26 Tryz.func45 rfl rfl (m := 5) rfl ?_
 intro E hP hn hE
 refine qz hP hn ?_
 refine o4 ?_
 refine o3 ?_
 refine s_st (k_st (h := by exact a_store_one rfl rfl SV.noConfusion rfl rfl (hset_seg (by repeat (first | apply sset_s _ rfl rfl | exact sset_0)) (by repeat (first | exact hset_0 | apply hset_s))))) ?_
 refine s_nil trivial (n_wp ?_)
 refine g_any hP hn ?_
 refine o4 ?_
 refine o4 ?_
 refine o2 ?_
 refine s_op k_bd ?_
 refine s_op k_bs1 ?_
 refine s_op k_ap1 ?_
 refine o2 ?_
 refine s_st (k_st (h := by exact a_store_one rfl rfl SV.noConfusion rfl rfl (hset_seg (by repeat (first | apply sset_s _ rfl rfl | exact sset_0)) (by repeat (first | exact hset_0 | apply hset_s))))) ?_
 refine s_nil (by kernel_rfl) ?_
 exact d_ret hP hn hE [0, 1, 2, 3, 4, 6] (ret_none Tryz.results45)
theorem bytes_AABC (X0 : List Int) (X1 : List Int) (X2 : List Int) : Con Tryz.prog 10 [.s (.ptr 0 0 0), .s .nils] [BKb 3 (.gro 4 3 3), IB (X0.length + 1) (X0 ++ [77]), IB (X1.length + 1) (X1 ++ [77]), IB X2.length X2, RB (R3 (.slice 1 0 0 X0.length (X0.length + 1)) .nils 1 (R3 (.slice 2 0 0 X1.length (X1.length + 1)) .nils 2 (R3 (.slice 3 0 0 X2.length X2.length) .nils 3 [])))] (.tup []) [BKb 4 (.gro 5 3 4), IB (X0.length + 1) (X0 ++ [77]), IB (X1.length + 1) (X1 ++ [77]), IB X2.length X2, none, RB (R3 (.slice 1 0 0 X0.length (X0.length + 1)) .nils 1 (R3 (.slice 2 0 0 X1.length (X1.length + 1)) .nils 2 (R3 (.slice 3 0 0 X2.length X2.length) .nils 3 (R3 .nils .nils 4 []))))] := by
 refine con_in 7 Tryz.func10 rfl rfl (m := 5) rfl ?_
 intro E hP hn hE
 refine g_reg hP hn ?_
 refine o2 ?_
 refine s_op (k_call [0, 1, 2, 3, 4] (con := keep_AABC X0 X1 X2)) ?_
 refine s_nil trivial ?_
 exact d_ret hP hn hE [0, 1, 2, 3, 4, 5] (ret_none Tryz.results10)

theorem keep_AAC (X0 : List Int) (X1 : List Int) : Con Tryz.prog 45 [.s (.ptr 0 0 0), .s .nils] [BKb 2 (.gro 3 3 2), IB (X0.length + 1) (X0 ++ [77]), IB (X1.length + 1) (X1 ++ [77]), RB (R3 (.slice 1 0 0 X0.length (X0.length + 1)) .nils 1 (R3 (.slice 2 0 0 X1.length (X1.length + 1)) .nils 2 []))] (.tup []) [BKb 3 (.gro 4 3 3), IB (X0.length + 1) (X0 ++ [77]), IB (X1.length + 1) (X1 ++ [77]), none, RB (R3 (.slice 1 0 0 X0.length (X0.length + 1)) .nils 1 (R3 (.slice 2 0 0 X1.length (X1.length + 1)) .nils 2 (R3 .nils .nils 3 [])))] := by
 refine con_in 26 Tryz.func45 rfl rfl (m := 4) rfl ?_
 intro E hP hn hE
 refine qz hP hn ?_
 refine o4 ?_
 refine o3 ?_
 refine s_st (k_st (h := by exact a_store_one rfl rfl SV.noConfusion rfl rfl (hset_seg (by repeat (first | apply sset_s _ rfl rfl | exact sset_0)) (by repeat (first | exact hset_0 | apply hset_s))))) ?_
 refine s_nil trivial (n_wp ?_)
 refine g_any hP hn ?_
 refine o4 ?_
 refine o4 ?_
 refine o2 ?_
 refine s_op k_bd ?_
 refine s_op k_bs1 ?_
 refine s_op k_ap1 ?_
 refine o2 ?_
 refine s_st (k_st (h := by exact a_store_one rfl rfl SV.noConfusion rfl rfl (hset_seg (by repeat (first | apply sset_s _ rfl rfl | exact sset_0)) (by repeat (first | exact hset_0 | apply hset_s))))) ?_
 refine s_nil (by kernel_rfl) ?_
 exact d_ret hP hn hE [0, 1, 2, 3, 5] (ret_none Tryz.results45)
theorem bytes_AAC (X0 : List Int) (X1 : List Int) : Con Tryz.prog 10 [.s (.ptr 0 0 0), .s .nils] [BKb 2 (.gro 3 3 2), IB (X0.length + 1) (X0 ++ [77]), IB (X1.length + 1) (X1 ++ [77]), RB (R3 (.slice 1 0 0 X0.length (X0.length + 1)) .nils 1 (R3 (.slice 2 0 0 X1.length (X1.length + 1)) .nils 2 []))] (.tup []) [BKb 3 (.gro 4 3 3), IB (X0.length + 1) (X0 ++ [77]), IB (X1.length + 1) (X1 ++ [77]), none, RB (R3 (.slice 1 0 0 X0.length (X0.length + 1)) .nils 1 (R3 (.slice 2 0 0 X1.length (X1.length + 1)) .nils 2 (R3 .nils .nils 3 [])))] := by
 refine con_in 7 Tryz.func10 rfl rfl (m := 4) rfl ?_
 intro E hP hn hE
 refine g_reg hP hn ?_
 refine o2 ?_
 refine s_op (k_call [0, 1, 2, 3] (con := keep_AAC X0 X1)) ?_
 refine s_nil trivial ?_
 exact d_ret hP hn hE [0, 1, 2, 3, 4] (ret_none Tryz.results10)

theorem keep_AACB (X0 : List Int) (X1 : List Int) (X3 : List Int) : Con Tryz.prog 45 [.s (.ptr 0 0 0), .s (.slice 3 0 0 X3.length X3.length)] [BKb 3 (.gro 4 3 3), IB (X0.length + 1) (X0 ++ [77]), IB (X1.length + 1) (X1 ++ [77]), IB X3.length X3, RB (R3 (.slice 1 0 0 X0.length (X0.length + 1)) .nils 1 (R3 (.slice 2 0 0 X1.length (X1.length + 1)) .nils 2 (R3 .nils .nils 3 [])))] (.tup []) [BKb 4 (.gro 5 3 4), IB (X0.length + 1) (X0 ++ [77]), IB (X1.length + 1) (X1 ++ [77]), IB X3.length X3, none, RB (R3 (.slice 1 0 0 X0.length (X0.length + 1)) .nils 1 (R3 (.slice 2 0 0 X1.length (X1.length + 1)) .nils 2 (R3 .nils .nils 3 (R3 (.slice 3 0 0 X3.length X3.length) .nils 4 []))))] := by
 refine con_in 26 Tryz.func45 rfl rfl (m := 5) rfl ?_
 intro E hP hn hE
 refine qz hP hn ?_
 refine o4 ?_
 refine o3 ?_
 refine s_st (k_st (h := by exact a_store_one rfl rfl SV.noConfusion rfl rfl (hset_seg (by repeat (first | apply sset_s _ rfl rfl | exact sset_0)) (by repeat (first | exact hset_0 | apply hset_s))))) ?_
 refine s_nil trivial (n_wp ?_)
 refine g_any hP hn ?_
 refine o4 ?_
 refine o4 ?_
 refine o2 ?_
 refine s_op k_bd ?_
 refine s_op k_bs1 ?_
 refine s_op k_ap1 ?_
 refine o2 ?_
 refine s_st (k_st (h := by exact a_store_one rfl rfl SV.noConfusion rfl rfl (hset_seg (by repeat (first | apply sset_s _ rfl rfl | exact sset_0)) (by repeat (first | exact hset_0 | apply hset_s))))) ?_
 refine s_nil (by kernel_rfl) ?_
 exact d_ret hP hn hE [0, 1, 2, 3, 4, 6] (ret_none Tryz.results45)
theorem bytes_AACB (X0 : List Int) (X1 : List Int) (X3 : List Int) : Con Tryz.prog 10 [.s (.ptr 0 0 0), .s (.slice 3 0 0 X3.length X3.length)] [BKb 3 (.gro 4 3 3), IB (X0.length + 1) (X0 ++ [77]), IB (X1.length + 1) (X1 ++ [77]), IB X3.length X3, RB (R3 (.slice 1 0 0 X0.length (X0.length + 1)) .nils 1 (R3 (.slice 2 0 0 X1.length (X1.length + 1)) .nils 2 (R3 .nils .nils 3 [])))] (.tup []) [BKb 4 (.gro 5 3 4), IB (X0.length + 1) (X0 ++ [77]), IB (X1.length + 1) (X1 ++ [77]), IB X3.length X3, none, RB (R3 (.slice 1 0 0 X0.length (X0.length + 1)) .nils 1 (R3 (.slice 2 0 0 X1.length (X1.length + 1)) .nils 2 (R3 .nils .nils 3 (R3 (.slice 3 0 0 X3.length X3.length) .nils 4 []))))] := by
 refine con_in 7 Tryz.func10 rfl rfl (m := 5) rfl ?_
 intro E hP hn hE
 refine g_reg hP hn ?_
 refine o2 ?_
 refine s_op (k_call [0, 1, 2, 3, 4] (con := keep_AACB X0 X1 X3)) ?_
 refine s_nil trivial ?_
 exact d_ret hP hn hE [0, 1, 2, 3, 4, 5] (ret_none Tryz.results10)

theorem keep_AACC (X0 : List Int) (X1 : List Int) : Con Tryz.prog 45 [.s (.ptr 0 0 0), .s .nils] [BKb 3 (.gro 3 3 3), IB (X0.length + 1) (X0 ++ [77]), IB (X1.length + 1) (X1 ++ [77]), RB (R3 (.slice 1 0 0 X0.length (X0.length + 1)) .nils 1 (R3 (.slice 2 0 0 X1.length (X1.length + 1)) .nils 2 (R3 .nils .nils 3 [])))] (.tup []) [BKb 4 (.gro 4 3 4), IB (X0.length + 1) (X0 ++ [77]), IB (X1.length + 1) (X1 ++ [77]), none, RB (R3 (.slice 1 0 0 X0.length (X0.length + 1)) .nils 1 (R3 (.slice 2 0 0 X1.length (X1.length + 1)) .nils 2 (R3 .nils .nils 3 (R3 .nils .nils 4 []))))] := by
 refine con_in 26 Tryz.func45 rfl rfl (m := 4) rfl ?_
 intro E hP hn hE
 refine qz hP hn ?_
 refine o4 ?_
 refine o3 ?_
 refine s_st (k_st (h := by exact a_store_one rfl rfl SV.noConfusion rfl rfl (hset_seg (by repeat (first | apply sset_s _ rfl rfl | exact sset_0)) (by repeat (first | exact hset_0 | apply hset_s))))) ?_
 refine s_nil trivial (n_wp ?_)
 refine g_any hP hn ?_
 refine o4 ?_
 refine o4 ?_
 refine o2 ?_
 refine s_op k_bd ?_
 refine s_op k_bs1 ?_
 refine s_op k_ap1 ?_
 refine o2 ?_
 refine s_st (k_st (h := by exact a_store_one rfl rfl SV.noConfusion rfl rfl (hset_seg (by repeat (first | apply sset_s _ rfl rfl | exact sset_0)) (by repeat (first | exact hset_0 | apply hset_s))))) ?_
 refine s_nil (by kernel_rfl) ?_
 exact d_ret hP hn hE [0, 1, 2, 3, 5] (ret_none Tryz.results45)
theorem bytes_AACC (X0 : List Int) (X1 : List Int) : Con Tryz.prog 10 [.s (.ptr 0 0 0), .s .nils] [BKb 3 (.gro 3 3 3), IB (X0.length + 1) (X0 ++ [77]), IB (X1.length + 1) (X1 ++ [77]), RB (R3 (.slice 1 0 0 X0.length (X0.length + 1)) .nils 1 (R3 (.slice 2 0 0 X1.length (X1.length + 1)) .nils 2 (R3 .nils .nils 3 [])))] (.tup []) [BKb 4 (.gro 4 3 4), IB (X0.length + 1) (X0 ++ [77]), IB (X1.length + 1) (X1 ++ [77]), none, RB (R3 (.slice 1 0 0 X0.length (X0.length + 1)) .nils 1 (R3 (.slice 2 0 0 X1.length (X1.length + 1)) .nils 2 (R3 .nils .nils 3 (R3 .nils .nils 4 []))))] := by
 refine con_in 7 Tryz.func10 rfl rfl (m := 4) rfl ?_
 intro E hP hn hE
 refine g_reg hP hn ?_
 refine o2 ?_
 refine s_op (k_call [0, 1, 2, 3] (con := keep_AACC X0 X1)) ?_
 refine s_nil trivial ?_
 exact d_ret hP hn hE [0, 1, 2, 3, 4] (ret_none Tryz.results10)

end Go.Proofs.X
end

section
set_option maxRecDepth 100000
set_option maxHeartbeats 4000000
open Go Go.Bx Go.Proofs
namespace Go.Proofs.X
set_option maxRecDepth 100000
set_option maxHeartbeats 4000000
attribute [local irreducible] hmB streamI seal1 sealB ahB be fiB hmO tk rmac rsumL SB BK ks
theorem law19_z1 (M C B D : List Int) (l n : Nat) (h : 5000 < B.length) : Con Tryz.prog 5 [.agg [.ints .u8 32 M, .ints .u8 16 C, .one (.int .u32 ((l : Nat) : Int)), .one (.int .u64 ((n : Nat) : Int))], .s (.fzi .u8 B), .s (.fzi .u8 D)] [] (.s (.bool true)) [] := by
 refine con_in 149 Tryz.func5 rfl rfl (m := 0) rfl ?_
 intro E hP hn hE
 refine qz hP hn ?_
 refine s_op k_bxf ?_
 refine s_op k_as ?_
 refine s_nil trivial (n_wp (w_seq (qz hP hn ?_)))
 refine o2 ?_
 refine s_op (l_bin rfl rfl (b_gtr (r := true) (decide_eq_true (by omega)))) ?_
 refine s_op k_mv ?_
 refine s_off rfl rfl rfl ?_
 refine s_off rfl rfl rfl ?_
 refine s_off rfl rfl rfl ?_
 refine s_op k_pk ?_
 refine s_nil trivial (n_wp ?_)
 refine w_T rfl ?_ 
 refine qz hP hn ?_
 refine s_op k_as ?_
 refine s_nil trivial (n_wp (w_ret (r_thn ?_)))
 exact d_ret hP hn hE [] (by first | exact r_tmp Tryz.results5 | exact r_tmpa Tryz.results5)

theorem law19_z2 (M C B D : List Int) (l n : Nat) (h : ¬ 5000 < B.length) (h2 : 5000 < D.length) : Con Tryz.prog 5 [.agg [.ints .u8 32 M, .ints .u8 16 C, .one (.int .u32 ((l : Nat) : Int)), .one (.int .u64 ((n : Nat) : Int))], .s (.fzi .u8 B), .s (.fzi .u8 D)] [] (.s (.bool true)) [] := by
 refine con_in 149 Tryz.func5 rfl rfl (m := 0) rfl ?_
 intro E hP hn hE
 refine qz hP hn ?_
 refine s_op k_bxf ?_
 refine s_op k_as ?_
 refine s_nil trivial (n_wp (w_seq (qz hP hn ?_)))
 refine o2 ?_
 refine s_op (l_bin rfl rfl (b_gtr (r := false) (decide_eq_false (by omega)))) ?_
 refine s_op k_mv ?_
 refine s_on rfl rfl rfl k_mv ?_
 refine s_on rfl rfl rfl k_len ?_
 refine s_on rfl rfl rfl (l_bin rfl rfl (b_gtr (r := true) (decide_eq_true (by omega)))) ?_
 refine s_op k_pk ?_
 refine s_nil trivial (n_wp ?_)
 refine w_T rfl ?_ 
 refine qz hP hn ?_
 refine s_op k_as ?_
 refine s_nil trivial (n_wp (w_ret (r_thn ?_)))
 exact d_ret hP hn hE [] (by first | exact r_tmp Tryz.results5 | exact r_tmpa Tryz.results5)

end Go.Proofs.X
end
