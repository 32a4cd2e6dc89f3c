/- A part of the proofs of this claim: BPkt1, BPkt2, BPkt3, BCovT, BCovS, BCov1, BCov2, BCov3, BCovP, BCovT4, BCov4, BCovQ, BCov5, BCovR, BCov6, Bx42, Bx43, BGetT, BGetS, BGet1, BGet2. No conditions. -/
import Derived.Test.YtcddchknofjbhaaGreatA9
import Derived.Test.YtcddchknofjbhaaGreatA8
import Derived.Test.YtcddchknofjbhaaGreatA5
import Derived.ScopeJumps
import Derived.Test.YtcddchknofjbhaaGreatA7
set_option linter.unusedVariables false
set_option linter.unusedSimpArgs false
section
set_option maxRecDepth 100000
set_option maxHeartbeats 4000000
open Go Go.Bx Go.Proofs
namespace Go.Proofs.X
attribute [local irreducible] be gN ckS
theorem may_0 (k : Nat) (hk : k = 0 ∨ 8 < k) : Con Tryz.prog 29 [.s (.int .u8 ((k : Nat) : Int))] [] (.s (.bool false)) [] := by
 refine con_in 14 Tryz.func29 rfl rfl (m := 0) rfl ?_
 intro E hP hn hE
 refine qz hP hn ?_
 refine s_op k_as ?_
 refine s_nil trivial (n_wp (w_seq (qz hP hn ?_)))
 refine s_op k_mv ?_
 refine s_nil trivial (n_wp (w_block (w_seq (w_block (w_block (w_seq (w_seq (w_seq (qz hP hn ?_)))))))))
 refine o2 ?_
 refine s_nil trivial (n_wp ?_)
 refine w_F rfl ?_ 
 refine qz hP hn ?_
 refine o2 ?_
 refine s_nil trivial (n_wp ?_)
 refine w_F rfl ?_ 
 refine qz hP hn ?_
 refine o2 ?_
 refine s_nil trivial (n_wp ?_)
 refine w_F rfl ?_ 
 refine g_reg hP hn ?_
 refine o2 ?_
 refine s_nil trivial (n_wp ?_)
 refine w_F rfl ?_ 
 refine w_skip (n_wp (w_seq (qz hP hn ?_)))
 refine o2 ?_
 refine s_nil trivial (n_wp ?_)
 refine w_F rfl ?_ 
 refine qz hP hn ?_
 refine o2 ?_
 refine s_nil trivial (n_wp ?_)
 refine w_F rfl ?_ 
 refine qz hP hn ?_
 refine o2 ?_
 refine s_nil trivial (n_wp ?_)
 refine w_F rfl ?_ 
 refine g_reg hP hn ?_
 refine o2 ?_
 refine s_nil trivial (n_wp ?_)
 refine w_F rfl ?_ 
 refine w_skip (n_wp (w_exit (x_ne rfl (x_ne rfl (x_thn (x_eq (n_wp (qz hP hn ?_))))))))
 refine s_op k_as ?_
 refine s_nil trivial (n_wp (w_ret ?_))
 exact d_ret hP hn hE [] (by first | exact r_tmp Tryz.results29 | exact r_tmpa Tryz.results29)

theorem may_1  : Con Tryz.prog 29 [.s (.int .u8 ((1 : Nat) : Int))] [] (.s (.bool true)) [] := by
 refine con_in 14 Tryz.func29 rfl rfl (m := 0) rfl ?_
 intro E hP hn hE
 refine qz hP hn ?_
 refine s_op k_as ?_
 refine s_nil trivial (n_wp (w_seq (qz hP hn ?_)))
 refine s_op k_mv ?_
 refine s_nil trivial (n_wp (w_block (w_seq (w_block (w_block (w_seq (w_seq (w_seq (qz hP hn ?_)))))))))
 refine o2 ?_
 refine s_nil trivial (n_wp ?_)
 refine w_T rfl ?_ 
 refine w_skip (n_wp ?_)
 refine w_T rfl ?_ 
 refine w_exit (x_thn (x_thn (x_eq (n_blo (n_wp (w_seq (qz hP hn ?_)))))))
 refine s_op k_as ?_
 refine s_nil trivial (n_wp (w_ret (r_thn (r_blo (r_thn ?_)))))
 exact d_ret hP hn hE [] (by first | exact r_tmp Tryz.results29 | exact r_tmpa Tryz.results29)

theorem may_2  : Con Tryz.prog 29 [.s (.int .u8 ((2 : Nat) : Int))] [] (.s (.bool true)) [] := by
 refine con_in 14 Tryz.func29 rfl rfl (m := 0) rfl ?_
 intro E hP hn hE
 refine qz hP hn ?_
 refine s_op k_as ?_
 refine s_nil trivial (n_wp (w_seq (qz hP hn ?_)))
 refine s_op k_mv ?_
 refine s_nil trivial (n_wp (w_block (w_seq (w_block (w_block (w_seq (w_seq (w_seq (qz hP hn ?_)))))))))
 refine o2 ?_
 refine s_nil trivial (n_wp ?_)
 refine w_F rfl ?_ 
 refine qz hP hn ?_
 refine o2 ?_
 refine s_nil trivial (n_wp ?_)
 refine w_T rfl ?_ 
 refine w_skip (n_wp ?_)
 refine w_T rfl ?_ 
 refine w_exit (x_thn (x_thn (x_eq (n_blo (n_wp (w_seq (qz hP hn ?_)))))))
 refine s_op k_as ?_
 refine s_nil trivial (n_wp (w_ret (r_thn (r_blo (r_thn ?_)))))
 exact d_ret hP hn hE [] (by first | exact r_tmp Tryz.results29 | exact r_tmpa Tryz.results29)

theorem may_3  : Con Tryz.prog 29 [.s (.int .u8 ((3 : Nat) : Int))] [] (.s (.bool true)) [] := by
 refine con_in 14 Tryz.func29 rfl rfl (m := 0) rfl ?_
 intro E hP hn hE
 refine qz hP hn ?_
 refine s_op k_as ?_
 refine s_nil trivial (n_wp (w_seq (qz hP hn ?_)))
 refine s_op k_mv ?_
 refine s_nil trivial (n_wp (w_block (w_seq (w_block (w_block (w_seq (w_seq (w_seq (qz hP hn ?_)))))))))
 refine o2 ?_
 refine s_nil trivial (n_wp ?_)
 refine w_F rfl ?_ 
 refine qz hP hn ?_
 refine o2 ?_
 refine s_nil trivial (n_wp ?_)
 refine w_F rfl ?_ 
 refine qz hP hn ?_
 refine o2 ?_
 refine s_nil trivial (n_wp ?_)
 refine w_T rfl ?_ 
 refine w_skip (n_wp ?_)
 refine w_T rfl ?_ 
 refine w_exit (x_thn (x_thn (x_eq (n_blo (n_wp (w_seq (qz hP hn ?_)))))))
 refine s_op k_as ?_
 refine s_nil trivial (n_wp (w_ret (r_thn (r_blo (r_thn ?_)))))
 exact d_ret hP hn hE [] (by first | exact r_tmp Tryz.results29 | exact r_tmpa Tryz.results29)

theorem may_4  : Con Tryz.prog 29 [.s (.int .u8 ((4 : Nat) : Int))] [] (.s (.bool true)) [] := by
 refine con_in 14 Tryz.func29 rfl rfl (m := 0) rfl ?_
 intro E hP hn hE
 refine qz hP hn ?_
 refine s_op k_as ?_
 refine s_nil trivial (n_wp (w_seq (qz hP hn ?_)))
 refine s_op k_mv ?_
 refine s_nil trivial (n_wp (w_block (w_seq (w_block (w_block (w_seq (w_seq (w_seq (qz hP hn ?_)))))))))
 refine o2 ?_
 refine s_nil trivial (n_wp ?_)
 refine w_F rfl ?_ 
 refine qz hP hn ?_
 refine o2 ?_
 refine s_nil trivial (n_wp ?_)
 refine w_F rfl ?_ 
 refine qz hP hn ?_
 refine o2 ?_
 refine s_nil trivial (n_wp ?_)
 refine w_F rfl ?_ 
 refine g_reg hP hn ?_
 refine o2 ?_
 refine s_nil trivial (n_wp ?_)
 refine w_T rfl ?_ 
 refine w_exit (x_thn (x_thn (x_eq (n_blo (n_wp (w_seq (qz hP hn ?_)))))))
 refine s_op k_as ?_
 refine s_nil trivial (n_wp (w_ret (r_thn (r_blo (r_thn ?_)))))
 exact d_ret hP hn hE [] (by first | exact r_tmp Tryz.results29 | exact r_tmpa Tryz.results29)

theorem may_5  : Con Tryz.prog 29 [.s (.int .u8 ((5 : Nat) : Int))] [] (.s (.bool true)) [] := by
 refine con_in 14 Tryz.func29 rfl rfl (m := 0) rfl ?_
 intro E hP hn hE
 refine qz hP hn ?_
 refine s_op k_as ?_
 refine s_nil trivial (n_wp (w_seq (qz hP hn ?_)))
 refine s_op k_mv ?_
 refine s_nil trivial (n_wp (w_block (w_seq (w_block (w_block (w_seq (w_seq (w_seq (qz hP hn ?_)))))))))
 refine o2 ?_
 refine s_nil trivial (n_wp ?_)
 refine w_F rfl ?_ 
 refine qz hP hn ?_
 refine o2 ?_
 refine s_nil trivial (n_wp ?_)
 refine w_F rfl ?_ 
 refine qz hP hn ?_
 refine o2 ?_
 refine s_nil trivial (n_wp ?_)
 refine w_F rfl ?_ 
 refine g_reg hP hn ?_
 refine o2 ?_
 refine s_nil trivial (n_wp ?_)
 refine w_F rfl ?_ 
 refine w_skip (n_wp (w_seq (qz hP hn ?_)))
 refine o2 ?_
 refine s_nil trivial (n_wp ?_)
 refine w_T rfl ?_ 
 refine w_skip (n_wp ?_)
 refine w_T rfl ?_ 
 refine w_exit (x_thn (x_ne rfl (x_eq (n_wp (w_seq (qz hP hn ?_))))))
 refine s_op k_as ?_
 refine s_nil trivial (n_wp (w_ret (r_thn (r_blo (r_thn ?_)))))
 exact d_ret hP hn hE [] (by first | exact r_tmp Tryz.results29 | exact r_tmpa Tryz.results29)

theorem may_6  : Con Tryz.prog 29 [.s (.int .u8 ((6 : Nat) : Int))] [] (.s (.bool true)) [] := by
 refine con_in 14 Tryz.func29 rfl rfl (m := 0) rfl ?_
 intro E hP hn hE
 refine qz hP hn ?_
 refine s_op k_as ?_
 refine s_nil trivial (n_wp (w_seq (qz hP hn ?_)))
 refine s_op k_mv ?_
 refine s_nil trivial (n_wp (w_block (w_seq (w_block (w_block (w_seq (w_seq (w_seq (qz hP hn ?_)))))))))
 refine o2 ?_
 refine s_nil trivial (n_wp ?_)
 refine w_F rfl ?_ 
 refine qz hP hn ?_
 refine o2 ?_
 refine s_nil trivial (n_wp ?_)
 refine w_F rfl ?_ 
 refine qz hP hn ?_
 refine o2 ?_
 refine s_nil trivial (n_wp ?_)
 refine w_F rfl ?_ 
 refine g_reg hP hn ?_
 refine o2 ?_
 refine s_nil trivial (n_wp ?_)
 refine w_F rfl ?_ 
 refine w_skip (n_wp (w_seq (qz hP hn ?_)))
 refine o2 ?_
 refine s_nil trivial (n_wp ?_)
 refine w_F rfl ?_ 
 refine qz hP hn ?_
 refine o2 ?_
 refine s_nil trivial (n_wp ?_)
 refine w_T rfl ?_ 
 refine w_skip (n_wp ?_)
 refine w_T rfl ?_ 
 refine w_exit (x_thn (x_ne rfl (x_eq (n_wp (w_seq (qz hP hn ?_))))))
 refine s_op k_as ?_
 refine s_nil trivial (n_wp (w_ret (r_thn (r_blo (r_thn ?_)))))
 exact d_ret hP hn hE [] (by first | exact r_tmp Tryz.results29 | exact r_tmpa Tryz.results29)

theorem may_7  : Con Tryz.prog 29 [.s (.int .u8 ((7 : Nat) : Int))] [] (.s (.bool true)) [] := by
 refine con_in 14 Tryz.func29 rfl rfl (m := 0) rfl ?_
 intro E hP hn hE
 refine qz hP hn ?_
 refine s_op k_as ?_
 refine s_nil trivial (n_wp (w_seq (qz hP hn ?_)))
 refine s_op k_mv ?_
 refine s_nil trivial (n_wp (w_block (w_seq (w_block (w_block (w_seq (w_seq (w_seq (qz hP hn ?_)))))))))
 refine o2 ?_
 refine s_nil trivial (n_wp ?_)
 refine w_F rfl ?_ 
 refine qz hP hn ?_
 refine o2 ?_
 refine s_nil trivial (n_wp ?_)
 refine w_F rfl ?_ 
 refine qz hP hn ?_
 refine o2 ?_
 refine s_nil trivial (n_wp ?_)
 refine w_F rfl ?_ 
 refine g_reg hP hn ?_
 refine o2 ?_
 refine s_nil trivial (n_wp ?_)
 refine w_F rfl ?_ 
 refine w_skip (n_wp (w_seq (qz hP hn ?_)))
 refine o2 ?_
 refine s_nil trivial (n_wp ?_)
 refine w_F rfl ?_ 
 refine qz hP hn ?_
 refine o2 ?_
 refine s_nil trivial (n_wp ?_)
 refine w_F rfl ?_ 
 refine qz hP hn ?_
 refine o2 ?_
 refine s_nil trivial (n_wp ?_)
 refine w_T rfl ?_ 
 refine w_skip (n_wp ?_)
 refine w_T rfl ?_ 
 refine w_exit (x_thn (x_ne rfl (x_eq (n_wp (w_seq (qz hP hn ?_))))))
 refine s_op k_as ?_
 refine s_nil trivial (n_wp (w_ret (r_thn (r_blo (r_thn ?_)))))
 exact d_ret hP hn hE [] (by first | exact r_tmp Tryz.results29 | exact r_tmpa Tryz.results29)

theorem may_8  : Con Tryz.prog 29 [.s (.int .u8 ((8 : Nat) : Int))] [] (.s (.bool true)) [] := by
 refine con_in 14 Tryz.func29 rfl rfl (m := 0) rfl ?_
 intro E hP hn hE
 refine qz hP hn ?_
 refine s_op k_as ?_
 refine s_nil trivial (n_wp (w_seq (qz hP hn ?_)))
 refine s_op k_mv ?_
 refine s_nil trivial (n_wp (w_block (w_seq (w_block (w_block (w_seq (w_seq (w_seq (qz hP hn ?_)))))))))
 refine o2 ?_
 refine s_nil trivial (n_wp ?_)
 refine w_F rfl ?_ 
 refine qz hP hn ?_
 refine o2 ?_
 refine s_nil trivial (n_wp ?_)
 refine w_F rfl ?_ 
 refine qz hP hn ?_
 refine o2 ?_
 refine s_nil trivial (n_wp ?_)
 refine w_F rfl ?_ 
 refine g_reg hP hn ?_
 refine o2 ?_
 refine s_nil trivial (n_wp ?_)
 refine w_F rfl ?_ 
 refine w_skip (n_wp (w_seq (qz hP hn ?_)))
 refine o2 ?_
 refine s_nil trivial (n_wp ?_)
 refine w_F rfl ?_ 
 refine qz hP hn ?_
 refine o2 ?_
 refine s_nil trivial (n_wp ?_)
 refine w_F rfl ?_ 
 refine qz hP hn ?_
 refine o2 ?_
 refine s_nil trivial (n_wp ?_)
 refine w_F rfl ?_ 
 refine g_reg hP hn ?_
 refine o2 ?_
 refine s_nil trivial (n_wp ?_)
 refine w_T rfl ?_ 
 refine w_exit (x_thn (x_ne rfl (x_eq (n_wp (w_seq (qz hP hn ?_))))))
 refine s_op k_as ?_
 refine s_nil trivial (n_wp (w_ret (r_thn (r_blo (r_thn ?_)))))
 exact d_ret hP hn hE [] (by first | exact r_tmp Tryz.results29 | exact r_tmpa Tryz.results29)

theorem may_c (k : Nat) : Con Tryz.prog 29 [.s (.int .u8 ((k : Nat) : Int))] [] (.s (.bool (mayK k))) [] := by
 by_cases h : k = 0 ∨ 8 < k
 · have e : mayK k = false := by
     unfold mayK
     rcases h with h | h
     · rw [decide_eq_false (show ¬ 0 < k by omega)]; rfl
     · rw [decide_eq_false (show ¬ k ≤ 8 by omega), Bool.and_false]
   rw [e]; exact may_0 k h
 · have : k = 1 ∨ k = 2 ∨ k = 3 ∨ k = 4 ∨ k = 5 ∨ k = 6 ∨ k = 7 ∨ k = 8 := by omega
   rcases this with rfl | rfl | rfl | rfl | rfl | rfl | rfl | rfl
   · exact may_1
   · exact may_2
   · exact may_3
   · exact may_4
   · exact may_5
   · exact may_6
   · exact may_7
   · exact may_8

theorem check2_n (B : List Int) (hU : U8' B) (hBb : B.length ≤ 1000000) : Con Tryz.prog 35 [.s (.fzi .u8 B)] [] (.s (.int .u16 ((chk B : Nat) : Int))) [] := by
 refine con_in 31 Tryz.func35 rfl rfl (m := 0) rfl ?_
 intro E hP hn hE
 refine qz hP hn ?_
 refine s_op k_as ?_
 refine qx hP hn ?_
 refine s_op k_as ?_
 refine s_nil trivial (n_wp (w_seq (qz hP hn ?_)))
 refine o3 ?_
 refine s_nil trivial (n_wp (w_block ?_))
 refine c_loop (fun m_ T H => ∃ i, i ≤ B.length ∧ m_ = B.length - i ∧ T = [(3, .s (.int .u32 ((ckS B i : Nat) : Int))), (6, .s (.fzi .u8 B)), (7, .s (.int .i64 ((B.length : Nat) : Int))), (8, .s (.int .i64 ((i : Nat) : Int)))] ∧ H = []) (B.length) ⟨0, by omega, rfl, by rw [ckS_0], rfl⟩ (wk hE []) ?_
 rintro n_ T_ H_ ⟨i, hi, rfl, rfl, rfl⟩
 refine qz hP hn ?_
 refine s_op k_lss ?_
 refine s_nil trivial (n_wp (w_seq ?_))
 refine w_if rfl (fun h_t9 => ?_) (fun h_t9 => ?_)
 · haveI hiB : IsN (B.getD i 0) (B.getD i 0).toNat := ⟨(Int.toNat_of_nonneg (hU i).1).symm⟩
   have hb1 := (hU i).1
   have hb2 := (hU i).2
   have hck := ckS_lt B i
   refine w_skip (n_wp (w_seq (w_block (qz hP hn ?_))))
   refine o3 ?_
   refine o2 ?_
   refine qx hP hn ?_
   refine o4 ?_
   refine o4 ?_
   refine o2 ?_
   refine qy hP hn ?_
   refine o4 ?_
   refine o2 ?_
   refine s_nil trivial (n_blo (n_wp (g_reg hP hn ?_)))
   refine o2 ?_
   refine s_nil trivial ?_
   exact n_round (B.length - (i + 1)) (by omega) ⟨i + 1, by omega, rfl, by rw [← ckS_def], rfl⟩ (wk hE [])
 · obtain rfl : i = B.length := Nat.le_antisymm hi (by omega)
   have hck := ckS_lt B B.length
   refine w_exit (x_thn (x_thn (x_eq (n_wp (qz hP hn ?_)))))
   refine o2 ?_
   refine s_op (l_com (r := ((chk B : Nat) : Int)) rfl ((m_xor (k := .u16) (m := ((65535 : Nat) : Int)) (show 65535 < 65536 by decide) (Nat.mod_lt _ (by decide))).trans (congrArg _ (chk_def B)))) ?_
   refine s_op k_as ?_
   refine s_nil trivial (n_wp (w_ret ?_))
   exact d_ret hP hn hE [] (by first | exact r_tmp Tryz.results35 | exact r_tmpa Tryz.results35)

end Go.Proofs.X
end

section
set_option maxRecDepth 100000
set_option maxHeartbeats 4000000
open Go Go.Bx Go.Proofs
namespace Go.Proofs.X
attribute [local irreducible] be gN ckS encL
theorem grown_m (m : Nat) (h0 : 0 < m) (hb : m ≤ 1000000) : Con Tryz.prog 82 [.s .nils, .s (.int .i64 ((m : Nat) : Int))] [] (.s (.gro 0 1 0)) [some ⟨true, [.ints .u8 (m) (List.replicate m 0)]⟩] := by
 refine con_in 27 Tryz.func82 rfl rfl (m := 0) rfl ?_
 intro E hP hn hE
 refine qz hP hn ?_
 refine s_op k_as ?_
 refine s_nil trivial (n_wp (w_seq (qz hP hn ?_)))
 refine o2 ?_
 refine s_nil trivial (n_wp ?_)
 refine w_F rfl ?_ (decide_eq_false (by omega))
 refine w_skip (n_wp (w_seq (qz hP hn ?_)))
 refine o2 ?_
 refine s_op k_capn ?_
 refine o3 ?_
 refine o2 ?_
 refine qx hP hn ?_
 refine o2 ?_
 refine s_nil trivial (n_wp ?_)
 refine w_T rfl ?_ (decide_eq_true (by omega))
 refine g_reg hP hn ?_
 refine o2 ?_
 refine s_op k_capn ?_
 refine s_op k_sln ?_
 refine s_op k_mv ?_
 refine s_op (k_apnz m) ?_
 refine o2 ?_
 refine s_op (k_slg 0) ?_
 refine s_op k_as ?_
 refine qx hP hn ?_
 refine o2 ?_
 refine s_nil trivial (n_wp (w_ret ?_))
 exact d_ret hP hn hE [0] (by first | exact r_tmp Tryz.results82 | exact r_tmpa Tryz.results82)

theorem cat_m (L : List (List Int)) (h0 : 0 < L.flatten.length) (hb : L.flatten.length ≤ 900000) (hL : L.length ≤ 1000)  : Con Tryz.prog 53 [.s (ROWS L)] [] (.s (.gro 0 1 L.flatten.length)) [some ⟨true, [.ints .u8 (L.flatten.length) (L.flatten)]⟩] := by
 refine con_in 36 Tryz.func53 rfl rfl (m := 0) rfl ?_
 intro E hP hn hE
 refine qz hP hn ?_
 refine s_op k_as ?_
 refine qx hP hn ?_
 refine s_op k_as ?_
 refine s_nil trivial (n_wp (w_seq (qz hP hn ?_)))
 refine o3 ?_
 refine s_nil trivial (n_wp (w_block ?_))
 refine c_loop (fun m_ T H => ∃ i, i ≤ L.length ∧ m_ = L.length - i ∧ T = [(0, .s (ROWS L)), (3, .s (.int .i64 (((L.take i).flatten.length : Nat) : Int))), (9, .s (ROWS L)), (10, .s (.int .i64 ((L.length : Nat) : Int))), (11, .s (.int .i64 ((i : Nat) : Int)))] ∧ H = []) (L.length) ⟨0, by omega, rfl, rfl, rfl⟩ (wk hE []) ?_
 rintro n_ T_ H_ ⟨i, hi, rfl, rfl, rfl⟩
 refine qz hP hn ?_
 refine s_op k_lss ?_
 refine s_nil trivial (n_wp (w_seq ?_))
 refine w_if rfl (fun h_t12 => ?_) (fun h_t12 => ?_)
 · have hfl := flat_le L i
   have hf2 := flat_le L (i + 1)
   rw [flat_s L h_t12, List.length_append] at hf2
   refine w_skip (n_wp (w_seq (w_block (qz hP hn ?_))))
   refine s_op k_ix ?_
   refine s_op (k_ld (by exact a_loadf (v := .fzi .u8 (L.getD i [])) rfl (by omega) (rows_at L h_t12))) ?_
   refine s_op k_as ?_
   refine qx hP hn ?_
   refine o3 ?_
   refine o2 ?_
   refine qx hP hn ?_
   refine o2 ?_
   refine s_nil trivial (n_wp ?_)
   refine w_F rfl ?_ (decide_eq_false (by omega))
   refine w_skip (n_blo (n_wp (g_reg hP hn ?_)))
   refine o2 ?_
   refine s_nil trivial ?_
   exact n_round (L.length - (i + 1)) (by omega) ⟨i + 1, by omega, rfl, by rw [flat_s L h_t12, List.length_append], rfl⟩ (wk hE [])
 · obtain rfl : i = L.length := Nat.le_antisymm hi (by omega)
   have hTL : L.take L.length = L := List.take_length
   rw [hTL]
   refine w_exit (x_thn (x_thn (x_eq (n_wp (qz hP hn ?_)))))
   refine s_op k_mv ?_
   refine s_op (k_call [] (con := grown_m L.flatten.length h0 (by omega))) ?_
   refine s_op k_as ?_
   refine s_nil trivial (n_wp (w_seq (qz hP hn ?_)))
   refine o3 ?_
   refine s_nil trivial (n_wp (w_block ?_))
   refine c_loop (fun m_ T H => ∃ i q l, i ≤ L.length ∧ m_ = L.length - i ∧ l.length = q ∧ (L.take i).flatten.length ≤ q ∧ l.take (L.take i).flatten.length = (L.take i).flatten ∧ T = [(6, .s (.gro 0 1 (L.take i).flatten.length)), (25, .s (ROWS L)), (26, .s (.int .i64 ((L.length : Nat) : Int))), (27, .s (.int .i64 ((i : Nat) : Int)))] ∧ H = [some ⟨true, [.ints .u8 (q) (l)]⟩]) (L.length) ⟨0, L.flatten.length, List.replicate L.flatten.length 0, by omega, rfl, by simp, Nat.zero_le _, rfl, rfl, rfl⟩ (wk hE [0]) ?_
   rintro n_ T_ H_ ⟨i, q, l, hi, rfl, hl, hlq, htk, rfl, rfl⟩
   refine qz hP hn ?_
   refine s_op k_lss ?_
   refine s_nil trivial (n_wp (w_seq ?_))
   refine w_if rfl (fun h_t28 => ?_) (fun h_t28 => ?_)
   · have hf2 := flat_le L (i + 1)
     rw [flat_s L h_t28, List.length_append] at hf2
     refine w_skip (n_wp (w_seq (w_block (qz hP hn ?_))))
     refine s_op k_ix ?_
     refine s_op (k_ld (by exact a_loadf (v := .fzi .u8 (L.getD i [])) rfl (by omega) (rows_at L h_t28))) ?_
     refine s_op k_as ?_
     refine qy hP hn ?_
     refine o2 ?_
     refine s_op (k_apg (c := (L.take i).flatten.length + (L.getD i []).length) (l' := (L.take (i + 1)).flatten) (hc := rfl) (hl' := by rw [htk, flat_s L h_t28]) (hl := hl)) ?_
     refine s_op k_as ?_
     refine s_nil trivial (n_blo (n_wp (g_reg hP hn ?_)))
     refine o2 ?_
     refine s_nil trivial ?_
     exact n_round (L.length - (i + 1)) (by omega) ⟨i + 1, (L.take i).flatten.length + (L.getD i []).length, (L.take (i + 1)).flatten, by omega, rfl, by rw [flat_s L h_t28, List.length_append], by rw [flat_s L h_t28, List.length_append]; exact Nat.le_refl _, List.take_length, by rw [flat_s L h_t28, List.length_append], rfl⟩ (wk hE [1])
   · obtain rfl : i = L.length := Nat.le_antisymm hi (by omega)
     have hTL : L.take L.length = L := List.take_length
     rw [hTL] at htk hlq ⊢
     refine w_exit (x_thn (x_thn (x_eq (n_wp (qz hP hn ?_)))))
     refine o2 ?_
     refine s_nil trivial (n_wp (w_ret ?_))
     exact d_retw hP hn (r_tmp Tryz.results53) ((weak_row 0 (segs' := [.ints .u8 L.flatten.length L.flatten]) (by exact rfl) (fun _ _ h => row_take htk hlq h) rfl).trans (wk hE [0]))

theorem pput_y (L : List Pc) (hLb : L.length ≤ 800000) (hty : ∀ k, (L.getD k p0).1 < 65536) (hall : ∀ i, i < L.length → lastT L i < (L.getD i p0).1) (hl : ¬ 16 < L.length) (hb2 : ∀ k, k < L.length → (L.getD k p0).2.length ≤ 2048) (htot : (encL L).length ≤ 2048) : Con Tryz.prog 51 [.s (PARS L)] [] (.tup [.s (.fzi .u8 (encL L)), .s (.int .i64 0)]) [] := by
 refine con_in 52 Tryz.func51 rfl rfl (m := 0) rfl ?_
 intro E hP hn hE
 refine qz hP hn ?_
 refine o2 ?_
 refine s_nil trivial (n_wp (w_seq (w_block (qz hP hn ?_))))
 refine s_op k_mv ?_
 refine s_op (k_call [] (con := maypar_y L (by omega) hall)) ?_
 refine o2 ?_
 refine s_nil trivial (n_wp ?_)
 refine w_F rfl ?_ 
 refine qz hP hn ?_
 refine o4 ?_
 refine s_nil trivial (n_wp ?_)
 refine w_F rfl ?_ (decide_eq_false (by omega))
 refine w_skip (n_blo (n_wp (qz hP hn ?_)))
 refine s_op k_as ?_
 refine s_nil trivial (n_wp (w_seq (w_seq ?_)))
 refine w_weak (weak_conv 4 rfl (conv_nil (k := .u8))) ?_
 refine g_reg hP hn ?_
 refine o3 ?_
 refine s_nil trivial (n_wp (w_block ?_))
 refine c_loop (fun m_ T H => ∃ i, i ≤ L.length ∧ m_ = L.length - i ∧ (∀ k, k < i → (L.getD k p0).2.length ≤ 2048) ∧ T = [(4, .s (.fzi .u8 (encL (L.take i)))), (15, .s (PARS L)), (16, .s (.int .i64 ((L.length : Nat) : Int))), (17, .s (.int .i64 ((i : Nat) : Int)))] ∧ H = []) (L.length) ⟨0, by omega, rfl, fun k hk => absurd hk (Nat.not_lt_zero k), by rw [encL_0], rfl⟩ (wk hE []) ?_
 rintro n_ T_ H_ ⟨i, hi, rfl, hbd, rfl, rfl⟩
 refine qz hP hn ?_
 refine s_op k_lss ?_
 refine s_nil trivial (n_wp (w_seq ?_))
 refine w_if rfl (fun h_t18 => ?_) (fun h_t18 => ?_)
 · refine w_skip (n_wp (w_seq (w_block (qz hP hn ?_))))
   refine s_op k_ix ?_
   refine s_op k_ldP ?_
   refine s_op k_al ?_
   refine s_st k_st ?_
   refine s_nil trivial (n_wp (w_seq (qz hP hn ?_)))
   refine o4 ?_
   refine s_nil trivial (n_wp ?_)
   have h_b := hb2 i h_t18
   have ht1 := hty i
   have hE8 := encL_mod (L.take i)
   have hEl := encL_le2 L i hbd (by omega) (by omega)
   obtain ⟨hX, _⟩ := enc_fill (b := (L.getD i p0).2) (a := (L.getD i p0).2.length) (t := (L.getD i p0).1) hE8
   have hN : ((encL (L.take i) ++ be 2 (L.getD i p0).1).length + 2) = (encL (L.take i)).length + 4 := by simp [be_len]
   have hXN : ((encL (L.take i) ++ be 2 (L.getD i p0).1).length + 2) + (L.getD i p0).2.length = (encL (L.take i) ++ be 2 (L.getD i p0).1 ++ be 2 (L.getD i p0).2.length ++ (L.getD i p0).2).length := by rw [hX, hN]; omega
   have hXF : (encL (L.take i) ++ be 2 (L.getD i p0).1 ++ be 2 (L.getD i p0).2.length).length = ((encL (L.take i) ++ be 2 (L.getD i p0).1).length + 2) := by simp [be_len]
   have hB1 : (encL (L.take i) ++ be 2 (L.getD i p0).1).length = (encL (L.take i)).length + 2 := by simp [be_len]
   have hst := enc_step h_t18
   refine w_F rfl ?_ (decide_eq_false (by omega))
   refine w_skip (n_wp (w_seq ?_))
   by_cases hb0 : 0 < (L.getD i p0).2.length
   · refine g_any hP hn ?_
     refine o4 ?_
     refine s_op (k_call [] (con := put_n (encL (L.take i)) (L.getD i p0).1 2 (by decide) (by decide) (by omega) (by omega))) ?_
     refine o4 ?_
     refine s_op (k_call [] (con := put_m (encL (L.take i) ++ be 2 (L.getD i p0).1) (L.getD i p0).2.length 2 (by decide) (by decide) (by omega) (by omega) (by omega)) (v := .s (.slice 1 0 0 ((encL (L.take i) ++ be 2 (L.getD i p0).1).length + 2) ((encL (L.take i) ++ be 2 (L.getD i p0).1).length + 2))) (hv := rfl) (H' := [some ⟨true, PR (L.getD i p0)⟩, some ⟨true, [.ints .u8 ((encL (L.take i) ++ be 2 (L.getD i p0).1).length + 2) (encL (L.take i) ++ be 2 (L.getD i p0).1 ++ be 2 (L.getD i p0).2.length)]⟩]) (hH := rfl)) ?_
     refine o2 ?_
     refine s_op (k_apf (hl := hXF) (h0 := hb0) (c := (encL (L.take i) ++ be 2 (L.getD i p0).1 ++ be 2 (L.getD i p0).2.length ++ (L.getD i p0).2).length) (l' := (encL (L.take i) ++ be 2 (L.getD i p0).1 ++ be 2 (L.getD i p0).2.length ++ (L.getD i p0).2)) (hc := hXN) (hl' := by rfl) (hbig := by omega)) ?_
     refine s_op k_as ?_
     refine s_nil (by kernel_rfl) ?_
     refine n_wp ?_
     by_cases hm0 : (((encL (L.take i) ++ be 2 (L.getD i p0).1 ++ be 2 (L.getD i p0).2.length ++ (L.getD i p0).2).length + 8 - 1) / 8 * 8 - (encL (L.take i) ++ be 2 (L.getD i p0).1 ++ be 2 (L.getD i p0).2.length ++ (L.getD i p0).2).length) = 0
     · refine g_reg hP hn ?_
       refine o3 ?_
       refine s_op (k_call [] (con := filled_n (encL (L.take i) ++ be 2 (L.getD i p0).1 ++ be 2 (L.getD i p0).2.length ++ (L.getD i p0).2).length (by omega))) ?_
       refine o3 ?_
       refine s_op (k_apg0 (hm := hm0)) ?_
       refine s_op k_as ?_
       refine s_nil trivial (n_blo (n_wp ?_))
       refine w_weak (frz_gro 4 (l' := encL (L.take (i + 1))) (hn := Nat.le_refl _) (hl := rfl) (hl' := by
        rw [List.take_length, ← hst]
        show _ = _ ++ List.replicate (((encL (L.take i) ++ be 2 (L.getD i p0).1 ++ be 2 (L.getD i p0).2.length ++ (L.getD i p0).2).length + 8 - 1) / 8 * 8 - (encL (L.take i) ++ be 2 (L.getD i p0).1 ++ be 2 (L.getD i p0).2.length ++ (L.getD i p0).2).length) 0
        rw [hm0]; simp)) ?_
       refine g_reg hP hn ?_
       refine o2 ?_
       refine s_nil trivial ?_
       exact n_round (L.length - (i + 1)) (by omega) ⟨i + 1, by omega, rfl, fun k hk => (Nat.lt_succ_iff_lt_or_eq.1 hk).elim (hbd k) (fun e => e ▸ (by omega)), rfl, rfl⟩ (wk hE [])
     · refine g_reg hP hn ?_
       refine o3 ?_
       refine s_op (k_call [] (con := filled_n (encL (L.take i) ++ be 2 (L.getD i p0).1 ++ be 2 (L.getD i p0).2.length ++ (L.getD i p0).2).length (by omega))) ?_
       refine o3 ?_
       refine s_op (k_apgz (m := (((encL (L.take i) ++ be 2 (L.getD i p0).1 ++ be 2 (L.getD i p0).2.length ++ (L.getD i p0).2).length + 8 - 1) / 8 * 8 - (encL (L.take i) ++ be 2 (L.getD i p0).1 ++ be 2 (L.getD i p0).2.length ++ (L.getD i p0).2).length)) (hll := rfl) (hlq := Nat.le_refl _) (c := (encL (L.take (i + 1))).length) (l' := encL (L.take (i + 1))) (hc := app_len hst) (hl' := by
                 rw [List.take_length]; exact hst) (hbig := by omega)) ?_
       refine s_op k_as ?_
       refine s_nil trivial (n_blo (n_wp ?_))
       refine w_weak (frz_gro 4 (l' := encL (L.take (i + 1))) (hn := Nat.le_refl _) (hl := rfl) (hl' := List.take_length)) ?_
       refine g_reg hP hn ?_
       refine o2 ?_
       refine s_nil trivial ?_
       exact n_round (L.length - (i + 1)) (by omega) ⟨i + 1, by omega, rfl, fun k hk => (Nat.lt_succ_iff_lt_or_eq.1 hk).elim (hbd k) (fun e => e ▸ (by omega)), rfl, rfl⟩ (wk hE [])
   · have hbe : (L.getD i p0).2 = [] := List.eq_nil_of_length_eq_zero (by omega)
     refine g_any hP hn ?_
     refine o4 ?_
     refine s_op (k_call [] (con := put_n (encL (L.take i)) (L.getD i p0).1 2 (by decide) (by decide) (by omega) (by omega))) ?_
     refine o4 ?_
     refine s_op (k_call [] (con := put_m (encL (L.take i) ++ be 2 (L.getD i p0).1) (L.getD i p0).2.length 2 (by decide) (by decide) (by omega) (by omega) (by omega)) (v := .s (.slice 1 0 0 ((encL (L.take i) ++ be 2 (L.getD i p0).1).length + 2) ((encL (L.take i) ++ be 2 (L.getD i p0).1).length + 2))) (hv := rfl) (H' := [some ⟨true, PR (L.getD i p0)⟩, some ⟨true, [.ints .u8 ((encL (L.take i) ++ be 2 (L.getD i p0).1).length + 2) (encL (L.take i) ++ be 2 (L.getD i p0).1 ++ be 2 (L.getD i p0).2.length)]⟩]) (hH := rfl)) ?_
     refine o2 ?_
     refine s_op (k_ap0 (hl := hbe)) ?_
     refine s_op k_as ?_
     refine s_nil (by kernel_rfl) ?_
     refine n_wp (g_reg hP hn ?_)
     refine o3 ?_
     refine s_op (k_call [] (con := filled_n ((encL (L.take i) ++ be 2 (L.getD i p0).1).length + 2) (by omega))) ?_
     refine o3 ?_
     refine s_op (k_apz ((((encL (L.take i) ++ be 2 (L.getD i p0).1).length + 2) + 8 - 1) / 8 * 8 - ((encL (L.take i) ++ be 2 (L.getD i p0).1).length + 2)) (hl := hXF) (c := (encL (L.take (i + 1))).length) (l' := encL (L.take (i + 1))) (hc := app_len2 (enc_step0 h_t18 hbe) hXF) (hl' := enc_step0 h_t18 hbe) (hbig := by omega)) ?_
     refine s_op k_as ?_
     refine s_nil trivial (n_blo (n_wp ?_))
     refine w_weak (frz_gro 4 (l' := encL (L.take (i + 1))) (hn := Nat.le_refl _) (hl := rfl) (hl' := List.take_length)) ?_
     refine g_reg hP hn ?_
     refine o2 ?_
     refine s_nil trivial ?_
     exact n_round (L.length - (i + 1)) (by omega) ⟨i + 1, by omega, rfl, fun k hk => (Nat.lt_succ_iff_lt_or_eq.1 hk).elim (hbd k) (fun e => e ▸ (by omega)), rfl, rfl⟩ (wk hE [])
 · obtain rfl : i = L.length := Nat.le_antisymm hi (by omega)
   have hTL : L.take L.length = L := List.take_length
   rw [hTL]
   refine w_exit (x_thn (x_thn (x_eq (n_wp (w_seq (qz hP hn ?_))))))
   refine o3 ?_
   refine s_nil trivial (n_wp ?_)
   refine w_F rfl ?_ (decide_eq_false (by omega))
   refine w_skip (n_wp (qz hP hn ?_))
   refine s_op k_mv ?_
   refine s_op (k_call [] (con := clip_f (encL L))) ?_
   refine o2 ?_
   refine s_nil trivial (n_wp (w_ret ?_))
   exact d_ret hP hn hE [] (ret2 Tryz.results51 (by first | exact ri_tmp rfl | exact ri_tmpa rfl) (by first | exact ri_tmp rfl | exact ri_tmpa rfl))

end Go.Proofs.X
end

section
set_option maxRecDepth 100000
set_option maxHeartbeats 4000000
open Go Go.Bx Go.Proofs
namespace Go.Proofs.X
attribute [local irreducible] be gN ckS encL chk pk0 pkB
theorem cat5_m (k : Nat) (A B : List Int) (Z : List Int) (hA : A.length = 16) (hB : B.length = 16) (hE : Z.length ≤ 800000) : Con Tryz.prog 53 [.s (ROWS [pkH k (40 + Z.length), List.replicate 4 0, A, B, Z])] [] (.s (.gro 0 1 (40 + Z.length))) [some ⟨true, [.ints .u8 (40 + Z.length) (pk0 k A B Z)]⟩] := by
 have hl := pk0_len (k := k) (E := Z) hA hB
 have e := pk_flat k A B Z
 have h := cat_m [pkH k (40 + Z.length), List.replicate 4 0, A, B, Z] (by rw [e, hl]; omega) (by rw [e, hl]; omega) (Nat.le_of_ble_eq_true rfl)
 rw [e, hl] at h
 exact h

theorem kput_y (k : Nat) (A B : List Int) (L : List Pc) (hk : mayK k = true) (Z : List Int) (hEb : Z.length ≤ 2048) (hc : Con Tryz.prog 51 [.s (PARS L)] [] (.tup [.s (.fzi .u8 Z), .s (.int .i64 0)]) []) (hl : 40 + Z.length ≤ 2048) (hA : A.length = 16) (hB : B.length = 16) (hU : U8' (pk0 k A B Z)) : Con Tryz.prog 23 [.agg (PKT k A B L)] [] (.tup [.s (.fzi .u8 (pkB k A B Z)), .s (.int .i64 0)]) [] := by
 refine con_in 52 Tryz.func23 rfl rfl (m := 0) rfl ?_
 intro E hP hn hE
 refine qz hP hn ?_
 refine s_op k_bxf ?_
 refine o2 ?_
 refine s_nil trivial (n_wp (w_seq (qz hP hn ?_)))
 refine o2 ?_
 refine s_op (k_call [] (con := may_c k)) ?_
 refine s_op k_not ?_
 refine s_nil trivial (n_wp ?_)
 refine w_F rfl ?_ (by rw [hk]; rfl)
 refine w_skip (n_wp (qz hP hn ?_))
 refine o2 ?_
 refine s_op (k_call [] (con := hc)) ?_
 refine o3 ?_
 refine o2 ?_
 refine s_nil trivial (n_wp (w_seq (w_block (qz hP hn ?_))))
 refine s_op k_mv ?_
 refine s_op (l_bin rfl rfl (b_neq (r := false) (decide_eq_false (fun h => h rfl)))) ?_
 refine s_op k_as ?_
 refine s_nil trivial (n_wp ?_)
 refine w_F rfl ?_ 
 refine qz hP hn ?_
 refine o3 ?_
 refine o2 ?_
 refine s_nil trivial (n_wp ?_)
 refine w_F rfl ?_ 
 refine w_skip (n_blo (n_wp (w_seq ?_)))
 have hl0 := pk0_len (k := k) (E := Z) hA hB
 have hl1 := pkB_len (k := k) (E := Z) hA hB
 have hck := chk_lt (pk0 k A B Z)
 refine g_reg hP hn ?_
 refine o2 ?_
 refine s_op k_bsf ?_
 refine o4 ?_
 refine s_op (k_call [] (con := put_n [1, (k : Int)] (40 + Z.length) 2 (by decide) (by decide) (by omega) (Nat.le_of_ble_eq_true rfl))) ?_
 refine s_op k_as ?_
 refine s_nil trivial (n_wp (w_seq ?_))
 refine g_any hP hn ?_
 refine s_op k_mv ?_
 refine s_op (k_mkF (c := 4)) ?_
 refine s_op k_fa ?_
 refine s_op k_slp ?_
 refine s_op k_fa ?_
 refine s_op k_slp ?_
 refine s_op k_mv ?_
 refine s_op (k_bsz [.fzi .u8 (pkH k (40 + Z.length)), .fzi .u8 (List.replicate 4 0), .fzi .u8 A, .fzi .u8 B, .fzi .u8 Z]) ?_
 refine s_op (k_call [] (con := cat5_m k A B Z hA hB (by omega)) (v := .s (.gro 4 1 (40 + Z.length))) (hv := rfl) (H' := [none, none, none, none, some ⟨true, [.ints .u8 (40 + Z.length) (pk0 k A B Z)]⟩]) (hH := rfl)) ?_
 refine s_op k_as ?_
 refine s_nil (by kernel_rfl) ?_
 refine n_wp (w_seq ?_)
 refine g_any hP hn ?_
 refine s_op k_mv ?_
 refine s_op (k_slgx 4) ?_
 refine s_op k_mv ?_
 refine s_op (k_tmp 4 (h := k_call [] (con := check2_n (pk0 k A B Z) hU (by omega)) (hargs := by exact .cons rfl (conv_gro (id := 4) (k := ⟨false, [.ints .u8 (40 + Z.length) (pk0 k A B Z)]⟩) rfl rfl rfl (Nat.le_refl _) hl0 (List.take_of_length_le (Nat.le_of_eq hl0))) .nil))) ?_
 refine s_op k_cv ?_
 refine s_op (k_call [] (con := put_n [] (chk (pk0 k A B Z)) 2 (by decide) (by decide) (by omega) (by decide))) ?_
 refine s_op (k_cpx 2 (hm := be_len _ _) (zz := pkB k A B Z) (hz := pkB_spl hA hB rfl)) ?_
 refine s_nil (by kernel_rfl) ?_
 refine n_wp (qz hP hn ?_)
 refine s_op k_mv ?_
 refine s_op (k_call [4] (con := clip_g (40 + Z.length) (40 + Z.length) (pkB k A B Z))) ?_
 refine o2 ?_
 refine s_nil trivial (n_wp ?_)
 refine w_weak (frz_gro 2 (l' := pkB k A B Z) (hn := Nat.le_refl _) (hl := hl1) (hl' := List.take_of_length_le (Nat.le_of_eq hl1))) ?_
 refine w_ret ?_
 exact d_ret hP hn hE [] (ret2 Tryz.results23 (by first | exact ri_tmp rfl | exact ri_tmpa rfl) (by first | exact ri_tmp rfl | exact ri_tmpa rfl))

end Go.Proofs.X
end

section
/- Types and functions of covers, as instances. -/
open Go Go.Bx Go.Proofs
namespace Go.Proofs.X
instance : Clb Tryz.prog 112 := ⟨_, Tryz.func112, by kernel_rfl, rfl⟩
instance : Clb Tryz.prog 86 := ⟨_, Tryz.func86, by kernel_rfl, rfl⟩
instance : Clb Tryz.prog 83 := ⟨_, Tryz.func83, by kernel_rfl, rfl⟩
instance : Clb Tryz.prog 108 := ⟨_, Tryz.func108, by kernel_rfl, rfl⟩
instance : Clb Tryz.prog 57 := ⟨_, Tryz.func57, by kernel_rfl, rfl⟩
instance : Clb Tryz.prog 85 := ⟨_, Tryz.func85, by kernel_rfl, rfl⟩
instance : Clb Tryz.prog 68 := ⟨_, Tryz.func68, by kernel_rfl, rfl⟩
instance : Clb Tryz.prog 84 := ⟨_, Tryz.func84, by kernel_rfl, rfl⟩
instance : Clb Tryz.prog 95 := ⟨_, Tryz.func95, by kernel_rfl, rfl⟩
instance : Clb Tryz.prog 56 := ⟨_, Tryz.func56, by kernel_rfl, rfl⟩
instance : Clb Tryz.prog 67 := ⟨_, Tryz.func67, by kernel_rfl, rfl⟩
instance : Clb Tryz.prog 92 := ⟨_, Tryz.func92, by kernel_rfl, rfl⟩
instance : Clb Tryz.prog 66 := ⟨_, Tryz.func66, by kernel_rfl, rfl⟩
instance : Clb Tryz.prog 93 := ⟨_, Tryz.func93, by kernel_rfl, rfl⟩
instance : Clb Tryz.prog 94 := ⟨_, Tryz.func94, by kernel_rfl, rfl⟩
instance : Und Tryz.prog 173 (.func #[53] #[137] false) := ⟨Tryz.underlying173⟩
instance : Sz Tryz.prog 173 1 := ⟨Tryz.sizeOf173⟩
instance : Ag Tryz.prog 173 false := ⟨Tryz.isAgg173⟩
instance : Zv Tryz.prog 173 [.one (.val .nilFunc)] := ⟨_, Tryz.zeroValue173, by kernel_rfl⟩
instance : Inf Tryz.prog 173 Tryz.t173 := ⟨by kernel_rfl⟩
end Go.Proofs.X
end

section
/- What is covered, as lists. No program. -/
open Go Go.Bx
namespace Go.Proofs.X
structure WfL (L : List Pc) : Prop where
  len : L.length ≤ 700000
  all : ∀ p ∈ L, p.1 < 65536 ∧ U8' p.2 ∧ p.2.length ≤ 900000
theorem getD_mem {L : List Pc} {k : Nat} (h : k < L.length) : L.getD k p0 ∈ L := by
  rw [List.getD_eq_getElem?_getD, List.getElem?_eq_getElem h]; exact List.getElem_mem _
theorem getD_out {L : List Pc} {k : Nat} (h : L.length ≤ k) : L.getD k p0 = p0 := by
  rw [List.getD_eq_getElem?_getD, List.getElem?_eq_none h]; rfl
theorem WfL.get {L : List Pc} (h : WfL L) (k : Nat) : (L.getD k p0).1 < 65536 ∧ U8' (L.getD k p0).2 ∧ (L.getD k p0).2.length ≤ 900000 := by
  rcases Nat.lt_or_ge k L.length with hk | hk
  · exact h.all _ (getD_mem hk)
  · rw [getD_out hk]; exact ⟨by decide, fun i => ⟨by simp, by simp⟩, by decide⟩
theorem WfL.keep {L : List Pc} (h : WfL L) (pr : Nat → Bool) : WfL (keepL pr L) :=
  ⟨Nat.le_trans (keepL_le pr L) h.len, fun p hp => h.all p (List.mem_filter.1 hp).1⟩
theorem WfL.ins {L : List Pc} (h : WfL L) (hl : L.length ≤ 1000) (i : Nat) {p : Pc} (hp : p.1 < 65536 ∧ U8' p.2 ∧ p.2.length ≤ 900000) : WfL (insL L i p) := by
  refine ⟨?_, fun q hq => ?_⟩
  · simp [insL]; omega
  · unfold insL at hq
    rcases List.mem_append.1 hq with h1 | h1
    · exact h.all q (List.mem_of_mem_take h1)
    · rcases List.mem_cons.1 h1 with rfl | h2
      · exact hp
      · exact h.all q (List.mem_of_mem_drop h2)
theorem U8'_nil : U8' [] := fun i => ⟨by simp, by simp⟩
theorem U8'_encP {p : Pc} (h : U8' p.2) : U8' (encP p) := U8'_app (U8'_app (U8'_app (U8'_be _ _) (U8'_be _ _)) h) (U8'_rep _)
theorem U8'_encL : ∀ {L : List Pc}, (∀ p ∈ L, U8' p.2) → U8' (encL L)
  | [], _ => U8'_nil
  | p :: r, h => by
    have : encL (p :: r) = encP p ++ encL r := by simp [encL]
    rw [this]
    exact U8'_app (U8'_encP (h p (by simp))) (U8'_encL fun q hq => h q (by simp [hq]))
structure okP (k : Nat) (L : List Pc) : Prop where
  kind : mayK k = true
  up : ∀ i, i < L.length → lastT L i < (L.getD i p0).1
  n : L.length ≤ 16
  bd : ∀ k, k < L.length → (L.getD k p0).2.length ≤ 2048
  tot : 40 + (encL L).length ≤ 2048
def strip (p : Pc) : Pc := if okPz p.2 && decide (p.1 = 257) then (p.1, [pzb p.2] ++ be 8 (pzg p.2) ++ zs (List.replicate 32 0)) else p
theorem strip_t {p : Pc} (h : (okPz p.2 && decide (p.1 = 257)) = true) : strip p = (p.1, [pzb p.2] ++ be 8 (pzg p.2) ++ zs (List.replicate 32 0)) := if_pos h
theorem strip_f {p : Pc} (h : (okPz p.2 && decide (p.1 = 257)) = false) : strip p = p := by unfold strip; rw [h]; rfl
theorem strip_ty (p : Pc) : (strip p).1 = p.1 := by unfold strip; split <;> rfl
theorem strip_len (p : Pc) : (strip p).2.length = p.2.length := by
  unfold strip
  split
  · rename_i h
    simp only [okPz, Bool.and_eq_true, decide_eq_true_eq] at h
    simp [be_len, h.1.1, zs_len]
  · rfl
theorem zs_rep (n : Nat) : zs (List.replicate n 0) = List.replicate n 0 := by simp [zs]
theorem pzb_u8 {B : List Int} (h : U8' B) : 0 ≤ pzb B ∧ pzb B < 256 := by
  unfold pzb; split
  · exact h 0
  · exact ⟨by decide, by decide⟩
theorem pzg_lt {B : List Int} (h : U8' B) : pzg B < 18446744073709551616 := by
  unfold pzg; split
  · exact gN_lt (U8'_take (U8'_drop h 1) _) 8
  · decide
theorem strip_u8 {p : Pc} (h : U8' p.2) : U8' (strip p).2 := by
  unfold strip
  split
  · refine U8'_app (U8'_app (fun i => ?_) (U8'_be _ _)) (by rw [zs_rep]; exact U8'_rep _)
    match i with
    | 0 => exact pzb_u8 h
    | i + 1 => exact ⟨by simp, by simp⟩
  · exact h
def stF (L : List Pc) (i : Nat) : Nat → Pc := fun k => if k < i then strip (L.getD k p0) else L.getD k p0
theorem stF_0 (L : List Pc) : stF L 0 = kpF L := by
  funext k; unfold stF kpF; rw [if_neg (Nat.not_lt_zero k)]
theorem stF_n (L : List Pc) : stF L L.length = kpF (L.map strip) := by
  funext k; unfold stF kpF
  split
  · rename_i h
    rw [List.getD_eq_getElem?_getD, List.getD_eq_getElem?_getD, List.getElem?_map, List.getElem?_eq_getElem h]; rfl
  · rename_i h
    rw [getD_out (by omega), getD_out (by simp; omega)]
theorem pkt_map (A B : List Int) (M : List Pc) : PKT 2 A B (M.map strip) = [.one (.int .u8 2), .ints .u8 16 A, .ints .u8 16 B, .one (.fz M.length 2 (gP (kpF (M.map strip))))] := by
  show [Seg.one (.int .u8 2), .ints .u8 16 A, .ints .u8 16 B, .one (.fz (M.map strip).length 2 (gP (kpF (M.map strip))))] = _
  rw [List.length_map]
theorem stF_at (L : List Pc) (i : Nat) : stF L i i = L.getD i p0 := by unfold stF; rw [if_neg (Nat.lt_irrefl i)]
theorem stF_s (L : List Pc) (i k : Nat) (h : k ≠ i) : stF L (i + 1) k = stF L i k := by
  unfold stF
  by_cases h1 : k < i
  · rw [if_pos h1, if_pos (by omega)]
  · rw [if_neg h1, if_neg (by omega)]
theorem stF_no {L : List Pc} {i : Nat} (h : (okPz (L.getD i p0).2 && decide ((L.getD i p0).1 = 257)) = false) : stF L (i + 1) = stF L i := by
  funext k
  by_cases hk : k = i
  · subst hk
    rw [stF_at]; unfold stF; rw [if_pos (Nat.lt_succ_self _), strip_f h]
  · exact stF_s L i k hk
theorem stF_g {L : List Pc} {i : Nat} (h : (okPz (L.getD i p0).2 && decide ((L.getD i p0).1 = 257)) = true) : gP (stF L (i + 1)) i 1 = .fzi .u8 ([pzb (L.getD i p0).2] ++ be 8 (pzg (L.getD i p0).2) ++ zs (List.replicate 32 0)) := by
  show cellsF (PR (stF L (i + 1) i)) 1 = _
  unfold stF
  rw [if_pos (Nat.lt_succ_self _), strip_t h]; rfl
theorem stF_ge (L : List Pc) (i c : Nat) : ∀ a b, ¬(a = i ∧ b = 1) → a < c → b < 2 → gP (stF L (i + 1)) a b = gP (stF L i) a b := fun a b h _ hb => by
  show cellsF (PR (stF L (i + 1) a)) b = cellsF (PR (stF L i a)) b
  by_cases ha : a = i
  · subst ha
    have hb0 : b = 0 := by omega
    subst hb0
    rw [stF_at]
    unfold stF
    rw [if_pos (Nat.lt_succ_self _)]
    show SV.int .u16 _ = SV.int .u16 _
    rw [strip_ty]
  · rw [stF_s L i a ha]
def sgL (L : List Pc) : List Pc := keepL (fun x => decide (61697 ≤ x)) L
theorem sgL_le (L : List Pc) : (sgL L).length ≤ L.length := keepL_le _ L
theorem WfL.sgL {L : List Pc} (h : WfL L) : WfL (sgL L) := h.keep _
def sgK (k : Nat) (L : List Pc) : List Pc := if k = 2 then (sgL L).map strip else sgL L
def sgT (k : Nat) (B : List Int) : List Int := if k = 2 then zs (List.replicate 16 0) else B
theorem WfL.strip {L : List Pc} (h : WfL L) : WfL (L.map strip) :=
  ⟨by simp [h.len], fun p hp => by
    obtain ⟨q, hq, rfl⟩ := List.mem_map.1 hp
    have := h.all q hq
    exact ⟨by rw [strip_ty]; exact this.1, strip_u8 this.2.1, by rw [strip_len]; exact this.2.2⟩⟩
theorem WfL.sgK {L : List Pc} (h : WfL L) (k : Nat) : WfL (sgK k L) := by
  unfold X.sgK
  split
  · exact (h.keep _).strip
  · exact h.keep _
end Go.Proofs.X
end

section
set_option maxRecDepth 100000
set_option maxHeartbeats 4000000
open Go Go.Bx Go.Proofs
namespace Go.Proofs.X
attribute [local irreducible] be gN ckS encL chk pk0 pkB
theorem kput_ok (k : Nat) (A B : List Int) (L : List Pc) (hw : WfL L) (ok : okP k L) (hk : k < 256) (hA : A.length = 16) (hB : B.length = 16) (hUA : U8' A) (hUB : U8' B) : Con Tryz.prog 23 [.agg (PKT k A B L)] [] (.tup [.s (.fzi .u8 (pkB k A B (encL L))), .s (.int .i64 0)]) [] :=
 kput_y k A B L ok.kind (encL L) (by have := ok.tot; omega) (pput_y L (by have := hw.len; omega) (fun k => (hw.get k).1) ok.up (by have := ok.n; omega) ok.bd (by have := ok.tot; omega)) ok.tot hA hB (U8'_pk0 hk hUA hUB (U8'_encL fun p hp => (hw.all p hp).2.1))
theorem below_f (L : List Pc) (t : Nat) (hLb : L.length ≤ 800000) (hbd : ∀ i, i < L.length → (L.getD i p0).2.length ≤ 1000000)  : Con Tryz.prog 134 [.s (PARS L), .s (.int .u16 ((t : Nat) : Int))] [] (.s (PARS (keepL (fun x => decide (t ≤ x)) L))) [] := by
 refine con_in 10 Tryz.func134 rfl rfl (m := 0) rfl ?_
 intro E hP hn hE
 refine qz hP hn ?_
 refine s_op k_bxs ?_
 refine s_op k_as ?_
 refine qx hP hn ?_
 refine s_op k_mv ?_
 refine s_op (k_call [] (con := twins_c L (by omega) hbd)) ?_
 refine s_op (k_fnN [(.fptr 1 (cellsF [.one (.int .u16 ((t : Nat) : Int))]) 0 0)]) ?_
 refine s_op (k_call [1] (con := del_c (fun x => decide (t ≤ x)) (below1_n t) L (by omega))) ?_
 refine s_op (k_call [1] (con := clp_n _ _ _ _ (Nat.le_succ_of_le (keepL_le _ L)))) ?_
 refine s_op k_as ?_
 refine s_nil trivial (n_wp (w_ret ?_))
 exact d_retw hP hn (r_tmp Tryz.results134) ((frz_slW 0 (gP (kpF (keepL (fun x => decide (t ≤ x)) L))) (hn := Nat.le_succ_of_le (keepL_le _ L)) (hc := Nat.le_refl _) (hg := fun _ _ _ _ => rfl)).trans (wk hE []))

theorem below16_c (k : Nat) (A B : List Int) (L : List Pc) (t : Nat) (hw : WfL L)  : Con Tryz.prog 112 [.agg (PKT k A B L), .s (.int .u16 ((t : Nat) : Int))] [] (.agg (PKT k A B (keepL (fun x => decide (t ≤ x)) L))) [] := by
 refine con_in 11 Tryz.func112 rfl rfl (m := 0) rfl ?_
 intro E hP hn hE
 refine qz hP hn ?_
 refine s_op k_bx ?_
 refine s_op k_al ?_
 refine qx hP hn ?_
 refine o3 ?_
 refine s_op (k_call [] (con := below_f L t (by have := hw.len; omega) (fun i _ => by have := (hw.get i).2.2; omega))) ?_
 refine s_op k_fa ?_
 refine s_st k_st ?_
 refine qx hP hn ?_
 refine s_op k_ld ?_
 refine s_st k_st ?_
 refine s_nil trivial (n_wp (w_ret ?_))
 exact d_ret hP hn hE [] (r_cell Tryz.results112)

theorem below16_m (k : Nat) (A B : List Int) (L : List Pc) (t : Nat) (hw : WfL L)  : Con Tryz.prog 112 [.agg (PKT k A B L), .s (.int .u16 ((t : Nat) : Int))] [] (.agg [.one (.int .u8 ((k : Nat) : Int)), .ints .u8 16 A, .ints .u8 16 B, .one (.slice 0 0 0 (keepL (fun x => decide (t ≤ x)) L).length (keepL (fun x => decide (t ≤ x)) L).length)]) [some ⟨true, [.rows (L.length + 1) 2 (gP (kpF (keepL (fun x => decide (t ≤ x)) L)))]⟩] := by
 refine con_in 11 Tryz.func112 rfl rfl (m := 0) rfl ?_
 intro E hP hn hE
 refine qz hP hn ?_
 refine s_op k_bx ?_
 refine s_op k_al ?_
 refine qx hP hn ?_
 refine o3 ?_
 refine s_op (k_call [] (con := below_m L t (by have := hw.len; omega) (fun i _ => by have := (hw.get i).2.2; omega))) ?_
 refine s_op k_fa ?_
 refine s_st k_st ?_
 refine qx hP hn ?_
 refine s_op k_ld ?_
 refine s_st k_st ?_
 refine s_nil trivial (n_wp (w_ret ?_))
 exact d_ret hP hn hE [2] (r_cell Tryz.results112)

theorem below16_s (k : Nat) (A B : List Int) (L : List Pc) (hw : WfL L) : Con Tryz.prog 112 [.agg (PKT k A B L), .s (.int .u16 ((61697 : Nat) : Int))] [] (.agg (PKT k A B (sgL L))) [] := below16_c k A B L 61697 hw
theorem below16_sm (k : Nat) (A B : List Int) (L : List Pc) (hw : WfL L) : Con Tryz.prog 112 [.agg (PKT k A B L), .s (.int .u16 ((61697 : Nat) : Int))] [] (.agg [.one (.int .u8 ((k : Nat) : Int)), .ints .u8 16 A, .ints .u8 16 B, .one (.slice 0 0 0 (sgL L).length (sgL L).length)]) [some ⟨true, [.rows (L.length + 1) 2 (gP (kpF (sgL L)))]⟩] := below16_m k A B L 61697 hw

end Go.Proofs.X
end

section
set_option maxRecDepth 100000
set_option maxHeartbeats 4000000
open Go Go.Bx Go.Proofs
namespace Go.Proofs.X
attribute [local irreducible] be gN ckS encL chk pk0 pkB okPz pzb pzg pzi pze sgL
theorem cont1_y (k : Nat) (A B : List Int) (L : List Pc) (hw : WfL L) (hk2 : k ≠ 2) (Y : List Int) (hc : Con Tryz.prog 23 [.agg (PKT k A B (sgL L))] [] (.tup [.s (.fzi .u8 Y), .s (.int .i64 0)]) []) : Con Tryz.prog 86 [.agg (PKT k A B L)] [] (.tup [.s (.fzi .u8 Y), .s (.int .i64 0)]) [] := by
 refine con_in 54 Tryz.func86 rfl rfl (m := 0) rfl ?_
 intro E hP hn hE
 refine qz hP hn ?_
 refine s_op k_bx ?_
 refine o2 ?_
 refine qx hP hn ?_
 refine s_op k_ld ?_
 refine s_op (k_call [] (con := below16_s k A B L hw)) ?_
 refine s_st k_st ?_
 refine s_nil trivial (n_wp (w_seq (qz hP hn ?_)))
 refine o2 ?_
 refine s_op (l_bin rfl rfl (b_neq (r := true) (decide_eq_true (by omega)))) ?_
 refine s_nil trivial (n_wp ?_)
 refine w_T rfl ?_ 
 refine qz hP hn ?_
 refine s_op k_ld ?_
 refine s_op (k_call [] (con := hc)) ?_
 refine o4 ?_
 refine s_nil trivial (n_wp (w_ret (r_thn ?_)))
 exact d_ret hP hn hE [] (ret2 Tryz.results86 (by first | exact ri_tmp rfl | exact ri_tmpa rfl) (by first | exact ri_tmp rfl | exact ri_tmpa rfl))

theorem cont2_y (A B : List Int) (L : List Pc) (hw : WfL L) (hA : A.length = 16) (Y : List Int) (hc : Con Tryz.prog 23 [.agg [.one (.int .u8 2), .ints .u8 16 A, .ints .u8 16 (zs (List.replicate 16 0)), .one (.fz (sgL L).length 2 (gP (kpF (((sgL L).map strip)))))]] [] (.tup [.s (.fzi .u8 Y), .s (.int .i64 0)]) []) : Con Tryz.prog 86 [.agg (PKT 2 A B L)] [] (.tup [.s (.fzi .u8 Y), .s (.int .i64 0)]) [] := by
 refine con_in 54 Tryz.func86 rfl rfl (m := 0) rfl ?_
 intro E hP hn hE
 have hnL : (sgL L).length ≤ L.length + 1 := Nat.le_succ_of_le (sgL_le L)
 have hnb := hw.len
 refine qz hP hn ?_
 refine s_op k_bx ?_
 refine o2 ?_
 refine qx hP hn ?_
 refine s_op k_ld ?_
 refine s_op (k_call [] (con := below16_sm 2 A B L hw) (v := .agg [.one (.int .u8 2), .ints .u8 16 A, .ints .u8 16 B, .one (.slice 1 0 0 (sgL L).length (sgL L).length)]) (hv := rfl) (H' := [some ⟨true, PKT 2 A B L⟩, some ⟨true, [.rows (L.length + 1) 2 (gP (kpF (sgL L)))]⟩]) (hH := rfl)) ?_
 refine s_st k_st ?_
 refine s_nil trivial (n_wp (w_seq (qz hP hn ?_)))
 refine o3 ?_
 refine s_nil trivial (n_wp ?_)
 refine w_F rfl ?_ rfl
 refine w_skip (n_wp (qz hP hn ?_))
 refine s_op k_bd ?_
 refine s_op k_fa ?_
 refine s_st k_st ?_
 refine s_nil trivial (n_wp (w_seq (qz hP hn ?_)))
 refine o4 ?_
 refine s_nil trivial (n_wp (w_block ?_))
 refine c_loop (fun m_ T H => ∃ i, i ≤ (sgL L).length ∧ m_ = (sgL L).length - i ∧ T = [(1, .s (.ptr 0 0 0)), (20, .s (.slice 1 0 0 (sgL L).length (sgL L).length)), (21, .s (.int .i64 (((sgL L).length : Nat) : Int))), (22, .s (.int .i64 ((i : Nat) : Int)))] ∧ H = [some ⟨true, [.one (.int .u8 2), .ints .u8 16 A, .ints .u8 16 (zs (List.replicate 16 0)), .one (.slice 1 0 0 (sgL L).length (sgL L).length)]⟩, some ⟨true, [.rows (L.length + 1) 2 (gP (stF (sgL L) i))]⟩]) ((sgL L).length) ⟨0, by omega, rfl, rfl, by rw [stF_0]⟩ (wk hE [0, 1]) ?_
 rintro n_ T_ H_ ⟨i, hi, rfl, rfl, rfl⟩
 refine qz hP hn ?_
 refine s_op k_lss ?_
 refine s_nil trivial (n_wp (w_seq ?_))
 refine w_if rfl (fun h_t23 => ?_) (fun h_t23 => ?_)
 · have hU2 := (hw.sgL.get i).2.1
   refine w_skip (n_wp (w_seq (w_block (qz hP hn ?_))))
   refine o2 ?_
   refine s_op (k_ldM i) ?_
   refine o2 ?_
   refine s_st k_st ?_
   refine s_nil trivial (n_wp (w_seq ?_))
   rw [stF_at]
   refine g_reg hP hn ?_
   refine o2 ?_
   refine s_op (k_call [] (con := getpz_c ((sgL L).getD i p0).2 hU2)) ?_
   refine o4 ?_
   refine s_st k_st ?_
   refine s_op k_as ?_
   refine qx hP hn ?_
   refine s_op k_mv ?_
   refine s_op (l_bin rfl rfl (b_eql (r := okPz ((sgL L).getD i p0).2) (by unfold pze; cases okPz ((sgL L).getD i p0).2 <;> rfl))) ?_
   refine s_op k_mv ?_
   refine s_opt rfl rfl (fun hB => by rw [hB]; (try simp only [Bool.or_eq_true, Bool.or_eq_false_iff, Bool.and_eq_true, Bool.not_eq_true', Bool.not_eq_false', decide_eq_true_eq, decide_eq_false_iff_not] at hB); exact k_fa) ?_
   refine s_opt rfl rfl (fun hB => by rw [hB]; (try simp only [Bool.or_eq_true, Bool.or_eq_false_iff, Bool.and_eq_true, Bool.not_eq_true', Bool.not_eq_false', decide_eq_true_eq, decide_eq_false_iff_not] at hB); exact k_ld) ?_
   refine s_opt rfl rfl (fun hB => by rw [hB]; (try simp only [Bool.or_eq_true, Bool.or_eq_false_iff, Bool.and_eq_true, Bool.not_eq_true', Bool.not_eq_false', decide_eq_true_eq, decide_eq_false_iff_not] at hB); exact k_eql) ?_
   refine s_op k_pk ?_
   refine s_nil trivial (n_wp ?_)
   refine w_cond rfl (fun h_t39 => ?_) (fun h_t39 => ?_)
   · refine qz hP hn ?_
     refine s_op k_bd ?_
     refine s_op k_fa ?_
     refine s_st k_st ?_
     refine s_nil trivial (n_wp ?_)
     refine g_any hP hn ?_
     refine o4 ?_
     refine s_op (k_call [] (con := pp_n (pzb ((sgL L).getD i p0).2) (pzg ((sgL L).getD i p0).2) (zs (List.replicate 32 0)) (pzg_lt hU2) (by rw [zs_len]; rfl))) ?_
     refine o2 ?_
     refine s_st (k_stC i 1 (gP (stF (sgL L) (i + 1))) (hg := stF_g h_t39) (hg2 := stF_ge (sgL L) i _)) ?_
     refine s_nil (by kernel_rfl) ?_
     refine n_blo (n_wp (g_reg hP hn ?_))
     refine o2 ?_
     refine s_nil trivial ?_
     exact n_round ((sgL L).length - (i + 1)) (by omega) ⟨i + 1, by omega, rfl, rfl, rfl⟩ (wk hE [0, 1])
   · refine w_skip (n_blo (n_wp (g_reg hP hn ?_)))
     refine o2 ?_
     refine s_nil trivial ?_
     exact n_round ((sgL L).length - (i + 1)) (by omega) ⟨i + 1, by omega, rfl, rfl, by rw [stF_no h_t39]⟩ (wk hE [0, 1])
 · obtain rfl : i = (sgL L).length := Nat.le_antisymm hi (by omega)
   refine w_exit (x_thn (x_thn (x_eq (n_wp (qz hP hn ?_)))))
   refine s_op k_ld ?_
   refine s_op (lok_frz 1 rfl (k_call [] (con := hc) (hargs := by exact .cons rfl (conv_agg (R := [1]) (.same (.same (.same (.one (conv_slW (id := 1) (k := ⟨false, [.rows (L.length + 1) 2 (gP (stF (sgL L) (sgL L).length))]⟩) rfl rfl rfl (by simpa using hnL) (Nat.le_refl _) (fun a b _ _ => by rw [stF_n])) .nil))))) .nil)) (by simp)) ?_
   refine o4 ?_
   refine s_nil trivial (n_wp (w_ret ?_))
   exact d_ret hP hn hE [] (ret2 Tryz.results86 (by first | exact ri_tmp rfl | exact ri_tmpa rfl) (by first | exact ri_tmp rfl | exact ri_tmpa rfl))

theorem cont_ok (k : Nat) (A B : List Int) (L : List Pc) (hw : WfL L) (ok : okP k (sgK k L)) (hk : k < 256) (hA : A.length = 16) (hB : B.length = 16) (hUA : U8' A) (hUB : U8' B) : Con Tryz.prog 86 [.agg (PKT k A B L)] [] (.tup [.s (.fzi .u8 (pkB k A (sgT k B) (encL (sgK k L)))), .s (.int .i64 0)]) [] := by
 by_cases h2 : k = 2
 · subst h2
   have e1 : sgK 2 L = (sgL L).map strip := if_pos rfl
   have e2 : sgT 2 B = zs (List.replicate 16 0) := if_pos rfl
   rw [e1] at ok ⊢
   rw [e2]
   have h := kput_ok 2 A (zs (List.replicate 16 0)) ((sgL L).map strip) hw.sgL.strip ok (by omega) hA (by simp [zs]) hUA (by rw [zs_rep]; exact U8'_rep _)
   rw [pkt_map] at h
   exact cont2_y A B L hw hA _ h
 · have e1 : sgK k L = sgL L := if_neg h2
   have e2 : sgT k B = B := if_neg h2
   rw [e1] at ok ⊢
   rw [e2]
   exact cont1_y k A B L hw h2 _ (kput_ok k A B (sgL L) hw.sgL ok hk hA hB hUA hUB)
end Go.Proofs.X
end

section
set_option maxRecDepth 100000
set_option maxHeartbeats 4000000
open Go Go.Bx Go.Proofs
namespace Go.Proofs.X
def macS (K Y : List Int) : List Int := hmO K (tk (hmI K) Y) (64 + Y.length)
theorem macS_len (K Y : List Int) : (macS K Y).length = 32 := hmO_len _ _ _
theorem macS_c (K Y : List Int) (hK : K.length = 32) (hY : Y.length ≤ 900000) : Con Tryz.prog 79 [.s (.fzi .u8 K), .s (ROWS [Y])] [] (.agg [.ints .u8 32 (macS K Y)]) [] := by
 have h := mac_c K [Y] (by omega) (by omega) (Nat.le_of_ble_eq_true rfl) (by simp; omega)
 rwa [show [Y].flatten = Y by simp] at h
attribute [local irreducible] be gN ckS encL chk pk0 pkB macS wd sg0 drP asB expP
abbrev KEYP (K : List Int) : SV := .fptr 32 (cellsF [.ints .u8 32 K]) 0 0
abbrev SEAL (f n t : Nat) (caps : List SV) : List Seg := [.one (.int .u16 ((t : Nat) : Int)), .one (.noid (.clo f n (capF caps)))]
abbrev ZPK : List Seg := [.one (.int .u8 0), .ints .u8 16 (zs (List.replicate 16 0)), .ints .u8 16 (zs (List.replicate 16 0)), .one .nils]
abbrev PKN (k : Nat) (A B : List Int) (n : Nat) (F : Nat → Pc) : List Seg := [.one (.int .u8 ((k : Nat) : Int)), .ints .u8 16 A, .ints .u8 16 B, .one (.fz n 2 (gP F))]

theorem seals_c (t : Nat) (K : List Int) (hK : K.length = 32)  : Con Tryz.prog 83 [.s (.int .u16 ((t : Nat) : Int)), .agg [.ints .u8 32 K]] [] (.agg (SEAL 108 1 t [KEYP K])) [] := by
 refine con_in 8 Tryz.func83 rfl rfl (m := 0) rfl ?_
 intro E hP hn hE
 refine qz hP hn ?_
 refine s_op k_bxf ?_
 refine s_op k_al ?_
 refine qx hP hn ?_
 refine s_op k_mv ?_
 refine s_op (k_fnN [KEYP K]) ?_
 refine s_op k_bd ?_
 refine s_st k_st ?_
 refine s_nil trivial (n_wp (w_ret ?_))
 exact d_ret hP hn hE [] (r_cell Tryz.results83)

theorem sum1_y (k : Nat) (A B : List Int) (L : List Pc) (K : List Int) (hK : K.length = 32) (Y : List Int) (hY : Y.length ≤ 900000) (hc : Con Tryz.prog 23 [.agg (PKT k A B L)] [] (.tup [.s (.fzi .u8 (Y)), .s (.int .i64 0)]) []) : Con Tryz.prog 108 [.agg (PKT k A B L), .s (KEYP K)] [] (.tup [.s (.fzi .u8 (macS K Y)), .s (.int .i64 0)]) [] := by
 refine con_in 18 Tryz.func108 rfl rfl (m := 0) rfl ?_
 intro E hP hn hE
 refine qz hP hn ?_
 refine s_op k_bx ?_
 refine o2 ?_
 refine qx hP hn ?_
 refine s_op k_ld ?_
 refine s_op (k_call [] (con := hc)) ?_
 refine o3 ?_
 refine o2 ?_
 refine qx hP hn ?_
 refine s_op k_slf ?_
 refine s_op k_mv ?_
 refine s_op (k_bsz [.fzi .u8 Y]) ?_
 refine s_op (k_call [] (con := macS_c K Y hK hY)) ?_
 refine s_op (k_call [] (con := psum_n (macS K Y) (macS_len K Y))) ?_
 refine o3 ?_
 refine s_nil trivial (n_wp (w_ret ?_))
 exact d_ret hP hn hE [] (ret2 Tryz.results108 (by first | exact ri_tmp rfl | exact ri_tmpa rfl) (by first | exact ri_tmp rfl | exact ri_tmpa rfl))

theorem ons_y (k : Nat) (A B : List Int) (L : List Pc) (t : Nat) (K : List Int) (hK : K.length = 32) (hLb : L.length ≤ 800000) (hup : ∀ i, i < L.length → decide (t ≤ (L.getD i p0).1) = false) (Y : List Int) (hcb : Con Tryz.prog 108 ([.agg (PKT k A B L)] ++ ([KEYP K] : List SV).map AV.s) [] (.tup [.s (.fzi .u8 (Y)), .s (.int .i64 0)]) []) (F : Nat → Pc) (hcw : Con Tryz.prog 111 [.s (PARS L), .agg (PR (t, Y))] [] (.tup [.s (.fz (L.length + 1) 2 (gP F)), .s (.int .i64 0)]) []) (Z : List Int) (hcp : Con Tryz.prog 23 [.agg (PKN k A B (L.length + 1) F)] [] (.tup [.s (.fzi .u8 (Z)), .s (.int .i64 0)]) []) : Con Tryz.prog 84 [.agg (SEAL 108 1 t [KEYP K]), .agg (PKT k A B L)] [] (.tup [.agg (PKN k A B (L.length + 1) F), .s (.int .i64 0)]) [] := by
 refine con_in 49 Tryz.func84 rfl rfl (m := 0) rfl ?_
 intro E hP hn hE
 refine qz hP hn ?_
 refine s_op k_bxf ?_
 refine s_op k_bx ?_
 refine o2 ?_
 refine s_nil trivial (n_wp (w_seq (qz hP hn ?_)))
 refine o2 ?_
 refine s_op (k_fnN [(.fptr 2 (cellsF (SEAL 108 1 t [KEYP K])) 0 0)]) ?_
 refine s_op (k_call [] (con := cnt_n (fun x => decide (t ≤ x)) (on1_n t (.noid (.clo 108 1 (capF [KEYP K])))) L (by omega) hup)) ?_
 refine s_nil trivial (n_wp ?_)
 refine w_F rfl ?_ 
 refine w_skip (n_wp (qz hP hn ?_))
 refine o3 ?_
 refine s_op (k_callN [KEYP K] (con := hcb)) ?_
 refine o3 ?_
 refine o2 ?_
 refine s_nil trivial (n_wp (w_seq (qz hP hn ?_)))
 refine s_op k_mv ?_
 refine s_op (l_bin rfl rfl (b_neq (r := false) (decide_eq_false (fun h => h rfl)))) ?_
 refine s_nil trivial (n_wp ?_)
 refine w_F rfl ?_ 
 refine w_skip (n_wp (w_seq (qz hP hn ?_)))
 refine o3 ?_
 refine o2 ?_
 refine s_op k_bd ?_
 refine s_op (k_call [] (con := hcw)) ?_
 refine o4 ?_
 refine s_st k_st ?_
 refine s_op k_as ?_
 refine qx hP hn ?_
 refine s_op k_mv ?_
 refine s_op (l_bin rfl rfl (b_neq (r := false) (decide_eq_false (fun h => h rfl)))) ?_
 refine s_nil trivial (n_wp ?_)
 refine w_F rfl ?_ 
 refine w_skip (n_wp (w_seq (qz hP hn ?_)))
 refine s_op k_ld ?_
 refine s_op (k_call [] (con := hcp)) ?_
 refine o4 ?_
 refine qx hP hn ?_
 refine s_op k_mv ?_
 refine s_op (l_bin rfl rfl (b_neq (r := false) (decide_eq_false (fun h => h rfl)))) ?_
 refine s_nil trivial (n_wp ?_)
 refine w_F rfl ?_ 
 refine w_skip (n_wp (qz hP hn ?_))
 refine s_op k_ld ?_
 refine s_st k_st ?_
 refine s_op k_as ?_
 refine s_nil trivial (n_wp (w_ret ?_))
 exact d_ret hP hn hE [] (ret2 Tryz.results84 r_cella (by first | exact ri_tmp rfl | exact ri_tmpa rfl))

theorem ong_y (k : Nat) (A B : List Int) (L : List Pc) (t : Nat) (p q g a : Nat) (hLb : L.length ≤ 800000) (hup : ∀ i, i < L.length → decide (t ≤ (L.getD i p0).1) = false) (Y : List Int) (hcb : Con Tryz.prog 85 ([.agg (PKT k A B L)] ++ ([(.fptr 12 (cellsF (GRP p q g)) 0 0), (.fptr 4 (cellsF [.ints .u64 4 (zs (wd a))]) 0 0)] : List SV).map AV.s) [] (.tup [.s (.fzi .u8 (Y)), .s (.int .i64 0)]) []) (F : Nat → Pc) (hcw : Con Tryz.prog 111 [.s (PARS L), .agg (PR (t, Y))] [] (.tup [.s (.fz (L.length + 1) 2 (gP F)), .s (.int .i64 0)]) []) (Z : List Int) (hcp : Con Tryz.prog 23 [.agg (PKN k A B (L.length + 1) F)] [] (.tup [.s (.fzi .u8 (Z)), .s (.int .i64 0)]) []) : Con Tryz.prog 84 [.agg (SEAL 85 2 t [(.fptr 12 (cellsF (GRP p q g)) 0 0), (.fptr 4 (cellsF [.ints .u64 4 (zs (wd a))]) 0 0)]), .agg (PKT k A B L)] [] (.tup [.agg (PKN k A B (L.length + 1) F), .s (.int .i64 0)]) [] := by
 refine con_in 49 Tryz.func84 rfl rfl (m := 0) rfl ?_
 intro E hP hn hE
 refine qz hP hn ?_
 refine s_op k_bxf ?_
 refine s_op k_bx ?_
 refine o2 ?_
 refine s_nil trivial (n_wp (w_seq (qz hP hn ?_)))
 refine o2 ?_
 refine s_op (k_fnN [(.fptr 2 (cellsF (SEAL 85 2 t [(.fptr 12 (cellsF (GRP p q g)) 0 0), (.fptr 4 (cellsF [.ints .u64 4 (zs (wd a))]) 0 0)])) 0 0)]) ?_
 refine s_op (k_call [] (con := cnt_n (fun x => decide (t ≤ x)) (on1_n t (.noid (.clo 85 2 (capF [(.fptr 12 (cellsF (GRP p q g)) 0 0), (.fptr 4 (cellsF [.ints .u64 4 (zs (wd a))]) 0 0)])))) L (by omega) hup)) ?_
 refine s_nil trivial (n_wp ?_)
 refine w_F rfl ?_ 
 refine w_skip (n_wp (qz hP hn ?_))
 refine o3 ?_
 refine s_op (k_callN [(.fptr 12 (cellsF (GRP p q g)) 0 0), (.fptr 4 (cellsF [.ints .u64 4 (zs (wd a))]) 0 0)] (con := hcb)) ?_
 refine o3 ?_
 refine o2 ?_
 refine s_nil trivial (n_wp (w_seq (qz hP hn ?_)))
 refine s_op k_mv ?_
 refine s_op (l_bin rfl rfl (b_neq (r := false) (decide_eq_false (fun h => h rfl)))) ?_
 refine s_nil trivial (n_wp ?_)
 refine w_F rfl ?_ 
 refine w_skip (n_wp (w_seq (qz hP hn ?_)))
 refine o3 ?_
 refine o2 ?_
 refine s_op k_bd ?_
 refine s_op (k_call [] (con := hcw)) ?_
 refine o4 ?_
 refine s_st k_st ?_
 refine s_op k_as ?_
 refine qx hP hn ?_
 refine s_op k_mv ?_
 refine s_op (l_bin rfl rfl (b_neq (r := false) (decide_eq_false (fun h => h rfl)))) ?_
 refine s_nil trivial (n_wp ?_)
 refine w_F rfl ?_ 
 refine w_skip (n_wp (w_seq (qz hP hn ?_)))
 refine s_op k_ld ?_
 refine s_op (k_call [] (con := hcp)) ?_
 refine o4 ?_
 refine qx hP hn ?_
 refine s_op k_mv ?_
 refine s_op (l_bin rfl rfl (b_neq (r := false) (decide_eq_false (fun h => h rfl)))) ?_
 refine s_nil trivial (n_wp ?_)
 refine w_F rfl ?_ 
 refine w_skip (n_wp (qz hP hn ?_))
 refine s_op k_ld ?_
 refine s_st k_st ?_
 refine s_op k_as ?_
 refine s_nil trivial (n_wp (w_ret ?_))
 exact d_ret hP hn hE [] (ret2 Tryz.results84 r_cella (by first | exact ri_tmp rfl | exact ri_tmpa rfl))

theorem mac_y (k : Nat) (A B : List Int) (L : List Pc) (K : List Int) (hK : K.length = 32) (n : Nat) (F : Nat → Pc) (hon : Con Tryz.prog 84 [.agg (SEAL 108 1 61505 [KEYP K]), .agg (PKT k A B L)] [] (.tup [.agg (PKN k A B n F), .s (.int .i64 0)]) []) : Con Tryz.prog 56 [.agg (PKT k A B L), .agg [.ints .u8 32 K]] [] (.tup [.agg (PKN k A B n F), .s (.int .i64 0)]) [] := by
 refine con_in 12 Tryz.func56 rfl rfl (m := 0) rfl ?_
 intro E hP hn hE
 refine qz hP hn ?_
 refine s_op k_bxf ?_
 refine s_op k_bxf ?_
 refine o2 ?_
 refine s_nil trivial (n_wp (w_seq ?_))
 refine g_any hP hn ?_
 refine s_op k_ld ?_
 refine s_op (k_call [] (con := seals_c 61505 K hK)) ?_
 refine s_op k_ld ?_
 refine s_op (k_call [] (con := hon)) ?_
 refine o2 ?_
 refine s_st k_st ?_
 refine s_op k_as ?_
 refine s_nil (by kernel_rfl) ?_
 refine n_wp (w_ret ?_)
 exact d_ret hP hn hE [] (ret2 Tryz.results56 r_cella (by first | exact ri_tmp rfl | exact ri_tmpa rfl))

theorem sgn_y (k : Nat) (A B : List Int) (L : List Pc) (p q g a : Nat) (n : Nat) (F : Nat → Pc) (hon : Con Tryz.prog 84 [.agg (SEAL 85 2 61697 [(.fptr 12 (cellsF (GRP p q g)) 0 0), (.fptr 4 (cellsF [.ints .u64 4 (zs (wd a))]) 0 0)]), .agg (PKT k A B L)] [] (.tup [.agg (PKN k A B n F), .s (.int .i64 0)]) []) : Con Tryz.prog 57 [.agg (GRP p q g), .agg (PKT k A B L), .agg [.ints .u64 4 (zs (wd a))]] [] (.tup [.agg (PKN k A B n F), .s (.int .i64 0)]) [] := by
 refine con_in 14 Tryz.func57 rfl rfl (m := 0) rfl ?_
 intro E hP hn hE
 refine qz hP hn ?_
 refine s_op k_bxf ?_
 refine s_op k_bxf ?_
 refine s_op k_bxf ?_
 refine o2 ?_
 refine qx hP hn ?_
 refine s_op (k_fnN [(.fptr 12 (cellsF (GRP p q g)) 0 0), (.fptr 4 (cellsF [.ints .u64 4 (zs (wd a))]) 0 0)]) ?_
 refine s_op k_bd ?_
 refine s_op k_ld ?_
 refine s_op (k_call [] (con := hon)) ?_
 refine o2 ?_
 refine s_st k_st ?_
 refine s_op k_as ?_
 refine s_nil trivial (n_wp (w_ret ?_))
 exact d_ret hP hn hE [] (ret2 Tryz.results57 r_cella (by first | exact ri_tmp rfl | exact ri_tmpa rfl))

end Go.Proofs.X
end

section
/- Sums that are alike; sizes; signatures of a small group. No program. -/
open Go Go.Bx
namespace Go.Proofs.X
def mo (A B : List Int) : Nat → Int
  | 0 => 0
  | i + 1 => orK .u8 (mo A B i) (xorK .u8 (A.getD i 0) (B.getD i 0))
theorem xorK_self (x : Int) : xorK .u8 x x = 0 := by
  show IntKind.u8.wrap ((BitVec.ofInt 8 x ^^^ BitVec.ofInt 8 x).toNat : Int) = 0
  rw [BitVec.xor_self]; rfl
theorem mo_self (A : List Int) (n : Nat) : mo A A n = 0 := by
  induction n with
  | zero => rfl
  | succ n ih => rw [mo, ih, xorK_self]; rfl
def szA (L : List Pc) : Nat → Nat
  | 0 => L.length
  | i + 1 => szA L i + (1 + (L.getD i p0).2.length)
abbrev signedS : ByteArray := ⟨#[115, 105, 103, 110, 101, 100]⟩
theorem gN_2 (c s : Nat) (hc : c < 2 ^ 256) (hs : s < 2 ^ 256) : gN ((be 32 c ++ be 32 s).take 32) 32 = c ∧ gN ((be 32 c ++ be 32 s).drop 32) 32 = s := by
  have e1 : (be 32 c ++ be 32 s).take 32 = be 32 c := by rw [List.take_append_of_le_length (Nat.le_of_eq (be_len _ _).symm), List.take_of_length_le (Nat.le_of_eq (be_len _ _))]
  have e2 : (be 32 c ++ be 32 s).drop 32 = be 32 s := by rw [List.drop_append_of_le_length (Nat.le_of_eq (be_len _ _).symm), List.drop_of_length_le (Nat.le_of_eq (be_len _ _))]; rfl
  have k1 := gN_be 32 c [] (by omega)
  have k2 := gN_be 32 s [] (by omega)
  rw [List.append_nil] at k1 k2
  rw [e1, e2]
  exact ⟨k1, k2⟩
end Go.Proofs.X
end

section
/- Types and functions of sizes, as instances. -/
open Go Go.Bx Go.Proofs
namespace Go.Proofs.X
instance : Clb Tryz.prog 15 := ⟨_, Tryz.func15, by kernel_rfl, rfl⟩
end Go.Proofs.X
end

section
set_option maxRecDepth 100000
set_option maxHeartbeats 4000000
open Go Go.Bx Go.Proofs
namespace Go.Proofs.X
attribute [local irreducible] be gN ckS encL chk pk0 pkB macS wd sg0 drP asB expP szA
theorem same_c (A B : List Int) (h : A.length = B.length) (hA : A.length ≤ 140737488355000) : Con Tryz.prog 119 [.s (.fzi .u8 A), .s (.fzi .u8 B)] [] (.s (.bool (decide (mo A B A.length = 0)))) [] := by
 refine con_in 31 Tryz.func119 rfl rfl (m := 0) rfl ?_
 intro E hP hn hE
 refine qz hP hn ?_
 refine s_op k_as ?_
 refine s_nil trivial (n_wp (w_seq (qz hP hn ?_)))
 refine o3 ?_
 refine o2 ?_
 refine s_nil trivial (n_wp ?_)
 refine w_F rfl ?_ (by rw [h]; simp)
 refine w_skip (n_wp (qz hP hn ?_))
 refine s_op k_as ?_
 refine s_nil trivial (n_wp (w_seq (qz hP hn ?_)))
 refine o3 ?_
 refine s_nil trivial (n_wp (w_block ?_))
 refine c_loop (fun m T H => ∃ i, i ≤ A.length ∧ m = A.length - i ∧ T = [(0, .s (.fzi .u8 A)), (1, .s (.fzi .u8 B)), (5, .s (.int .u8 (mo A B i))), (13, .s (.int .i64 ((A.length : Nat) : Int))), (14, .s (.int .i64 ((i : Nat) : Int)))] ∧ H = []) (A.length) ⟨0, by omega, rfl, rfl, rfl⟩ (wk hE []) ?_
 rintro n_ T_ H_ ⟨i, hi, rfl, rfl, rfl⟩
 refine qz hP hn ?_
 refine s_op k_lss ?_
 refine s_nil trivial (n_wp (w_seq ?_))
 refine w_if rfl (fun h_t15 => ?_) (fun h_t15 => ?_)
 · refine w_skip (n_wp (w_seq (w_block (qz hP hn ?_))))
   refine o2 ?_
   refine s_nil trivial (n_wp ?_)
   refine g_any hP hn ?_
   refine o4 ?_
   refine o4 ?_
   refine o4 ?_
   refine s_nil (by kernel_rfl) ?_
   refine n_blo (n_wp (g_reg hP hn ?_))
   refine o2 ?_
   refine s_nil trivial ?_
   exact n_round (A.length - (i + 1)) (by omega) ⟨i + 1, by omega, rfl, rfl, rfl⟩ (wk hE [])
 · have hi : i = A.length := by omega
   rw [hi]
   refine w_exit (x_thn (x_thn (x_eq (n_wp (qz hP hn ?_)))))
   refine o3 ?_
   refine s_nil trivial (n_wp (w_ret ?_))
   exact d_ret hP hn hE [] (by first | exact r_tmp Tryz.results119 | exact r_tmpa Tryz.results119)

theorem same_ok (A B : List Int) (h : A = B) (hA : A.length ≤ 140737488355000) : Con Tryz.prog 119 [.s (.fzi .u8 A), .s (.fzi .u8 B)] [] (.s (.bool true)) [] := by
 subst h
 have h := same_c A A rfl hA
 rwa [show decide (mo A A A.length = 0) = true from decide_eq_true (mo_self A _)] at h

theorem numb_c (B : List Int) (h : 32 ≤ B.length) (hU : U8' B) : Con Tryz.prog 94 [.s (.fzi .u8 B)] [] (.agg [.ints .u64 4 (zs (wd (gN B 32)))]) [] := by
 refine con_in 11 Tryz.func94 rfl rfl (m := 0) rfl ?_
 intro E hP hn hE
 refine qz hP hn ?_
 refine s_op k_al ?_
 refine qx hP hn ?_
 refine s_op k_mv ?_
 refine s_op (k_call [] (con := gl_n B h hU)) ?_
 refine o4 ?_
 refine s_st k_st ?_
 refine s_op k_as ?_
 refine qx hP hn ?_
 refine s_op k_ld ?_
 refine s_st k_st ?_
 refine s_nil trivial (n_wp (w_ret ?_))
 exact d_ret hP hn hE [] (r_cell Tryz.results94)

theorem gsig1_c (B : List Int) (hB : B.length = 64) (hU : U8' B) : Con Tryz.prog 93 [.s (.fzi .u8 B)] [] (.agg [.ints .u64 4 (zs (wd (gN (B.take 32) 32))), .ints .u64 4 (zs (wd (gN (B.drop 32) 32)))]) [] := by
 refine con_in 10 Tryz.func93 rfl rfl (m := 0) rfl ?_
 intro E hP hn hE
 refine qz hP hn ?_
 refine s_op k_al ?_
 refine s_nil trivial (n_wp (w_seq ?_))
 refine g_any hP hn ?_
 refine s_op k_mv ?_
 refine s_op (l_sli (ys := B.take 32) (l := 0) (h := 32) rfl rfl ⟨_, _, rfl, rfl⟩ (.inl rfl) rfl Und.h Sz.h (Nat.zero_le _) (by omega) (by simp)) ?_
 refine s_op (k_call [] (con := numb_c (B.take 32) (by simp; omega) (U8'_take hU 32))) ?_
 refine s_op k_mv ?_
 refine s_op (l_sli (ys := B.drop 32) (l := 32) (h := B.length) rfl ⟨_, _, rfl, rfl⟩ rfl (.inl rfl) rfl Und.h Sz.h (by omega) (Nat.le_refl _) (List.take_of_length_le (by simp))) ?_
 refine s_op (k_call [] (con := numb_c (B.drop 32) (by simp; omega) (U8'_drop hU 32))) ?_
 refine s_op k_bd ?_
 refine s_st k_st ?_
 refine s_nil (by kernel_rfl) ?_
 refine n_wp (w_ret ?_)
 exact d_ret hP hn hE [] (r_cell Tryz.results93)

theorem exsig_c (B : List Int) (hB : B.length = 64) (hU : U8' B) : Con Tryz.prog 92 [.s (.fzi .u8 B), .s (.int .i64 64), .s (.val (.func (.func 93) #[] #[])), .s .nils] [] (.tup [.agg [.ints .u64 4 (zs (wd (gN (B.take 32) 32))), .ints .u64 4 (zs (wd (gN (B.drop 32) 32)))], .s (.int .i64 0)]) [] := by
 refine con_in 32 Tryz.func92 rfl rfl (m := 0) rfl ?_
 intro E hP hn hE
 refine qz hP hn ?_
 refine o2 ?_
 refine s_nil trivial (n_wp (w_seq (qz hP hn ?_)))
 refine o4 ?_
 refine s_nil trivial (n_wp ?_)
 refine w_F rfl ?_ (by rw [hB]; rfl)
 refine w_skip (n_wp (w_seq (qz hP hn ?_)))
 refine o3 ?_
 refine s_nil trivial (n_wp (w_block ?_))
 refine c_loop (fun m_ T H => T = [(0, .s (.fzi .u8 B)), (2, .s (.val (.func (.func 93) #[] #[]))), (8, .s (.ptr 0 0 0)), (18, .s (.int .i64 ((0 : Nat) : Int))), (19, .s (.int .i64 ((0 : Nat) : Int)))] ∧ H = [some ⟨true, [.ints .u64 4 (zs (List.replicate 4 0)), .ints .u64 4 (zs (List.replicate 4 0))]⟩]) (0) ⟨rfl, rfl⟩ (wk hE [0]) ?_
 rintro n_ T_ H_ ⟨rfl, rfl⟩
 refine qz hP hn ?_
 refine s_op k_lss ?_
 refine s_nil trivial (n_wp (w_seq ?_))
 refine w_F rfl ?_ 
 refine w_exit (x_thn (x_thn (x_eq (n_wp (w_seq ?_)))))
 refine w_weak (weak_conv 2 rfl (conv_vf (q := capF []))) ?_
 refine g_reg hP hn ?_
 refine o2 ?_
 refine s_op (k_callN [] (con := gsig1_c B hB hU)) ?_
 refine s_st k_st ?_
 refine s_op k_as ?_
 refine s_nil trivial (n_wp (w_ret ?_))
 exact d_ret hP hn hE [] (ret2 Tryz.results92 r_cella (by first | exact ri_tmp rfl | exact ri_tmpa rfl))

theorem getsig_c (B : List Int) (hB : B.length = 64) (hU : U8' B) : Con Tryz.prog 66 [.s (.fzi .u8 B)] [] (.tup [.agg [.ints .u64 4 (zs (wd (gN (B.take 32) 32))), .ints .u64 4 (zs (wd (gN (B.drop 32) 32)))], .s (.int .i64 0)]) [] := by
 refine con_in 8 Tryz.func66 rfl rfl (m := 0) rfl ?_
 intro E hP hn hE
 refine qz hP hn ?_
 refine o2 ?_
 refine qx hP hn ?_
 refine s_op k_mv ?_
 refine s_op (k_call [] (con := exsig_c B hB hU)) ?_
 refine o2 ?_
 refine s_st k_st ?_
 refine s_op k_as ?_
 refine s_nil trivial (n_wp (w_ret ?_))
 exact d_ret hP hn hE [] (ret2 Tryz.results66 r_cella (by first | exact ri_tmp rfl | exact ri_tmpa rfl))

end Go.Proofs.X
end

section
/- Bytes that are alike. No program. -/
open Go Go.Bx
namespace Go.Proofs.X
def AlikeTo (A B : List Int) (i : Nat) : Prop := ∀ k, k < i → A.getD k 0 = B.getD k 0
theorem AlikeTo.all {A B : List Int} (hl : A.length = B.length) (h : AlikeTo A B A.length) : A = B := eqI hl h
theorem AlikeTo.next {A B : List Int} {i : Nat} (h : AlikeTo A B i) (e : A.getD i 0 = B.getD i 0) : AlikeTo A B (i + 1) := fun k hk => by
  by_cases hki : k = i
  · subst hki; exact e
  · exact h k (by omega)
theorem alike_not {A B : List Int} {i : Nat} (h : A.getD i 0 ≠ B.getD i 0) : A ≠ B := fun e => h (by rw [e])
end Go.Proofs.X
end

section
set_option maxRecDepth 100000
set_option maxHeartbeats 4000000
open Go Go.Bx Go.Proofs
namespace Go.Proofs.X
theorem sameb_c (A B : List Int) (hA : A.length ≤ 140737488355000) : Con Tryz.prog 15 [.s (.fzi .u8 A), .s (.fzi .u8 B)] [] (.s (.bool (decide (A = B)))) [] := by
 refine con_in 26 Tryz.func15 rfl rfl (m := 0) rfl ?_
 intro E hP hn hE
 refine qz hP hn ?_
 refine s_op k_as ?_
 refine s_nil trivial (n_wp (w_seq (qz hP hn ?_)))
 refine o3 ?_
 refine o2 ?_
 refine s_nil trivial (n_wp ?_)
 refine w_ifn rfl (fun h_t10 => ?_) (fun h_t10 => ?_)
 · rw [decide_eq_false (fun e : A = B => h_t10 (by rw [e]))]
   refine qz hP hn ?_
   refine s_op k_as ?_
   refine s_nil trivial (n_wp (w_ret (r_thn ?_)))
   exact d_ret hP hn hE [] (by first | exact r_tmp Tryz.results15 | exact r_tmpa Tryz.results15)
 · refine w_skip (n_wp (w_seq (qz hP hn ?_)))
   refine s_op k_as ?_
   refine s_nil trivial (n_wp (w_block ?_))
   refine c_loop (fun m T H => ∃ i, i ≤ A.length ∧ m = A.length - i ∧ AlikeTo A B i ∧ T = [(0, .s (.fzi .u8 A)), (1, .s (.fzi .u8 B)), (5, .s (.int .i64 ((i : Nat) : Int)))] ∧ H = []) (A.length) ⟨0, by omega, rfl, fun k hk => absurd hk (Nat.not_lt_zero k), rfl, rfl⟩ (wk hE []) ?_
   rintro n_ T_ H_ ⟨i, hi, rfl, hal, rfl, rfl⟩
   refine w_seq (qz hP hn ?_)
   refine o4 ?_
   refine s_nil trivial (n_wp ?_)
   refine w_if rfl (fun h_t14 => ?_) (fun h_t14 => ?_)
   · refine w_skip (n_wp (w_seq (w_block (w_seq ?_))))
     refine g_any hP hn ?_
     refine o4 ?_
     refine o3 ?_
     refine o2 ?_
     refine s_nil (by kernel_rfl) ?_
     refine n_wp ?_
     refine w_if rfl (fun h_t25 => ?_) (fun h_t25 => ?_)
     · rw [decide_eq_false (alike_not h_t25)]
       refine qz hP hn ?_
       refine s_op k_as ?_
       refine s_nil trivial (n_wp (w_ret (r_blo (r_thn (r_thn (r_blo (r_thn ?_)))))))
       exact d_ret hP hn hE [] (by first | exact r_tmp Tryz.results15 | exact r_tmpa Tryz.results15)
     · have hnext := hal.next (Decidable.of_not_not h_t25)
       refine w_skip (n_blo (n_wp (g_reg hP hn ?_)))
       refine o3 ?_
       refine s_nil trivial ?_
       exact n_round (A.length - (i + 1)) (by omega) ⟨i + 1, by omega, rfl, hnext, rfl, rfl⟩ (wk hE [])
   · rw [decide_eq_true (AlikeTo.all h_t10 (by rw [show i = A.length by omega] at hal; exact hal))]
     refine w_exit (x_thn (x_thn (x_eq (n_wp (qz hP hn ?_)))))
     refine s_op k_as ?_
     refine s_nil trivial (n_wp (w_ret ?_))
     exact d_ret hP hn hE [] (by first | exact r_tmp Tryz.results15 | exact r_tmpa Tryz.results15)

theorem as1_c (Y : List Int) (hY0 : 0 < Y.length) (hY : Y.length ≤ 900000) : Con Tryz.prog 70 [.s (.val (.string signedS)), .s (ROWS [Y])] [] (.agg [.ints .u8 32 (asB (strL signedS) [Y])]) [] := as_n signedS [Y] (by decide) (by decide) (Nat.le_of_ble_eq_true rfl) (fun i hi => by obtain rfl : i = 0 := Nat.lt_one_iff.1 hi; exact ⟨hY0, hY⟩)
theorem as1_len (Y : List Int) : (asB (strL signedS) [Y]).length = 32 := asB_len _ _
attribute [local irreducible] be gN ckS encL chk pk0 pkB macS wd sg0 drP asB expP szA secP fineP inP mayP

theorem sign1_y (k : Nat) (A B : List Int) (L : List Pc) (p q g : Nat) (hp : p < 2 ^ 256) (hq : q < 2 ^ 256) (hg : g < 2 ^ 256) (a : Nat) (ha : a < 2 ^ 256) (Y : List Int) (hY0 : 0 < Y.length) (hY : Y.length ≤ 900000) (hc : Con Tryz.prog 86 [.agg (PKT k A B L)] [] (.tup [.s (.fzi .u8 (Y)), .s (.int .i64 0)]) []) (hf : fineP p q g = true) (h0 : a ≠ 0) (haq : a < q) : Con Tryz.prog 85 [.agg (PKT k A B L), .s (.fptr 12 (cellsF (GRP p q g)) 0 0), .s (.fptr 4 (cellsF [.ints .u64 4 (zs (wd a))]) 0 0)] [] (.tup [.s (.fzi .u8 (be 32 (sg0 q (expP p g a) (expP p g (drP q a (asB (strL signedS) [Y]))) (asB (strL signedS) [Y])) ++ be 32 ((drP q a (asB (strL signedS) [Y]) + a * (sg0 q (expP p g a) (expP p g (drP q a (asB (strL signedS) [Y]))) (asB (strL signedS) [Y])) % q) % q))), .s (.int .i64 0)]) [] := by
 refine con_in 29 Tryz.func85 rfl rfl (m := 0) rfl ?_
 intro E hP hn hE
 refine qz hP hn ?_
 refine s_op k_bx ?_
 refine o2 ?_
 refine qx hP hn ?_
 refine s_op k_ld ?_
 refine s_op (k_call [] (con := hc)) ?_
 refine o3 ?_
 refine o2 ?_
 refine s_nil trivial (n_wp (w_seq (qz hP hn ?_)))
 refine s_op k_mv ?_
 refine s_op (l_bin rfl rfl (b_neq (r := false) (decide_eq_false (fun h => h rfl)))) ?_
 refine s_nil trivial (n_wp ?_)
 refine w_F rfl ?_ 
 refine w_skip (n_wp (w_seq ?_))
 refine g_any hP hn ?_
 refine o3 ?_
 refine s_op (k_bsz [.fzi .u8 Y]) ?_
 refine s_op (k_call [] (con := as1_c Y hY0 hY)) ?_
 refine s_op (k_call [] (con := sign_y p q g hp hq hg a (asB (strL signedS) [Y]) ha (as1_len Y) hf h0 haq)) ?_
 refine o4 ?_
 refine s_st k_st ?_
 refine s_op k_as ?_
 refine s_nil (by kernel_rfl) ?_
 refine n_wp (qz hP hn ?_)
 refine s_op k_ld ?_
 refine s_op (k_call [] (con := psig_n (sg0 q (expP p g a) (expP p g (drP q a (asB (strL signedS) [Y]))) (asB (strL signedS) [Y])) ((drP q a (asB (strL signedS) [Y]) + a * (sg0 q (expP p g a) (expP p g (drP q a (asB (strL signedS) [Y]))) (asB (strL signedS) [Y])) % q) % q))) ?_
 refine o3 ?_
 refine s_nil trivial (n_wp (w_ret ?_))
 exact d_ret hP hn hE [] (ret2 Tryz.results85 (by first | exact ri_tmp rfl | exact ri_tmpa rfl) (by first | exact ri_tmp rfl | exact ri_tmpa rfl))

theorem is_y (k : Nat) (A B : List Int) (L : List Pc) (t : Nat) (K : List Int) (hw : WfL L) (j : Nat) (hj : j < L.length) (hno : ∀ k, k < j → decide ((L.getD k p0).1 = t) = false) (hy : decide ((L.getD j p0).1 = t) = true) (Y : List Int) (hcb : Con Tryz.prog 108 [.agg (PKT k A B (keepL (fun x => decide (t ≤ x)) L)), .s (KEYP K)] [] (.tup [.s (.fzi .u8 (Y)), .s (.int .i64 0)]) []) (hs : (L.getD j p0).2 = Y) : Con Tryz.prog 95 [.agg (SEAL 108 1 t [KEYP K]), .agg (PKT k A B L)] [] (.s (.bool true)) [] := by
 refine con_in 37 Tryz.func95 rfl rfl (m := 0) rfl ?_
 intro E hP hn hE
 refine qz hP hn ?_
 refine s_op k_bxf ?_
 refine s_op k_bxf ?_
 refine s_op k_as ?_
 refine qx hP hn ?_
 refine o4 ?_
 refine s_op (k_call [] (con := find_y L t (by have := hw.len; omega) j hj hno hy (by have := (hw.get j).2.2; omega))) ?_
 refine o3 ?_
 refine o2 ?_
 refine s_nil trivial (n_wp (w_seq ?_))
 refine g_any hP hn ?_
 refine o3 ?_
 refine o2 ?_
 refine s_op (k_call [] (con := below16_c k A B L t hw)) ?_
 refine s_op (k_callN [KEYP K] (con := hcb)) ?_
 refine o3 ?_
 refine o2 ?_
 refine s_nil (by kernel_rfl) ?_
 refine n_wp (qz hP hn ?_)
 refine o2 ?_
 refine s_on rfl rfl rfl k_mv ?_
 refine s_on rfl rfl rfl (l_bin rfl rfl (b_eql (r := true) (by decide))) ?_
 refine o2 ?_
 refine s_on rfl rfl rfl k_mv ?_
 refine s_on rfl rfl rfl k_mv ?_
 refine s_on rfl rfl rfl (k_call [] (con := same_ok _ _ hs (by have := (hw.get j).2.2; omega))) ?_
 refine o2 ?_
 refine s_nil trivial (n_wp (w_ret ?_))
 exact d_ret hP hn hE [] (by first | exact r_tmp Tryz.results95 | exact r_tmpa Tryz.results95)

theorem hasm_c (k : Nat) (A B : List Int) (L : List Pc) (K : List Int) (hK : K.length = 32) (b : Bool) (his : Con Tryz.prog 95 [.agg (SEAL 108 1 61505 [KEYP K]), .agg (PKT k A B L)] [] (.s (.bool b)) []) : Con Tryz.prog 67 [.agg (PKT k A B L), .agg [.ints .u8 32 K]] [] (.s (.bool b)) [] := by
 refine con_in 9 Tryz.func67 rfl rfl (m := 0) rfl ?_
 intro E hP hn hE
 refine qz hP hn ?_
 refine s_op k_bxf ?_
 refine s_op k_bxf ?_
 refine s_op k_as ?_
 refine s_nil trivial (n_wp (w_seq ?_))
 refine g_any hP hn ?_
 refine s_op k_ld ?_
 refine s_op (k_call [] (con := seals_c 61505 K hK)) ?_
 refine s_op k_ld ?_
 refine s_op (k_call [] (con := his)) ?_
 refine s_op k_as ?_
 refine s_nil (by kernel_rfl) ?_
 refine n_wp (w_ret ?_)
 exact d_ret hP hn hE [] (by first | exact r_tmp Tryz.results67 | exact r_tmpa Tryz.results67)

theorem getsig2_c (c s : Nat) (hc : c < 2 ^ 256) (hs : s < 2 ^ 256) : Con Tryz.prog 66 [.s (.fzi .u8 (be 32 c ++ be 32 s))] [] (.tup [.agg [.ints .u64 4 (zs (wd c)), .ints .u64 4 (zs (wd s))], .s (.int .i64 0)]) [] := by
 have h := getsig_c (be 32 c ++ be 32 s) (by rw [List.length_append, be_len, be_len]) (U8'_app (U8'_be _ _) (U8'_be _ _))
 rwa [(gN_2 c s hc hs).1, (gN_2 c s hc hs).2] at h

theorem signed_y (k : Nat) (A B : List Int) (L : List Pc) (hw : WfL L) (p q g : Nat) (hp : p < 2 ^ 256) (hq : q < 2 ^ 256) (hg : g < 2 ^ 256) (x : Nat) (hx : x < 2 ^ 256) (j : Nat) (hj : j < L.length) (hno : ∀ k, k < j → decide ((L.getD k p0).1 = 61697) = false) (hy : decide ((L.getD j p0).1 = 61697) = true) (c s : Nat) (hc2 : c < 2 ^ 256) (hs2 : s < 2 ^ 256) (hb : (L.getD j p0).2 = be 32 c ++ be 32 s) (Y : List Int) (hY0 : 0 < Y.length) (hY : Y.length ≤ 900000) (hc : Con Tryz.prog 86 [.agg (PKT k A B L)] [] (.tup [.s (.fzi .u8 (Y)), .s (.int .i64 0)]) [])  : Con Tryz.prog 68 [.agg (GRP p q g), .agg (PKT k A B L), .agg [.ints .u64 4 (zs (wd x))]] [] (.s (.bool (ckB p q g x (asB (strL signedS) [Y]) c s))) [] := by
 refine con_in 47 Tryz.func68 rfl rfl (m := 0) rfl ?_
 intro E hP hn hE
 refine qz hP hn ?_
 refine s_op k_bxf ?_
 refine s_op k_bxf ?_
 refine s_op k_bxf ?_
 refine s_op k_as ?_
 refine qx hP hn ?_
 refine o2 ?_
 refine s_op (k_call [] (con := find_y L 61697 (by have := hw.len; omega) j hj hno hy (by have := (hw.get j).2.2; omega))) ?_
 refine o3 ?_
 refine o2 ?_
 refine s_nil trivial (n_wp (w_seq ?_))
 rw [hb]
 refine g_reg hP hn ?_
 refine s_op k_mv ?_
 refine s_op (k_call [] (con := getsig2_c c s hc2 hs2)) ?_
 refine o4 ?_
 refine s_st k_st ?_
 refine s_op k_as ?_
 refine qx hP hn ?_
 refine s_op k_ld ?_
 refine s_op (k_call [] (con := hc)) ?_
 refine o3 ?_
 refine o2 ?_
 refine s_nil trivial (n_wp (w_seq ?_))
 refine g_any hP hn ?_
 refine o2 ?_
 refine s_on rfl rfl rfl k_mv ?_
 refine s_on rfl rfl rfl (l_bin rfl rfl (b_eql (r := true) (by decide))) ?_
 refine o2 ?_
 refine s_on rfl rfl rfl k_mv ?_
 refine s_on rfl rfl rfl (l_bin rfl rfl (b_eql (r := true) (by decide))) ?_
 refine o2 ?_
 refine s_on rfl rfl rfl k_ld ?_
 refine s_on rfl rfl rfl k_ld ?_
 refine s_on rfl rfl rfl k_mv ?_
 refine s_on rfl rfl rfl (k_bsz [.fzi .u8 Y]) ?_
 refine s_on rfl rfl rfl (k_call [] (con := as1_c Y hY0 hY)) ?_
 refine s_on rfl rfl rfl k_ld ?_
 refine s_on rfl rfl rfl (k_call [] (con := check_n p q g hp hq hg x (asB (strL signedS) [Y]) c s hx (as1_len Y) hc2 hs2)) ?_
 refine o2 ?_
 refine s_nil (by kernel_rfl) ?_
 refine n_wp (w_ret ?_)
 exact d_ret hP hn hE [] (by first | exact r_tmp Tryz.results68 | exact r_tmpa Tryz.results68)

end Go.Proofs.X
end

section
/- Lists of pieces: one put behind, one put in, what is covered then. No program. -/
open Go Go.Bx
namespace Go.Proofs.X
theorem ins_last (L : List Pc) (p : Pc) : insL L L.length p = L ++ [p] := by unfold insL; rw [List.take_length, List.drop_length]
theorem up_lt {L : List Pc} (h : ∀ i, i < L.length → lastT L i < (L.getD i p0).1) : ∀ m k, k < m → m < L.length → (L.getD k p0).1 < (L.getD m p0).1
  | 0, k, hk, _ => absurd hk (Nat.not_lt_zero k)
  | m + 1, k, hk, hm => by
    have h1 : (L.getD m p0).1 < (L.getD (m + 1) p0).1 := h (m + 1) hm
    rcases Nat.lt_succ_iff_lt_or_eq.1 hk with h2 | rfl
    · exact Nat.lt_trans (up_lt h m k h2 (by omega)) h1
    · exact h1
theorem place {L : List Pc} (h : ∀ i, i < L.length → lastT L i < (L.getD i p0).1) (t : Nat) : ∃ i0, i0 ≤ L.length ∧ (∀ k, k < i0 → (L.getD k p0).1 < t) ∧ ∀ k, i0 ≤ k → k < L.length → t ≤ (L.getD k p0).1 := by
  rcases first_or (fun x => decide (t ≤ x)) L with ⟨j, h1, h2, h3, _⟩ | ⟨h1, _⟩
  · refine ⟨j, by omega, fun k hk => ?_, fun k h4 h5 => ?_⟩
    · have := h2 k hk
      simp only [decide_eq_false_iff_not] at this
      omega
    · have h3' := of_decide_eq_true h3
      rcases Nat.lt_or_ge j k with h6 | h6
      · exact Nat.le_trans h3' (Nat.le_of_lt (up_lt h k j h6 h5))
      · have : j = k := by omega
        subst this; exact h3'
  · refine ⟨L.length, Nat.le_refl _, fun k hk => ?_, fun k h2 h3 => by omega⟩
    have := h1 k hk
    simp only [decide_eq_false_iff_not] at this
    omega
theorem WfL.snoc {L : List Pc} (h : WfL L) (hl : L.length ≤ 1000) {p : Pc} (hp : p.1 < 65536 ∧ U8' p.2 ∧ p.2.length ≤ 900000) : WfL (L ++ [p]) := by
  rw [← ins_last]; exact h.ins hl _ hp
theorem encL_cons (p : Pc) (L : List Pc) : encL (p :: L) = encP p ++ encL L := by simp [encL]
theorem sgL_app (L M : List Pc) : sgL (L ++ M) = sgL L ++ sgL M := by simp [sgL, keepL]
theorem sgL_cons_y (p : Pc) (L : List Pc) (h : p.1 < 61697) : sgL (p :: L) = p :: sgL L := by
  unfold sgL keepL; rw [List.filter_cons_of_pos (by simp; omega)]
theorem sgL_cons_n (p : Pc) (L : List Pc) (h : 61697 ≤ p.1) : sgL (p :: L) = sgL L := by
  unfold sgL keepL; rw [List.filter_cons_of_neg (by simp; omega)]
theorem sgL_snoc_n (p : Pc) (L : List Pc) (h : 61697 ≤ p.1) : sgL (L ++ [p]) = sgL L := by
  rw [sgL_app, sgL_cons_n p [] h]; exact List.append_nil _
theorem sgL_all {L : List Pc} (h : ∀ i, i < L.length → decide (61697 ≤ (L.getD i p0).1) = false) : sgL L = L := keep_none h
theorem lastT_map (L : List Pc) : ∀ i, i ≤ L.length → lastT (L.map strip) i = lastT L i
  | 0, _ => rfl
  | i + 1, h => by
    show ((L.map strip).getD i p0).1 = (L.getD i p0).1
    rw [List.getD_eq_getElem?_getD, List.getD_eq_getElem?_getD, List.getElem?_map, List.getElem?_eq_getElem (by omega)]
    exact strip_ty _
theorem getD_strip (L : List Pc) (i : Nat) (h : i < L.length) : ((L.map strip).getD i p0).1 = (L.getD i p0).1 := by
  rw [List.getD_eq_getElem?_getD, List.getD_eq_getElem?_getD, List.getElem?_map, List.getElem?_eq_getElem h]
  exact strip_ty _
theorem ok_sgK {k : Nat} {L : List Pc} (h : okP k (sgK k L)) (ha : sgL L = L) : (∀ i, i < L.length → lastT L i < (L.getD i p0).1) ∧ L.length ≤ 16 := by
  have hu := h.up
  have hn := h.n
  unfold sgK at hu hn
  rw [ha] at hu hn
  split at hu
  · rename_i h2
    rw [if_pos h2, List.length_map] at hn
    refine ⟨fun i hi => ?_, hn⟩
    have := hu i (by simpa using hi)
    rwa [lastT_map L i (by omega), getD_strip L i hi] at this
  · rename_i h2
    rw [if_neg h2] at hn
    exact ⟨hu, hn⟩
theorem sgT_len {k : Nat} {B : List Int} (h : B.length = 16) : (sgT k B).length = 16 := by
  unfold sgT; split
  · simp [zs]
  · exact h
end Go.Proofs.X
end

section
open Go Go.Bx Go.Proofs
namespace Go.Proofs.X
def macPc (k : Nat) (A B : List Int) (L : List Pc) (K : List Int) : Pc := (61505, macS K (pkB k A B (encL L)))
def sgC (p q g a : Nat) (Y : List Int) : Nat := sg0 q (expP p g a) (expP p g (drP q a (asB (strL signedS) [Y]))) (asB (strL signedS) [Y])
def sgS (p q g a : Nat) (Y : List Int) : Nat := (drP q a (asB (strL signedS) [Y]) + a * sgC p q g a Y % q) % q
def sgPc (k : Nat) (A B : List Int) (L : List Pc) (p q g a : Nat) : Pc := (61697, be 32 (sgC p q g a (pkB k A (sgT k B) (encL (sgK k L)))) ++ be 32 (sgS p q g a (pkB k A (sgT k B) (encL (sgK k L)))))
theorem macPc_wf (k : Nat) (A B : List Int) (L : List Pc) (K : List Int) : (macPc k A B L K).1 < 65536 ∧ U8' (macPc k A B L K).2 ∧ (macPc k A B L K).2.length ≤ 900000 := ⟨(by decide : 61505 < 65536), U8'_sumL _ _, by show (macS _ _).length ≤ _; rw [macS_len]; decide⟩
theorem sgPc_wf (k : Nat) (A B : List Int) (L : List Pc) (p q g a : Nat) : (sgPc k A B L p q g a).1 < 65536 ∧ U8' (sgPc k A B L p q g a).2 ∧ (sgPc k A B L p q g a).2.length ≤ 900000 := ⟨(by decide : 61697 < 65536), U8'_app (U8'_be _ _) (U8'_be _ _), by show (be 32 _ ++ be 32 _).length ≤ _; rw [List.length_append, be_len, be_len]; decide⟩
theorem pkn_app (k : Nat) (A B : List Int) (L : List Pc) (p : Pc) : PKN k A B (L.length + 1) (kpF (insL L L.length p)) = PKT k A B (L ++ [p]) := by
 rw [ins_last]
 show _ = [Seg.one _, Seg.ints .u8 16 A, Seg.ints .u8 16 B, .one (.fz (L ++ [p]).length 2 (gP (kpF (L ++ [p]))))]
 rw [List.length_append]; rfl
theorem with_end (L : List Pc) (hw : WfL L) (p : Pc) (hp : p.1 < 65536 ∧ U8' p.2 ∧ p.2.length ≤ 900000) (hall : ∀ i, i < L.length → lastT L i < (L.getD i p0).1) (h0 : p.1 ≠ 0) (hlo : ∀ k, k < L.length → (L.getD k p0).1 < p.1) (hl : ¬ 16 ≤ L.length) : Con Tryz.prog 111 [.s (PARS L), .agg (PR p)] [] (.tup [.s (.fz (L.length + 1) 2 (gP (kpF (insL L L.length p)))), .s (.int .i64 0)]) [] :=
 with_y L p (by have := hw.len; omega) hall h0 hp.1 (fun k => (hw.get k).1) L.length (Nat.le_refl _) hlo (fun k h1 h2 => by omega) (fun h => absurd h (Nat.lt_irrefl _)) (fun i _ => by have := (hw.get i).2.2; omega) (by have := hp.2.2; omega) hl
structure MacOK (k : Nat) (A B : List Int) (L : List Pc) (K : List Int) : Prop where
 up : ∀ i, i < L.length → decide (61505 ≤ (L.getD i p0).1) = false
 ok : okP k L
 n : L.length < 16
 ok2 : okP k (L ++ [macPc k A B L K])
theorem mac_ok (k : Nat) (A B : List Int) (L : List Pc) (K : List Int) (hK : K.length = 32) (hw : WfL L) (hk : k < 256) (hA : A.length = 16) (hB : B.length = 16) (hUA : U8' A) (hUB : U8' B) (h : MacOK k A B L K) : Con Tryz.prog 56 [.agg (PKT k A B (L)), .agg [.ints .u8 32 K]] [] (.tup [.agg (PKT k A B (L ++ [macPc k A B L K])), .s (.int .i64 0)]) [] := by
 have hLb : L.length ≤ 800000 := by have := hw.len; omega
 have hcp := kput_ok k A B L hw h.ok hk hA hB hUA hUB
 have hpl := pkB_len (k := k) (E := encL L) hA hB
 have hn := h.n
 have hcb := sum1_y k A B L K hK (pkB k A B (encL L)) (by have := h.ok.tot; omega) hcp
 have hlo : ∀ i, i < L.length → (L.getD i p0).1 < (macPc k A B L K).1 := fun i hi => by
   have := h.up i hi
   simp only [decide_eq_false_iff_not] at this
   show _ < 61505
   omega
 have hcw := with_end L hw (macPc k A B L K) (macPc_wf k A B L K) h.ok.up (by show (61505 : Nat) ≠ 0; decide) hlo (by omega)
 have hcp2 := kput_ok k A B (L ++ [macPc k A B L K]) (hw.snoc (by omega) (macPc_wf k A B L K)) h.ok2 hk hA hB hUA hUB
 rw [← pkn_app] at hcp2
 have h := mac_y k A B L K hK (L.length + 1) (kpF (insL L L.length (macPc k A B L K))) (ons_y k A B L 61505 K hK hLb h.up _ hcb _ hcw _ hcp2)
 rw [pkn_app] at h
 exact h
structure SgnOK (k : Nat) (A B : List Int) (L : List Pc) (p q g a : Nat) : Prop where
 up : ∀ i, i < L.length → decide (61697 ≤ (L.getD i p0).1) = false
 ok : okP k (sgK k L)
 sec : secP p q g a = true
 n : L.length < 16
 ok2 : okP k (L ++ [sgPc k A B L p q g a])
theorem sgn_ok (k : Nat) (A B : List Int) (L : List Pc) (p q g : Nat) (hp : p < 2 ^ 256) (hq : q < 2 ^ 256) (hg : g < 2 ^ 256) (a : Nat) (ha : a < 2 ^ 256) (hw : WfL L) (hk : k < 256) (hA : A.length = 16) (hB : B.length = 16) (hUA : U8' A) (hUB : U8' B) (h : SgnOK k A B L p q g a) : Con Tryz.prog 57 [.agg (GRP p q g), .agg (PKT k A B (L)), .agg [.ints .u64 4 (zs (wd a))]] [] (.tup [.agg (PKT k A B (L ++ [sgPc k A B L p q g a])), .s (.int .i64 0)]) [] := by
 have hLb : L.length ≤ 800000 := by have := hw.len; omega
 have hc := cont_ok k A B L hw h.ok hk hA hB hUA hUB
 obtain ⟨hall, h16⟩ := ok_sgK h.ok (sgL_all h.up)
 have hpl := pkB_len (k := k) (E := encL (sgK k L)) hA (sgT_len (k := k) hB)
 have htot := h.ok.tot
 have hn := h.n
 have hsec2 := h.sec
 simp only [secP, Bool.and_eq_true, Bool.not_eq_true', decide_eq_true_eq, decide_eq_false_iff_not] at hsec2
 obtain ⟨hf, h0, haq⟩ := hsec2
 have hcb := sign1_y k A B L p q g hp hq hg a ha (pkB k A (sgT k B) (encL (sgK k L))) (by omega) (by omega) hc hf h0 haq
 have hlo : ∀ i, i < L.length → (L.getD i p0).1 < (sgPc k A B L p q g a).1 := fun i hi => by
   have := h.up i hi
   simp only [decide_eq_false_iff_not] at this
   show _ < 61697
   omega
 have hcw := with_end L hw (sgPc k A B L p q g a) (sgPc_wf k A B L p q g a) hall (by show (61697 : Nat) ≠ 0; decide) hlo (by omega)
 have hcp2 := kput_ok k A B (L ++ [sgPc k A B L p q g a]) (hw.snoc (by omega) (sgPc_wf k A B L p q g a)) h.ok2 hk hA hB hUA hUB
 rw [← pkn_app] at hcp2
 have h := sgn_y k A B L p q g a (L.length + 1) (kpF (insL L L.length (sgPc k A B L p q g a))) (ong_y k A B L 61697 p q g a hLb h.up _ hcb _ hcw _ hcp2)
 rw [pkn_app] at h
 exact h
end Go.Proofs.X
end

section
/- What comes in, told as values: with the bounds that its size gives. No program. -/
namespace Go.Bx
open Go.ChangeShapes Go.WideShapes
section
variable {Hh : Type} {enc : TypeId × Value → Hh} {P : Program} {w : World} {base : Nat} {spare : Nat → Bool} {held : Bool}
def OpZ (enc : TypeId × Value → Hh) (P : Program) (w : World) (base : Nat) (spare : Nat → Bool) (held : Bool) (t : TypeId) (n : Nat) (S : List Seg → Prop) : Prop :=
  P.cellsOf t = n ∧ ∀ (fuel : Nat) (cs : List Value) (x : DataW Hh × List MemPlace), DataW.trod enc P w base spare held fuel t cs = some x → (∀ q ∈ x.1.weights P t, q ≤ reachBytes) → ∃ segs, S segs ∧ sizeS segs = n ∧ RowRep (rhoW w) segs (fun i => cs[i]?)
theorem Op.z {t : TypeId} {n : Nat} {S : List Seg → Prop} (h : Op enc P w base spare held t n S) : OpZ enc P w base spare held t n S := ⟨h.1, fun fuel cs x hx _ => h.2 fuel cs x hx⟩
def mxB : Nat := 140737488351232
def shIntsZ (k : IntKind) : List Seg → Prop := fun s => ∃ l : List Int, l.length ≤ mxB ∧ (∀ y ∈ l, (Lit.int k y).wf = true) ∧ s = [.one (.fzi k l)]
def shRowsZ (wd : Nat) (S : List Seg → Prop) : List Seg → Prop := fun s => ∃ (n : Nat) (rows : Nat → List Seg), n ≤ mxB ∧ (∀ i, i < n → S (rows i) ∧ sizeS (rows i) = wd) ∧ s = [.one (.fz n wd (rowsF rows))]
end
end Go.Bx
end

section
/- A scope in which the run jumps back to one label. No program. -/
namespace Go.Bx
def Jmp (l : Nat) (J : Tm → Heap → Prop) (Q : Exit → Tm → Heap → Prop) : Exit → Tm → Heap → Prop
  | .goto l', T, H => l' = l ∧ J T H
  | e, T, H => Q e T H
section
variable {E : Env} {T : Tm} {H : Heap} {Q : Exit → Tm → Heap → Prop} {J K : Tm → Heap → Prop} {l : Nat}
theorem r_jmp (h : Q .ret T H) : Jmp l J Q .ret T H := h
theorem wp_skip_seq {P : Program} {y : Code} {a : Act} {w : World} {Q : Exit → Act → World → Prop} (h : y.wp P Q a w) : (Code.seq .skip y).wp P Q a w := wp_seq (wp_skip h)
open Classical in
theorem w_jumps {c r0 : Code} (l : Nat) (hf : findLabel c l = some (.seq .skip r0)) (I : Nat → Tm → Heap → Prop)
    (first : (∀ T H, (∃ n T2 H2, Weak E T H T2 H2 ∧ I n T2 H2) → Wp E r0 T H (Jmp l (fun T1 H1 => ∃ n T2 H2, Weak E T1 H1 T2 H2 ∧ I n T2 H2) Q)) → Wp E c T H (Jmp l (fun T1 H1 => ∃ n T2 H2, Weak E T1 H1 T2 H2 ∧ I n T2 H2) Q))
    (pass : ∀ n T H, I n T H → Wp E r0 T H (Jmp l (fun T1 H1 => ∃ n', n' < n ∧ ∃ T2 H2, Weak E T1 H1 T2 H2 ∧ I n' T2 H2) Q)) : Wp E (.scope c) T H Q := by
  intro a w hr
  let R : Nat → Act → World → Prop := fun n a w => ∃ T H, I n T H ∧ Rep E T H a w
  refine wp_scope_jumps (rest := .seq .skip r0) l (fun a w => ∃ n, R n a w) (fun a w => leastOf fun n => R n a w) hf ?_ ?_
  · refine wp_mono (first (fun T1 H1 ⟨n, T2, H2, h1, h2⟩ => w_weak h1 ((pass n T2 H2 h2).mono ?_)) a w hr) ?_
    · intro e T H he
      cases e with
      | goto l' => obtain ⟨e1, n', _, T3, H3, k1, k2⟩ := he; exact ⟨e1, n', T3, H3, k1, k2⟩
      | normal => exact he
      | exit i => exact he
      | ret => exact he
      | panic ch => exact he
      | outgrown => exact he
    · rintro e a' w' ⟨T1, H1, h1, h2⟩
      cases e with
      | goto l' => obtain ⟨e1, n, T2, H2, k1, k2⟩ := h1; exact ⟨e1, n, T2, H2, k2, k1 _ _ h2⟩
      | normal => exact ⟨T1, H1, h1, h2⟩
      | exit i => exact ⟨T1, H1, h1, h2⟩
      | ret => exact ⟨T1, H1, h1, h2⟩
      | panic ch => exact ⟨T1, H1, h1, h2⟩
      | outgrown => exact ⟨T1, H1, h1, h2⟩
  · intro a w hJ
    obtain ⟨T1, H1, h1, h2⟩ := (leastOf_spec hJ).1
    refine wp_skip_seq (wp_mono (pass _ T1 H1 h1 a w h2) ?_)
    rintro e a' w' ⟨T1, H1, h1, h2⟩
    cases e with
    | goto l' =>
      obtain ⟨e1, n', hlt, T2, H2, k1, k2⟩ := h1
      have hR : R n' a' w' := ⟨T2, H2, k2, k1 _ _ h2⟩
      exact ⟨e1, ⟨n', hR⟩, Nat.lt_of_le_of_lt ((leastOf_spec (p := fun n => R n a' w') ⟨n', hR⟩).2 n' hR) hlt⟩
    | normal => exact ⟨T1, H1, h1, h2⟩
    | exit i => exact ⟨T1, H1, h1, h2⟩
    | ret => exact ⟨T1, H1, h1, h2⟩
    | panic ch => exact ⟨T1, H1, h1, h2⟩
    | outgrown => exact ⟨T1, H1, h1, h2⟩
theorem j_start {r0 : Code} {I : Nat → Tm → Heap → Prop} {T' : Tm} {H' : Heap} {QQ : Exit → Tm → Heap → Prop} (hk : ∀ T H, (∃ n T2 H2, Weak E T H T2 H2 ∧ I n T2 H2) → Wp E r0 T H QQ) (n : Nat) (hI : I n T' H') (hw : Weak E T H T' H') : Wp E r0 T H QQ := hk T H ⟨n, T', H', hw, hI⟩
theorem j_round {I : Nat → Tm → Heap → Prop} {n : Nat} {T2 : Tm} {H2 : Heap} (n' : Nat) (hn : n' < n) (hI : I n' T2 H2) (hw : Weak E T H T2 H2) : Jmp l (fun T1 H1 => ∃ n', n' < n ∧ ∃ T2 H2, Weak E T1 H1 T2 H2 ∧ I n' T2 H2) Q (.goto l) T H := ⟨rfl, n', hn, T2, H2, hw, hI⟩
end
section
variable {P : Program} {T : Tm} {H : Heap} {d : Option Tmp} {ty : TypeId} {pos : String} {af : Array Edge} {g : Option (Nat × Bool)}
end
end Go.Bx
end

section
/- Types and functions of what is read back, as instances. -/
open Go Go.Bx Go.Proofs
namespace Go.Proofs.X
instance : Clb Tryz.prog 60 := ⟨_, Tryz.func60, by kernel_rfl, rfl⟩
instance : Clb Tryz.prog 89 := ⟨_, Tryz.func89, by kernel_rfl, rfl⟩
instance : Clb Tryz.prog 36 := ⟨_, Tryz.func36, by kernel_rfl, rfl⟩
instance : Clb Tryz.prog 61 := ⟨_, Tryz.func61, by kernel_rfl, rfl⟩
instance : Clb Tryz.prog 10 := ⟨_, Tryz.func10, by kernel_rfl, rfl⟩
instance : Clb Tryz.prog 28 := ⟨_, Tryz.func28, by kernel_rfl, rfl⟩
instance : Clb Tryz.prog 30 := ⟨_, Tryz.func30, by kernel_rfl, rfl⟩
instance : Clb Tryz.prog 32 := ⟨_, Tryz.func32, by kernel_rfl, rfl⟩
instance : Clb Tryz.prog 33 := ⟨_, Tryz.func33, by kernel_rfl, rfl⟩
instance : Clb Tryz.prog 12 := ⟨_, Tryz.func12, by kernel_rfl, rfl⟩
instance : Clb Tryz.prog 38 := ⟨_, Tryz.func38, by kernel_rfl, rfl⟩
instance : Clb Tryz.prog 69 := ⟨_, Tryz.func69, by kernel_rfl, rfl⟩
instance : NoEq Tryz.prog 37 := ⟨by kernel_rfl⟩
instance : Und Tryz.prog 45 (.func #[] #[4] false) := ⟨Tryz.underlying45⟩
instance : Sz Tryz.prog 45 1 := ⟨Tryz.sizeOf45⟩
instance : Ag Tryz.prog 45 false := ⟨Tryz.isAgg45⟩
instance : Zv Tryz.prog 45 [.one (.val .nilFunc)] := ⟨_, Tryz.zeroValue45, by kernel_rfl⟩
instance : Inf Tryz.prog 45 Tryz.t45 := ⟨by kernel_rfl⟩
instance : Und Tryz.prog 98 (.slice 45) := ⟨Tryz.underlying98⟩
instance : Sz Tryz.prog 98 1 := ⟨Tryz.sizeOf98⟩
instance : Ag Tryz.prog 98 false := ⟨Tryz.isAgg98⟩
instance : Zv Tryz.prog 98 [.one .nils] := ⟨_, Tryz.zeroValue98, by kernel_rfl⟩
instance : Zn Tryz.prog 98 := ⟨Tryz.zeroValue98⟩
instance : Inf Tryz.prog 98 Tryz.t98 := ⟨by kernel_rfl⟩
instance : Und Tryz.prog 131 (.func #[5] #[4] false) := ⟨Tryz.underlying131⟩
instance : Sz Tryz.prog 131 1 := ⟨Tryz.sizeOf131⟩
instance : Ag Tryz.prog 131 false := ⟨Tryz.isAgg131⟩
instance : Zv Tryz.prog 131 [.one (.val .nilFunc)] := ⟨_, Tryz.zeroValue131, by kernel_rfl⟩
instance : Inf Tryz.prog 131 Tryz.t131 := ⟨by kernel_rfl⟩
end Go.Proofs.X
end

section
/- Pieces, read back from their bytes. No program. -/
open Go Go.Bx
namespace Go.Proofs.X
def enF (M : List Pc) (i : Nat) : List Int := encL (M.drop i)
theorem enF_0 (M : List Pc) : enF M 0 = encL M := rfl
theorem enF_s {M : List Pc} {i : Nat} (h : i < M.length) : enF M i = encP (M.getD i p0) ++ enF M (i + 1) := by
  unfold enF
  rw [List.drop_eq_getElem_cons h, encL_cons, List.getD_eq_getElem?_getD, List.getElem?_eq_getElem h]; rfl
theorem enF_n (M : List Pc) : enF M M.length = [] := by unfold enF; rw [List.drop_length]; rfl
structure RdP (E : List Int) (p : Pc) (R : List Int) : Prop where
  len : E.length = up8 (4 + p.2.length) + R.length
  ty : gN E 2 = p.1
  sz : gN ((E.drop 2).take (E.length - 2)) 2 = p.2.length
  by_ : (E.drop 4).take p.2.length = p.2
  ze : (E.drop (4 + p.2.length)).take (up8 (4 + p.2.length) - (4 + p.2.length)) = List.replicate (up8 (4 + p.2.length) - (4 + p.2.length)) 0
  re : (E.drop (up8 (4 + p.2.length))).take (E.length - up8 (4 + p.2.length)) = R
theorem rdP (p : Pc) (R : List Int) (ht : p.1 < 65536) (hl : p.2.length < 65536) : RdP (encP p ++ R) p R := by
  have hl2 := encP_len p
  have hu := up8_le (4 + p.2.length)
  have e4 : encP p ++ R = (be 2 p.1 ++ be 2 p.2.length) ++ (p.2 ++ (List.replicate (up8 (4 + p.2.length) - (4 + p.2.length)) 0 ++ R)) := by unfold encP; simp only [List.append_assoc]
  have l4 : (be 2 p.1 ++ be 2 p.2.length).length = 4 := by simp [be_len]
  have e2 : encP p ++ R = be 2 p.1 ++ (be 2 p.2.length ++ (p.2 ++ (List.replicate (up8 (4 + p.2.length) - (4 + p.2.length)) 0 ++ R))) := by rw [e4, List.append_assoc]
  have e5 : encP p ++ R = (be 2 p.1 ++ be 2 p.2.length ++ p.2) ++ (List.replicate (up8 (4 + p.2.length) - (4 + p.2.length)) 0 ++ R) := by rw [e4, List.append_assoc (be 2 p.1 ++ be 2 p.2.length)]
  refine ⟨by rw [List.length_append, hl2], ?_, ?_, ?_, ?_, ?_⟩
  · rw [e2]; exact gN_be 2 _ _ (by simpa using ht)
  · rw [gN_take _ _ _ (by rw [List.length_append, hl2]; omega), e2, List.drop_left' (be_len 2 _)]
    exact gN_be 2 _ _ (by simpa using hl)
  · rw [e4, List.drop_left' l4, List.take_left' rfl]
  · rw [e5, List.drop_left' (by simp [be_len]; omega), List.take_left' (by simp)]
  · rw [List.drop_left' hl2]; exact List.take_of_length_le (by rw [List.length_append, hl2]; omega)
theorem rdF {M : List Pc} {i : Nat} (h : i < M.length) (ht : (M.getD i p0).1 < 65536) (hl : (M.getD i p0).2.length < 65536) : RdP (enF M i) (M.getD i p0) (enF M (i + 1)) := by
  rw [enF_s h]; exact rdP _ _ ht hl
theorem enF_u8 {M : List Pc} (h : ∀ p ∈ M, U8' p.2) (i : Nat) : U8' (enF M i) := U8'_encL fun p hp => h p (List.mem_of_mem_drop hp)
theorem be2 (v : Nat) : ∃ x y, be 2 v = [x, y] := by
  have h := be_len 2 v
  match hb : be 2 v, h with
  | [x, y], _ => exact ⟨x, y, rfl⟩
structure PkF (Y Y0 : List Int) (k : Nat) (A B E : List Int) : Prop where
  u8 : U8' Y
  len : Y.length = 40 + E.length
  b0 : Y.getD 0 0 = 1
  b1 : Y.getD 1 0 = ((k : Nat) : Int)
  sz : gN ((Y.drop 2).take (Y.length - 2)) 2 = Y.length
  b6 : Y.getD 6 0 = 0
  b7 : Y.getD 7 0 = 0
  ck : gN ((Y.drop 4).take (Y.length - 4)) 2 = chk Y0
  cl : (Y.set 4 0).set 5 0 = Y0
  u0 : U8' Y0
  fr : ((Y.drop 8).take (Y.length - 8)).take 16 = A
  to : ((Y.drop 24).take (Y.length - 24)).take 16 = B
  re : (Y.drop 40).take (Y.length - 40) = E
theorem pkF {k : Nat} {A B E : List Int} (hk : k < 256) (hA : A.length = 16) (hB : B.length = 16) (hUA : U8' A) (hUB : U8' B) (hUE : U8' E) (hE : 40 + E.length < 65536) : PkF (pkB k A B E) (pk0 k A B E) k A B E := by
  have hl := pkB_len (k := k) (E := E) hA hB
  have hl0 := pk0_len (k := k) (E := E) hA hB
  have hu0 := U8'_pk0 hk hUA hUB hUE
  have hc := chk_lt (pk0 k A B E)
  have hu : U8' (pkB k A B E) := by
    have := U8'_app (U8'_app (U8'_take hu0 4) (U8'_be 2 (chk (pk0 k A B E)))) (U8'_drop hu0 6)
    have e : (pk0 k A B E).take 4 ++ be 2 (chk (pk0 k A B E)) ++ (pk0 k A B E).drop 6 = pkB k A B E := by
      unfold pkB
      generalize be 2 (chk (pk0 k A B E)) = c
      obtain ⟨x, y, h⟩ := be2 (40 + E.length)
      unfold pk0 pkH
      rw [h]; rfl
    rwa [e] at this
  have e0 : pk0 k A B E = pkH k (40 + E.length) ++ ([0, 0] ++ ([0, 0] ++ (A ++ (B ++ E)))) := rfl
  have e : pkB k A B E = pkH k (40 + E.length) ++ (be 2 (chk (pk0 k A B E)) ++ ([0, 0] ++ (A ++ (B ++ E)))) := rfl
  generalize hz : chk (pk0 k A B E) = c at *
  generalize hy : pkB k A B E = Y at *
  generalize pk0 k A B E = Y0 at *
  obtain ⟨x, y, hxy⟩ := be2 (40 + E.length)
  obtain ⟨u, v, huv⟩ := be2 c
  have n2 := gN_be 2 (40 + E.length) (be 2 c ++ ([0, 0] ++ (A ++ (B ++ E)))) (by simpa using hE)
  have c2 := gN_be 2 c ([0, 0] ++ (A ++ (B ++ E))) (by simpa using hc)
  unfold pkH at e e0
  rw [hxy] at e e0 n2
  rw [huv] at e n2 c2
  simp only [List.cons_append, List.nil_append] at e e0 n2 c2
  have h2 : Y.drop 2 = x :: y :: u :: v :: 0 :: 0 :: (A ++ (B ++ E)) := by rw [e]; rfl
  have h4 : Y.drop 4 = u :: v :: 0 :: 0 :: (A ++ (B ++ E)) := by rw [e]; rfl
  have h8 : Y.drop 8 = A ++ (B ++ E) := by rw [e]; rfl
  have h24 : Y.drop 24 = B ++ E := by
    have : Y.drop 24 = (Y.drop 8).drop 16 := by rw [List.drop_drop]
    rw [this, h8]; exact List.drop_left' hA
  have h40 : Y.drop 40 = E := by
    have : Y.drop 40 = (Y.drop 24).drop 16 := by rw [List.drop_drop]
    rw [this, h24]; exact List.drop_left' hB
  refine ⟨hu, hl, by rw [e]; rfl, by rw [e]; rfl, ?_, by rw [e]; rfl, by rw [e]; rfl, ?_, by rw [e, e0]; rfl, hu0, ?_, ?_, ?_⟩
  · rw [gN_take _ _ _ (by omega), h2, n2, hl]
  · rw [gN_take _ _ _ (by omega), h4, c2, hz]
  · rw [List.take_take, Nat.min_eq_left (by omega), h8, List.take_left' hA]
  · rw [List.take_take, Nat.min_eq_left (by omega), h24, List.take_left' hB]
  · rw [h40]; exact List.take_of_length_le (by omega)
end Go.Proofs.X
end

section
set_option maxRecDepth 100000
set_option maxHeartbeats 4000000
open Go Go.Bx Go.Proofs
namespace Go.Proofs.X
theorem filled_u (n : Nat) (h : n ≤ 1000000000) : Con Tryz.prog 59 [.s (.int .i64 ((n : Nat) : Int))] [] (.s (.int .i64 ((up8 n : Nat) : Int))) [] := filled_n n h
attribute [local irreducible] be gN ckS encL enF up8 chk pk0 pkB
theorem pget1_n  : Con Tryz.prog 61 [.s (.int .u8 0)] [] (.s (.bool false)) [] := by
 refine con_in 5 Tryz.func61 rfl rfl (m := 0) rfl ?_
 intro E hP hn hE
 refine qz hP hn ?_
 refine s_op k_as ?_
 refine qx hP hn ?_
 refine o3 ?_
 refine s_nil trivial (n_wp (w_ret ?_))
 exact d_ret hP hn hE [] (by first | exact r_tmp Tryz.results61 | exact r_tmpa Tryz.results61)

theorem ixb_n (B : List Int) (hB : ∀ i, i < B.length → B.getD i 0 = 0) (hBl : B.length ≤ 1000000) : Con Tryz.prog 89 [.s (.fzi .u8 B), .s (.val (.func (.func 61) #[] #[]))] [] (.s (.int .i64 (-1))) [] := by
 refine con_in 19 Tryz.func89 rfl rfl (m := 0) rfl ?_
 intro E hP hn hE
 refine qz hP hn ?_
 refine s_op k_as ?_
 refine s_nil trivial (n_wp (w_seq (w_seq ?_)))
 refine w_weak (weak_conv 1 rfl (conv_vf (q := capF []))) ?_
 refine g_reg hP hn ?_
 refine o3 ?_
 refine s_nil trivial (n_wp (w_block ?_))
 refine c_loop (fun m_ T H => ∃ i, i ≤ B.length ∧ m_ = B.length - i ∧ T = [(0, .s (.fzi .u8 B)), (1, .s (.noid (.clo 61 0 (capF [])))), (7, .s (.int .i64 ((B.length : Nat) : Int))), (8, .s (.int .i64 ((i : Nat) : Int)))] ∧ H = []) (B.length) ⟨0, by omega, rfl, rfl, rfl⟩ (wk hE []) ?_
 rintro n_ T_ H_ ⟨i, hi, rfl, rfl, rfl⟩
 refine qz hP hn ?_
 refine s_op k_lss ?_
 refine s_nil trivial (n_wp (w_seq ?_))
 refine w_if rfl (fun h_t9 => ?_) (fun h_t9 => ?_)
 · refine w_skip (n_wp (w_seq (w_block (qz hP hn ?_))))
   refine o2 ?_
   refine qx hP hn ?_
   refine o3 ?_
   refine o2 ?_
   rw [hB i h_t9]
   refine s_op (k_callN [] (con := pget1_n)) ?_
   refine s_nil trivial (n_wp ?_)
   refine w_F rfl ?_ 
   refine w_skip (n_blo (n_wp (g_reg hP hn ?_)))
   refine o2 ?_
   refine s_nil trivial ?_
   exact n_round (B.length - (i + 1)) (by omega) ⟨i + 1, by omega, rfl, rfl, rfl⟩ (wk hE [])
 · refine w_exit (x_thn (x_thn (x_eq (n_wp (qz hP hn ?_)))))
   refine s_op k_as ?_
   refine s_nil trivial (n_wp (w_ret ?_))
   exact d_ret hP hn hE [] (by first | exact r_tmp Tryz.results89 | exact r_tmpa Tryz.results89)

theorem cnb_n (B : List Int) (hB : ∀ i, i < B.length → B.getD i 0 = 0) (hBl : B.length ≤ 1000000) : Con Tryz.prog 60 [.s (.fzi .u8 B), .s (.val (.func (.func 61) #[] #[]))] [] (.s (.bool false)) [] := by
 refine con_in 9 Tryz.func60 rfl rfl (m := 0) rfl ?_
 intro E hP hn hE
 refine qz hP hn ?_
 refine s_op k_as ?_
 refine qx hP hn ?_
 refine o2 ?_
 refine s_op (k_call [] (con := ixb_n B hB hBl)) ?_
 refine s_op (l_bin rfl rfl (b_geq (r := false) (by decide))) ?_
 refine s_op k_as ?_
 refine s_nil trivial (n_wp (w_ret ?_))
 exact d_ret hP hn hE [] (by first | exact r_tmp Tryz.results60 | exact r_tmpa Tryz.results60)

theorem clpg_n (n q : Nat) (g : Nat → Nat → SV) (hn : n ≤ q) : Con Tryz.prog 58 [.s (.gro 0 2 n)] [some ⟨true, [.rows (q) 2 (g)]⟩] (.s (.gro 0 2 n)) [some ⟨true, [.rows (q) 2 (g)]⟩] := by
 refine con_in 9 Tryz.func58 rfl rfl (m := 1) rfl ?_
 intro E hP hn hE
 refine qz hP hn ?_
 refine s_op k_as ?_
 refine qx hP hn ?_
 refine o3 ?_
 refine o2 ?_
 refine s_op k_slc ?_
 refine s_op k_as ?_
 refine s_nil trivial (n_wp (w_ret ?_))
 exact d_ret hP hn hE [0] (by first | exact r_tmp Tryz.results58 | exact r_tmpa Tryz.results58)

theorem pget_y (k : Nat) (M : List Pc) (hw : WfL M) (ok : okP k M) : Con Tryz.prog 36 [.s (.fzi .u8 (encL M))] [] (.tup [.s (PARS M), .s (.int .i64 0)]) [] := by
 refine con_in 75 Tryz.func36 rfl rfl (m := 0) rfl ?_
 intro E hP hn hE
 refine qz hP hn ?_
 refine o2 ?_
 refine s_nil trivial (n_wp ?_)
 refine w_jumps 0 rfl (fun m_ T H => ∃ i, i ≤ M.length ∧ m_ = M.length - i ∧ T = [(0, .s (.fzi .u8 (enF M i))), (2, .s (.gro 0 2 i)), (4, .s (.int .u64 ((lastT M i : Nat) : Int)))] ∧ H = [some ⟨true, [.rows (i) 2 (gP (kpF M))]⟩]) (fun hk_ => ?_) ?_
 · refine w_seq (qz hP hn ?_)
   refine o3 ?_
   refine s_nil trivial (n_wp ?_)
   have htot := ok.tot
   refine w_F rfl ?_ (decide_eq_false (by omega))
   refine w_skip (n_wp (qz hP hn ?_))
   refine s_op k_as ?_
   refine s_nil trivial (n_wp (w_seq ?_))
   refine w_label ?_
   refine n_wp ?_
   refine w_weak (weak_gro 2 2 0 (segs := [.rows 0 2 (gP (kpF M))]) rfl rfl rfl) ?_
   exact j_start hk_ (M.length) ⟨0, by omega, rfl, by rw [enF_0], rfl⟩ (wk hE [0])
 rintro n_ T_ H_ ⟨i, hi, rfl, rfl, rfl⟩
 refine w_seq (qz hP hn ?_)
 refine o3 ?_
 refine s_nil trivial (n_wp ?_)
 refine w_if rfl (fun h_t16 => ?_) (fun h_t16 => ?_)
 · obtain rfl : i = M.length := by
    rcases Nat.lt_or_ge i M.length with h | h
    · have := (rdF h (by have := (hw.get i).1; omega) (by have := ok.bd i h; omega)).len
      have := (up8_le (4 + (M.getD i p0).2.length)).1
      omega
    · omega
   refine qz hP hn ?_
   refine s_op k_mv ?_
   refine s_op (k_call [0] (con := clpg_n M.length M.length (gP (kpF M)) (Nat.le_refl _))) ?_
   refine o2 ?_
   refine s_nil trivial (n_wp ?_)
   refine w_weak (frz_grz 2) ?_
   refine w_ret (r_thn (r_jmp ?_))
   exact d_ret hP hn hE [] (ret2 Tryz.results36 (by first | exact ri_tmp rfl | exact ri_tmpa rfl) (by first | exact ri_tmp rfl | exact ri_tmpa rfl))
 · have hi2 : i < M.length := by
    rcases Nat.lt_or_ge i M.length with h | h
    · exact h
    · obtain rfl : i = M.length := by omega
      rw [enF_n] at h_t16; exact absurd rfl h_t16
   have hb := ok.bd i hi2
   have hup := ok.up i hi2
   have ht := (hw.get i).1
   have hr := rdF hi2 ht (by omega)
   have hel := hr.len
   have hu8 := up8_le (4 + (M.getD i p0).2.length)
   have hn16 := ok.n
   have hUi := enF_u8 (fun p hp => (hw.all p hp).2.1) i
   refine w_skip (n_wp (w_seq (qz hP hn ?_)))
   refine o3 ?_
   refine s_nil trivial (n_wp ?_)
   refine w_F rfl ?_ (decide_eq_false (by omega))
   refine w_skip (n_wp (qz hP hn ?_))
   refine s_op k_mv ?_
   refine s_op (k_call [] (con := get_n (enF M i) 2 (by decide) (by decide) (by omega) hUi) (v := .tup [.s (.int .u64 (((M.getD i p0).1 : Nat) : Int)), .s (.int .i64 0)]) (hv := by rw [hr.ty]; rfl)) ?_
   refine o3 ?_
   refine o2 ?_
   refine qx hP hn ?_
   refine s_op k_mv ?_
   refine s_op k_sl ?_
   refine s_op (k_call [] (con := get_n (((enF M i).drop 2).take ((enF M i).length - 2)) 2 (by decide) (by decide) (by simp; omega) (U8'_take (U8'_drop hUi 2) _)) (v := .tup [.s (.int .u64 (((M.getD i p0).2.length : Nat) : Int)), .s (.int .i64 0)]) (hv := by rw [hr.sz]; rfl)) ?_
   refine o3 ?_
   refine o2 ?_
   refine qx hP hn ?_
   refine o4 ?_
   refine o2 ?_
   refine s_op (k_call [] (con := filled_u (4 + (M.getD i p0).2.length) (by omega))) ?_
   refine o2 ?_
   refine s_nil trivial (n_wp (w_seq (w_block (qz hP hn ?_))))
   refine o3 ?_
   refine o2 ?_
   refine s_nil trivial (n_wp ?_)
   refine w_F rfl ?_ (decide_eq_false (by omega))
   refine qz hP hn ?_
   refine o2 ?_
   refine s_op (l_bin rfl rfl (b_leq (r := false) (decide_eq_false (by omega)))) ?_
   refine s_op k_mv ?_
   refine s_on rfl rfl rfl k_mv ?_
   refine s_on rfl rfl rfl k_mv ?_
   refine s_on rfl rfl rfl k_mv ?_
   refine s_on rfl rfl rfl k_sl ?_
   refine s_on rfl rfl rfl (k_call [] (con := cnb_n (((enF M i).drop (4 + (M.getD i p0).2.length)).take (up8 (4 + (M.getD i p0).2.length) - (4 + (M.getD i p0).2.length))) (fun j _ => by rw [hr.ze, List.getD_eq_getElem?_getD, List.getElem?_replicate]; split <;> rfl) (by rw [hr.ze, List.length_replicate]; omega))) ?_
   refine o2 ?_
   refine s_nil trivial (n_wp ?_)
   refine w_F rfl ?_ 
   refine qz hP hn ?_
   refine o4 ?_
   refine s_nil trivial (n_wp ?_)
   refine w_F rfl ?_ (decide_eq_false (by omega))
   refine w_skip (n_blo (n_wp (qz hP hn ?_)))
   refine o3 ?_
   refine o2 ?_
   refine s_op k_sl ?_
   rw [hr.by_]
   refine s_op (k_call [] (con := clone_c (M.getD i p0).2 (by omega))) ?_
   refine s_op (k_call [] (con := clip_f (M.getD i p0).2)) ?_
   refine s_op k_bd ?_
   refine s_op (k_bsR [PR (M.getD i p0)]) ?_
   refine s_op (k_apr (gP (kpF M)) (hgn := by exact fun a b ha hb => match a, ha with | 0, _ => rfl)) ?_
   refine s_op k_as ?_
   refine s_nil trivial (n_wp (w_seq ?_))
   refine g_any hP hn ?_
   refine o3 ?_
   refine s_op k_sl ?_
   rw [hr.re]
   refine o2 ?_
   refine s_nil (by kernel_rfl) ?_
   refine n_wp ?_
   refine w_goto ?_
   exact j_round (M.length - (i + 1)) (by omega) ⟨i + 1, by omega, rfl, rfl, rfl⟩ (wk hE [2])

end Go.Proofs.X
end

section
set_option maxRecDepth 100000
set_option maxHeartbeats 4000000
open Go Go.Bx Go.Proofs
namespace Go.Proofs.X
attribute [local irreducible] be gN ckS encL enF up8 chk pk0 pkB mayK
theorem clone_g (A : List Int) (h0 : 0 < A.length) (hA : A.length ≤ 1000000) : Con Tryz.prog 34 [.s (.fzi .u8 A)] [] (.s (.gro 0 1 A.length)) [some ⟨true, [.ints .u8 (A.length) (A)]⟩] := by
 refine con_in 8 Tryz.func34 rfl rfl (m := 0) rfl ?_
 intro E hP hn hE
 refine qz hP hn ?_
 refine s_op k_as ?_
 refine s_nil trivial (n_wp (w_seq (qz hP hn ?_)))
 refine s_op k_mv ?_
 refine s_op (k_snf (hl := h0)) ?_
 refine s_nil trivial (n_wp ?_)
 refine w_F rfl ?_ 
 refine w_skip (n_wp (qz hP hn ?_))
 refine s_op (k_bs0 .u8) ?_
 refine s_op k_mv ?_
 refine s_op (k_apg (c := A.length) (l' := A) (hc := by omega) (hl' := by rfl) (hl := by rfl)) ?_
 refine s_op k_as ?_
 refine s_nil trivial (n_wp (w_ret ?_))
 exact d_ret hP hn hE [1] (by first | exact r_tmp Tryz.results34 | exact r_tmpa Tryz.results34)

theorem kg1 (Y Y0 : List Int) (k : Nat) (A B Z : List Int) (hF : PkF Y Y0 k A B Z) (hZ : Z.length ≤ 2008) (hk : mayK k = true) : Con Tryz.prog 28 [.s (.fptr 1 (cellsF [.one (.fzi .u8 Y)]) 0 0)] [] (.s (.bool true)) [] := by
 refine con_in 12 Tryz.func28 rfl rfl (m := 0) rfl ?_
 intro E hP hn hE
 have hlen := hF.len
 have hu := hF.u8
 refine qz hP hn ?_
 refine s_op k_as ?_
 refine qx hP hn ?_
 refine o3 ?_
 refine s_op (l_bin rfl rfl (b_eql (r := true) (decide_eq_true hF.b0))) ?_
 refine s_op k_mv ?_
 refine s_on rfl rfl rfl k_ld ?_
 refine s_on rfl rfl rfl k_ix ?_
 refine s_on rfl rfl rfl k_ld ?_
 rw [hF.b1]
 refine s_on rfl rfl rfl (k_call [] (con := may_c k) (v := .s (.bool true)) (hv := by rw [hk]; rfl)) ?_
 refine o2 ?_
 refine s_nil trivial (n_wp (w_ret ?_))
 exact d_ret hP hn hE [] (by first | exact r_tmp Tryz.results28 | exact r_tmpa Tryz.results28)

theorem kg2 (Y Y0 : List Int) (k : Nat) (A B Z : List Int) (hF : PkF Y Y0 k A B Z) (hZ : Z.length ≤ 2008) : Con Tryz.prog 30 [.s (.fptr 1 (cellsF [.one (.fzi .u8 Y)]) 0 0)] [] (.s (.bool true)) [] := by
 refine con_in 15 Tryz.func30 rfl rfl (m := 0) rfl ?_
 intro E hP hn hE
 have hlen := hF.len
 have hu := hF.u8
 refine qz hP hn ?_
 refine s_op k_as ?_
 refine qx hP hn ?_
 refine s_op k_ld ?_
 refine s_op k_sl ?_
 refine s_op (k_call [] (con := get_n ((Y.drop 2).take (Y.length - 2)) 2 (by decide) (by decide) (by simp; omega) (U8'_take (U8'_drop hu 2) _)) (v := .tup [.s (.int .u64 ((Y.length : Nat) : Int)), .s (.int .i64 0)]) (hv := by rw [hF.sz]; rfl)) ?_
 refine o3 ?_
 refine o2 ?_
 refine qx hP hn ?_
 refine o4 ?_
 refine s_op (l_bin rfl rfl (b_eql (r := true) (decide_eq_true rfl))) ?_
 refine s_op k_as ?_
 refine s_nil trivial (n_wp (w_ret ?_))
 exact d_ret hP hn hE [] (by first | exact r_tmp Tryz.results30 | exact r_tmpa Tryz.results30)

theorem kg3 (Y Y0 : List Int) (k : Nat) (A B Z : List Int) (hF : PkF Y Y0 k A B Z) (hZ : Z.length ≤ 2008) : Con Tryz.prog 32 [.s (.fptr 1 (cellsF [.one (.fzi .u8 Y)]) 0 0)] [] (.s (.bool true)) [] := by
 refine con_in 12 Tryz.func32 rfl rfl (m := 0) rfl ?_
 intro E hP hn hE
 have hlen := hF.len
 have hu := hF.u8
 refine qz hP hn ?_
 refine s_op k_as ?_
 refine qx hP hn ?_
 refine o3 ?_
 refine s_op (l_bin rfl rfl (b_eql (r := true) (decide_eq_true hF.b6))) ?_
 refine s_op k_mv ?_
 refine s_on rfl rfl rfl k_ld ?_
 refine s_on rfl rfl rfl k_ix ?_
 refine s_on rfl rfl rfl k_ld ?_
 refine s_on rfl rfl rfl (l_bin rfl rfl (b_eql (r := true) (decide_eq_true hF.b7))) ?_
 refine o2 ?_
 refine s_nil trivial (n_wp (w_ret ?_))
 exact d_ret hP hn hE [] (by first | exact r_tmp Tryz.results32 | exact r_tmpa Tryz.results32)

theorem kg4 (Y Y0 : List Int) (k : Nat) (A B Z : List Int) (hF : PkF Y Y0 k A B Z) (hZ : Z.length ≤ 2008) : Con Tryz.prog 33 [.s (.fptr 1 (cellsF [.one (.fzi .u8 Y)]) 0 0)] [] (.s (.bool true)) [] := by
 refine con_in 22 Tryz.func33 rfl rfl (m := 0) rfl ?_
 intro E hP hn hE
 have hlen := hF.len
 have hu := hF.u8
 have hc := chk_lt Y0
 have hl0 : Y0.length = Y.length := by rw [← hF.cl]; simp
 refine qz hP hn ?_
 refine s_op k_as ?_
 refine qx hP hn ?_
 refine s_op k_ld ?_
 refine s_op (k_call [] (con := clone_g Y (by omega) (by omega))) ?_
 refine s_op k_as ?_
 refine qx hP hn ?_
 refine o3 ?_
 refine s_st k_st ?_
 refine s_op k_ix ?_
 refine s_st k_st ?_
 refine qx hP hn ?_
 refine s_op k_ld ?_
 refine s_op k_sl ?_
 refine s_op (k_call [] (con := get_n ((Y.drop 4).take (Y.length - 4)) 2 (by decide) (by decide) (by simp; omega) (U8'_take (U8'_drop hu 4) _)) (v := .tup [.s (.int .u64 ((chk Y0 : Nat) : Int)), .s (.int .i64 0)]) (hv := by rw [hF.ck]; rfl)) ?_
 refine o3 ?_
 refine o2 ?_
 refine s_nil trivial (n_wp (w_seq ?_))
 refine w_weak (frz_gro 2 (l' := Y0) (hn := Nat.le_refl _) (hl := by simp) (hl' := by rw [hF.cl]; exact List.take_of_length_le (by omega))) ?_
 refine g_reg hP hn ?_
 refine o3 ?_
 refine s_op (k_call [] (con := check2_n Y0 hF.u0 (by omega))) ?_
 refine s_op (l_bin rfl rfl (b_eql (r := true) (decide_eq_true rfl))) ?_
 refine s_op k_as ?_
 refine s_nil trivial (n_wp (w_ret ?_))
 exact d_ret hP hn hE [] (by first | exact r_tmp Tryz.results33 | exact r_tmpa Tryz.results33)

end Go.Proofs.X
end
