/- A part of the proofs of this claim: BByte1 (BByte1). No conditions. -/
import Derived.Test.YthjccanlmhbecaaBMac2
import Derived.Test.YthjccanlmhbecaaBAes4
import Derived.Test.YthjccanlmhbecaaBSealT
import Derived.Test.YthjccanlmhbecaaBxE
set_option linter.unusedVariables false
set_option linter.unusedSimpArgs false
open Go Go.Bx Go.Proofs
namespace Go.Proofs.X
set_option maxRecDepth 100000 in
set_option maxHeartbeats 4000000 in
theorem first_c (B : List Int) (h : 13 ≤ B.length) : Con Try.prog 23 [.s (.fzi .u8 B)] [] (.agg [.ints .u8 16 (spl (z 16) ((B.drop 1).take 12) 0 12 16)]) [] := by
 refine con_in 8 Try.func23 rfl rfl (m := 0) rfl ?_
 intro E hP hn hE
 refine w_seq ?_
 refine g_reg hP hn ?_
 refine s_op k_al ?_
 refine s_nil trivial ?_
 refine n_wp ?_
 refine w_seq ?_
 refine g_any hP hn ?_
 refine s_op k_sl ?_
 refine s_op k_mv ?_
 refine s_op k_sl ?_
 refine s_op (k_cpn 12 (hn := by simp; omega)) ?_
 refine s_nil (by kernel_rfl) ?_
 refine n_wp ?_
 refine w_seq ?_
 refine g_reg hP hn ?_
 refine s_op k_ld ?_
 refine s_st k_st ?_
 refine s_nil trivial ?_
 refine n_wp ?_
 refine w_ret ?_
 exact d_ret hP hn hE [] (r_cell Try.results23)

theorem put_n (B : List Int) (v n : Nat) (hn0 : 0 < n) (hn8 : n ≤ 8) (hv : v < 18446744073709551616) (hB : B.length ≤ 140737488355000) : Con Try.prog 21 [.s (.fzi .u8 B), .s (.int .u64 ((v : Nat) : Int)), .s (.int .i64 ((n : Nat) : Int))] [] (.s (.fzi .u8 (B ++ be n v))) [] := by
 have h := put_c B ((v : Nat) : Int) n hn8 hB
 rw [Nat.mul_one, rowL_1 B n v hn0 hv] at h
 exact h
theorem get_n (B : List Int) (m : Nat) (h0 : 0 < m) (h8 : m ≤ 8) (hm : m ≤ B.length) (hU : U8' B) : Con Try.prog 25 [.s (.fzi .u8 B), .s (.int .i64 ((m : Nat) : Int))] [] (.tup [.s (.int .u64 ((gN B m : Nat) : Int)), .s (.int .i64 0)]) [] := by
 have h := get_c B m h0 h8 hm
 rw [getI_n hU m h8 hm] at h
 exact h
theorem mac_b (K : List Int) (L : List (List Int)) (hK0 : 0 < K.length) (hK : K.length ≤ 64) (hL : L.length ≤ 1000000) (hl : L.flatten.length < 4611686018427380000) : Con Try.prog 24 [.s (.fzi .u8 K), .s (ROWS L)] [] (.agg [.ints .u8 32 (hmB K L.flatten)]) [] := mac_c K L hK0 hK hL hl
theorem mac_1 (K A : List Int) (hK : K.length = 32) (hl : A.length < 4611686018427380000) : Con Try.prog 24 [.s (.fzi .u8 K), .s (ROWS [A])] [] (.agg [.ints .u8 32 (hmB K A)]) [] := by
 have h := mac_b K [A] (by omega) (by omega) (Nat.le_of_ble_eq_true rfl) (by simpa using hl)
 rwa [show [A].flatten = A by simp] at h
theorem first_b (B : List Int) (h : 13 ≤ B.length) : Con Try.prog 23 [.s (.fzi .u8 B)] [] (.agg [.ints .u8 16 (fiB B)]) [] := by
 have h := first_c B h
 rwa [show (B.drop 1).take 12 = ((B.drop 1).take 12).take 12 by rw [take_same]] at h

end Go.Proofs.X
