/- A part of the proofs of this claim: BSeal2, Bx51, BSlsT, BKmt1, BRef1, BRef2, BRef3, BStrT, BStr1, BStr2, BSls1, BSls2, BStr3. No conditions. -/
import Derived.Test.YtokgpammicpahaaGreatDoorS7
import Derived.Test.YtokgpammicpahaaGreatDoorS6
import Derived.Test.YtokgpammicpahaaGreatDoorS5
set_option linter.unusedVariables false
set_option linter.unusedSimpArgs false
section
set_option maxRecDepth 100000
set_option maxHeartbeats 4000000
open Go Go.Bx Go.Proofs
namespace Go.Proofs.X
attribute [local irreducible] hmB streamI seal1 sealB ahB be fiB hmO tk
set_option maxHeartbeats 1000000 in
theorem seal_m (M C B : List Int) (l n : Nat) (hM : M.length = 32) (hC : C.length = 16) (hC8 : U8 C) (hl : l < 4294967296) (hn64 : n < 18446744073709551616) (h : B.length ≤ 2019) : Con Tryz.prog 20 [.agg [.ints .u8 32 M, .ints .u8 16 C], .s (.int .u32 ((l : Nat) : Int)), .s (.int .u64 ((n : Nat) : Int)), .s (.fzi .u8 B)] [] (.tup [.s (.slice 0 0 0 (29 + B.length) (29 + B.length)), .s (.int .i64 0)]) [some ⟨true, [.ints .u8 (29 + B.length) (sealB M C l n B)]⟩] := by
 refine con_in 58 Tryz.func20 rfl rfl (m := 0) rfl ?_
 intro E hP hn hE
 refine qz hP hn ?_
 refine s_op k_bxf ?_
 refine o2 ?_
 refine s_nil trivial (n_wp (w_seq (qz hP hn ?_)))
 refine o3 ?_
 refine s_nil trivial (n_wp ?_)
 refine w_F rfl ?_ 
 refine w_skip (n_wp (qz hP hn ?_))
 refine s_op k_bsf ?_
 refine o2 ?_
 refine s_op (k_call [] (con := put_n [9] l 4 (by decide) (by decide) (by omega) (by decide))) ?_
 refine s_op k_mv ?_
 refine s_op (k_call [] (con := put_n ([9] ++ be 4 l) n 8 (by decide) (by decide) hn64 (by simp [be_len]))) ?_
 refine s_op k_as ?_
 refine qx hP hn ?_
 refine o3 ?_
 refine s_op k_mk ?_
 refine s_op k_as ?_
 refine qx hP hn ?_
 refine o2 ?_
 refine s_op (k_cpg 13 (hn := by simp [be_len]; omega)) ?_
 refine s_nil trivial (n_wp (w_seq ?_))
 rw [ahB_def, so1_eq l n B]
 refine g_any hP hn ?_
 refine s_op k_mv ?_
 refine s_op k_sl ?_
 refine o3 ?_
 refine s_op (k_call [] (con := first_b (ahB l n) (by rw [ahB_len]; omega))) ?_
 refine s_op k_mv ?_
 refine s_op (k_call [] (con := stream_c C (fiB (ahB l n)) B hC8 (fiB_len _) (U8_fiB (U8_ahB _ _)) (by omega))) ?_
 refine s_op (k_cpg B.length (hn := by rw [streamI_len]; omega) (hxl := by simp [ahB_len]; omega)) ?_
 refine s_nil (by kernel_rfl) ?_
 refine n_wp (w_seq ?_)
 rw [so2_eq C l n B]
 refine g_any hP hn ?_
 refine s_op k_fa ?_
 refine s_op k_slp ?_
 refine o4 ?_
 refine o3 ?_
 refine s_op k_sl ?_
 refine s_op (k_bsS [.slice 2 0 0 (13 + B.length) (13 + B.length)]) ?_
 have hcv : AConv [3, 2] [none, none, some ⟨false, [.ints .u8 (29 + B.length) (seal1 C l n B ++ List.replicate 16 0)]⟩, some ⟨false, [.one (.slice 2 0 0 (13 + B.length) (13 + B.length))]⟩] (.s (.slice 3 0 0 1 1)) (.s (ROWS [seal1 C l n B])) := conv_rows1 rfl rfl rfl (conv_sl (l' := seal1 C l n B) rfl rfl rfl (by omega) (by omega) (by simp [seal1_len]; omega) (so_take C l n B)) rfl rfl
 refine s_op (k_tmp 2 (h := k_tmp 3 (h := k_call [] (R := [3, 2]) (hargs := by exact .cons (R1 := []) (R2 := [3, 2]) rfl .same (.cons (R1 := [3, 2]) (R2 := []) rfl hcv .nil)) (con := mac_1 M (seal1 C l n B) hM (by rw [seal1_len]; omega))))) ?_
 refine s_op k_al ?_
 refine s_st k_st ?_
 refine s_nil (by kernel_rfl) ?_
 refine n_wp (w_seq ?_)
 refine w_weak (frz_ptr 12 32) ?_
 refine g_any hP hn ?_
 refine o4 ?_
 refine s_op k_sl ?_
 refine s_op (k_slph 16 (hxl := hmB_len _ _)) ?_
 refine s_op (k_cpg 16 (hn := by simp [hmB_len]; omega) (hxl := by simp [seal1_len]; omega)) ?_
 refine s_nil (by kernel_rfl) ?_
 refine n_wp (w_seq ?_)
 rw [so3_eq C l n B _ (hmB_len _ _)]
 rw [← sealB_def]
 refine g_reg hP hn ?_
 refine o3 ?_
 refine s_nil trivial (n_wp (w_ret ?_))
 exact d_ret hP hn hE [2] (ret2 Tryz.results20 (by first | exact ri_tmp rfl | exact ri_tmpa rfl) (by first | exact ri_tmp rfl | exact ri_tmpa rfl))

set_option maxHeartbeats 1000000 in
theorem open_m (M C B : List Int) (hM : M.length = 32) (hC : C.length = 16) (hC8 : U8 C) (hU : U8' B) (h29 : 29 ≤ B.length) (h2 : B.length ≤ 2048) (h9 : B.getD 0 0 = 9) (hmac : (hmB M (B.take (B.length - 16))).take 16 = B.drop (B.length - 16)) (hb0 : 0 < (bodyB B).length) : Con Tryz.prog 22 [.agg [.ints .u8 32 M, .ints .u8 16 C], .s (.fzi .u8 B)] [] (.tup [.s (.int .u32 ((laneB B : Nat) : Int)), .s (.int .u64 ((numB B : Nat) : Int)), .s (.slice 0 0 0 (bodyB B).length (bodyB B).length), .s (.int .i64 0)]) [some ⟨true, [.ints .u8 (bodyB B).length (streamI C (fiB B) (bodyB B))]⟩] := by
 refine con_in 52 Tryz.func22 rfl rfl (m := 0) rfl ?_
 intro E hP hn hE
 have hmac1 := mac_form M B hmac
 have hget8 := get_n ((B.drop 5).take (B.length - 5)) 8 (by decide) (by decide) (by simp; omega) (U8'_take (U8'_drop hU 5) _)
 rw [show gN ((B.drop 5).take (B.length - 5)) 8 = numB B by rw [List.take_of_length_le (by simp)]; rfl] at hget8
 refine qz hP hn ?_
 refine s_op k_bxf ?_
 refine o4 ?_
 refine s_nil trivial (n_wp (w_seq (qz hP hn ?_)))
 refine s_op k_mv ?_
 refine s_op (k_call [] (con := lane_n B h29 h2 h9 hU)) ?_
 refine o3 ?_
 refine o2 ?_
 refine qx hP hn ?_
 refine o2 ?_
 refine s_nil trivial (n_wp ?_)
 refine w_F rfl ?_ 
 refine w_skip (n_wp (qz hP hn ?_))
 refine o4 ?_
 refine s_nil trivial (n_wp (w_seq ?_))
 refine g_any hP hn ?_
 refine s_op k_fa ?_
 refine s_op k_slp ?_
 refine o3 ?_
 refine s_op k_sl ?_
 refine s_op (k_bsz [.fzi .u8 ((B.drop 0).take (B.length - 16))]) ?_
 refine s_op (k_call [] (con := mac_1 M ((B.drop 0).take (B.length - 16)) hM (by simp; omega))) ?_
 refine s_op k_al ?_
 refine s_st k_st ?_
 refine s_nil (by kernel_rfl) ?_
 refine n_wp (w_seq (w_seq ?_))
 refine w_weak (frz_ptr 9 32) ?_
 refine g_any hP hn ?_
 refine s_op (k_slph 16 (hxl := hmB_len _ _)) ?_
 refine o2 ?_
 refine s_op k_sl ?_
 refine s_op (k_call [] (con := same_ok _ _ hmac1 (by rw [List.length_take, hmB_len]; omega))) ?_
 refine s_op k_not ?_
 refine s_nil (by kernel_rfl) ?_
 refine n_wp ?_
 refine w_F rfl ?_ 
 refine w_skip (n_wp (qz hP hn ?_))
 refine s_op k_mv ?_
 refine s_op k_sl ?_
 refine s_op (k_call [] (con := hget8)) ?_
 refine o4 ?_
 refine s_nil trivial (n_wp (w_seq ?_))
 refine g_any hP hn ?_
 refine o3 ?_
 refine o2 ?_
 refine s_op (k_call [] (con := first_b B (by omega))) ?_
 refine o3 ?_
 refine s_op k_sl ?_
 refine s_op (k_call [] (con := streamM_c C (fiB B) (bodyB B) hC8 (fiB_len _) (U8_fiB hU) hb0 (by simp [bodyB]; omega))) ?_
 refine o4 ?_
 refine s_nil (by kernel_rfl) ?_
 refine n_wp (w_ret ?_)
 exact d_ret hP hn hE [3] (ret4 Tryz.results22 (by first | exact ri_tmp rfl | exact ri_tmpa rfl) (by first | exact ri_tmp rfl | exact ri_tmpa rfl) (by first | exact ri_tmp rfl | exact ri_tmpa rfl) (by first | exact ri_tmp rfl | exact ri_tmpa rfl))

set_option maxHeartbeats 1000000 in
theorem open_0 (M C B : List Int) (hM : M.length = 32) (hC : C.length = 16) (hC8 : U8 C) (hU : U8' B) (h29 : 29 ≤ B.length) (h2 : B.length ≤ 2048) (h9 : B.getD 0 0 = 9) (hmac : (hmB M (B.take (B.length - 16))).take 16 = B.drop (B.length - 16)) (hb0 : bodyB B = []) : Con Tryz.prog 22 [.agg [.ints .u8 32 M, .ints .u8 16 C], .s (.fzi .u8 B)] [] (.tup [.s (.int .u32 ((laneB B : Nat) : Int)), .s (.int .u64 ((numB B : Nat) : Int)), .s .nils, .s (.int .i64 0)]) [] := by
 refine con_in 52 Tryz.func22 rfl rfl (m := 0) rfl ?_
 intro E hP hn hE
 have hmac1 := mac_form M B hmac
 have hget8 := get_n ((B.drop 5).take (B.length - 5)) 8 (by decide) (by decide) (by simp; omega) (U8'_take (U8'_drop hU 5) _)
 rw [show gN ((B.drop 5).take (B.length - 5)) 8 = numB B by rw [List.take_of_length_le (by simp)]; rfl] at hget8
 refine qz hP hn ?_
 refine s_op k_bxf ?_
 refine o4 ?_
 refine s_nil trivial (n_wp (w_seq (qz hP hn ?_)))
 refine s_op k_mv ?_
 refine s_op (k_call [] (con := lane_n B h29 h2 h9 hU)) ?_
 refine o3 ?_
 refine o2 ?_
 refine qx hP hn ?_
 refine o2 ?_
 refine s_nil trivial (n_wp ?_)
 refine w_F rfl ?_ 
 refine w_skip (n_wp (qz hP hn ?_))
 refine o4 ?_
 refine s_nil trivial (n_wp (w_seq ?_))
 refine g_any hP hn ?_
 refine s_op k_fa ?_
 refine s_op k_slp ?_
 refine o3 ?_
 refine s_op k_sl ?_
 refine s_op (k_bsz [.fzi .u8 ((B.drop 0).take (B.length - 16))]) ?_
 refine s_op (k_call [] (con := mac_1 M ((B.drop 0).take (B.length - 16)) hM (by simp; omega))) ?_
 refine s_op k_al ?_
 refine s_st k_st ?_
 refine s_nil (by kernel_rfl) ?_
 refine n_wp (w_seq (w_seq ?_))
 refine w_weak (frz_ptr 9 32) ?_
 refine g_any hP hn ?_
 refine s_op (k_slph 16 (hxl := hmB_len _ _)) ?_
 refine o2 ?_
 refine s_op k_sl ?_
 refine s_op (k_call [] (con := same_ok _ _ hmac1 (by rw [List.length_take, hmB_len]; omega))) ?_
 refine s_op k_not ?_
 refine s_nil (by kernel_rfl) ?_
 refine n_wp ?_
 refine w_F rfl ?_ 
 refine w_skip (n_wp (qz hP hn ?_))
 refine s_op k_mv ?_
 refine s_op k_sl ?_
 refine s_op (k_call [] (con := hget8)) ?_
 refine o4 ?_
 refine s_nil trivial (n_wp (w_seq ?_))
 refine g_any hP hn ?_
 refine o3 ?_
 refine o2 ?_
 refine s_op (k_call [] (con := first_b B (by omega))) ?_
 refine o3 ?_
 refine s_op k_sl ?_
 refine s_op (k_call [] (con := streamE_c C (fiB B)) (hargs := by exact .cons rfl cv (.cons rfl cv (.cons rfl (.eq (congrArg (fun l => AV.s (.fzi .u8 l)) hb0)) .nil)))) ?_
 refine o4 ?_
 refine s_nil (by kernel_rfl) ?_
 refine n_wp (w_ret ?_)
 exact d_ret hP hn hE [] (ret4 Tryz.results22 (by first | exact ri_tmp rfl | exact ri_tmpa rfl) (by first | exact ri_tmp rfl | exact ri_tmpa rfl) (by first | exact ri_tmp rfl | exact ri_tmpa rfl) (by first | exact ri_tmp rfl | exact ri_tmpa rfl))

set_option maxHeartbeats 1000000 in
theorem open_bad (M C B : List Int) (hM : M.length = 32) (hC : C.length = 16) (hC8 : U8 C) (hU : U8' B) (h29 : 29 ≤ B.length) (h2 : B.length ≤ 2048) (h9 : B.getD 0 0 = 9) (hmac : ¬ (hmB M (B.take (B.length - 16))).take 16 = B.drop (B.length - 16))  : Con Tryz.prog 22 [.agg [.ints .u8 32 M, .ints .u8 16 C], .s (.fzi .u8 B)] [] (.tup [.s (.int .u32 0), .s (.int .u64 0), .s .nils, .s (.int .i64 11)]) [] := by
 refine con_in 52 Tryz.func22 rfl rfl (m := 0) rfl ?_
 intro E hP hn hE
 have hl16 : ((hmB M ((B.drop 0).take (B.length - 16))).take 16).length = ((B.drop (B.length - 16)).take (B.length - (B.length - 16))).length := by rw [List.length_take, hmB_len, List.length_take, List.length_drop]; omega
 have hmo : mo ((hmB M ((B.drop 0).take (B.length - 16))).take 16) ((B.drop (B.length - 16)).take (B.length - (B.length - 16))) ((hmB M ((B.drop 0).take (B.length - 16))).take 16).length ≠ 0 := fun e => hmac (by
   have q := mo_eq _ _ hl16 (U8'_take (U8'_hmB _ _ (by simp; omega)) _) (U8'_take (U8'_drop hU _) _) e
   rwa [List.drop_zero, List.take_of_length_le (l := B.drop (B.length - 16)) (by simp)] at q)
 refine qz hP hn ?_
 refine s_op k_bxf ?_
 refine o4 ?_
 refine s_nil trivial (n_wp (w_seq (qz hP hn ?_)))
 refine s_op k_mv ?_
 refine s_op (k_call [] (con := lane_n B h29 h2 h9 hU)) ?_
 refine o3 ?_
 refine o2 ?_
 refine qx hP hn ?_
 refine o2 ?_
 refine s_nil trivial (n_wp ?_)
 refine w_F rfl ?_ 
 refine w_skip (n_wp (qz hP hn ?_))
 refine o4 ?_
 refine s_nil trivial (n_wp (w_seq ?_))
 refine g_any hP hn ?_
 refine s_op k_fa ?_
 refine s_op k_slp ?_
 refine o3 ?_
 refine s_op k_sl ?_
 refine s_op (k_bsz [.fzi .u8 ((B.drop 0).take (B.length - 16))]) ?_
 refine s_op (k_call [] (con := mac_1 M ((B.drop 0).take (B.length - 16)) hM (by simp; omega))) ?_
 refine s_op k_al ?_
 refine s_st k_st ?_
 refine s_nil (by kernel_rfl) ?_
 refine n_wp (w_seq (w_seq ?_))
 refine w_weak (frz_ptr 9 32) ?_
 refine g_any hP hn ?_
 refine s_op (k_slph 16 (hxl := hmB_len _ _)) ?_
 refine o2 ?_
 refine s_op k_sl ?_
 refine s_op (k_call [] (con := same_no _ _ hl16 (by rw [List.length_take, hmB_len]; omega) hmo)) ?_
 refine s_op k_not ?_
 refine s_nil (by kernel_rfl) ?_
 refine n_wp ?_
 refine w_T rfl ?_ 
 refine qz hP hn ?_
 refine o4 ?_
 refine s_nil trivial (n_wp (w_ret (r_thn ?_)))
 exact d_ret hP hn hE [] (ret4 Tryz.results22 (by first | exact ri_tmp rfl | exact ri_tmpa rfl) (by first | exact ri_tmp rfl | exact ri_tmpa rfl) (by first | exact ri_tmp rfl | exact ri_tmpa rfl) (by first | exact ri_tmp rfl | exact ri_tmpa rfl))

set_option maxHeartbeats 1000000 in
theorem open_long (M C B : List Int) (h : 2048 < B.length) : Con Tryz.prog 22 [.agg [.ints .u8 32 M, .ints .u8 16 C], .s (.fzi .u8 B)] [] (.tup [.s (.int .u32 0), .s (.int .u64 0), .s .nils, .s (.int .i64 3)]) [] := by
 refine con_in 52 Tryz.func22 rfl rfl (m := 0) rfl ?_
 intro E hP hn hE
 refine qz hP hn ?_
 refine s_op k_bxf ?_
 refine o4 ?_
 refine s_nil trivial (n_wp (w_seq (qz hP hn ?_)))
 refine s_op k_mv ?_
 refine s_op (k_call [] (con := lane_long_c B h)) ?_
 refine o3 ?_
 refine o2 ?_
 refine qx hP hn ?_
 refine o2 ?_
 refine s_nil trivial (n_wp ?_)
 refine w_T rfl ?_ 
 refine qz hP hn ?_
 refine o3 ?_
 refine o2 ?_
 refine s_nil trivial (n_wp (w_ret (r_thn ?_)))
 exact d_ret hP hn hE [] (ret4 Tryz.results22 (by first | exact ri_tmp rfl | exact ri_tmpa rfl) (by first | exact ri_tmp rfl | exact ri_tmpa rfl) (by first | exact ri_tmp rfl | exact ri_tmpa rfl) (by first | exact ri_tmp rfl | exact ri_tmpa rfl))

set_option maxHeartbeats 1000000 in
theorem open_short (M C B : List Int) (h : B.length < 29) : Con Tryz.prog 22 [.agg [.ints .u8 32 M, .ints .u8 16 C], .s (.fzi .u8 B)] [] (.tup [.s (.int .u32 0), .s (.int .u64 0), .s .nils, .s (.int .i64 5)]) [] := by
 refine con_in 52 Tryz.func22 rfl rfl (m := 0) rfl ?_
 intro E hP hn hE
 refine qz hP hn ?_
 refine s_op k_bxf ?_
 refine o4 ?_
 refine s_nil trivial (n_wp (w_seq (qz hP hn ?_)))
 refine s_op k_mv ?_
 refine s_op (k_call [] (con := lane_short_c B h)) ?_
 refine o3 ?_
 refine o2 ?_
 refine qx hP hn ?_
 refine o2 ?_
 refine s_nil trivial (n_wp ?_)
 refine w_T rfl ?_ 
 refine qz hP hn ?_
 refine o3 ?_
 refine o2 ?_
 refine s_nil trivial (n_wp (w_ret (r_thn ?_)))
 exact d_ret hP hn hE [] (ret4 Tryz.results22 (by first | exact ri_tmp rfl | exact ri_tmpa rfl) (by first | exact ri_tmp rfl | exact ri_tmpa rfl) (by first | exact ri_tmp rfl | exact ri_tmpa rfl) (by first | exact ri_tmp rfl | exact ri_tmpa rfl))

set_option maxHeartbeats 1000000 in
theorem open_form (M C B : List Int) (h : 29 ≤ B.length) (h2 : B.length ≤ 2048) (h9 : B.getD 0 0 ≠ 9) : Con Tryz.prog 22 [.agg [.ints .u8 32 M, .ints .u8 16 C], .s (.fzi .u8 B)] [] (.tup [.s (.int .u32 0), .s (.int .u64 0), .s .nils, .s (.int .i64 4)]) [] := by
 refine con_in 52 Tryz.func22 rfl rfl (m := 0) rfl ?_
 intro E hP hn hE
 refine qz hP hn ?_
 refine s_op k_bxf ?_
 refine o4 ?_
 refine s_nil trivial (n_wp (w_seq (qz hP hn ?_)))
 refine s_op k_mv ?_
 refine s_op (k_call [] (con := lane_form_c B h h2 h9)) ?_
 refine o3 ?_
 refine o2 ?_
 refine qx hP hn ?_
 refine o2 ?_
 refine s_nil trivial (n_wp ?_)
 refine w_T rfl ?_ 
 refine qz hP hn ?_
 refine o3 ?_
 refine o2 ?_
 refine s_nil trivial (n_wp (w_ret (r_thn ?_)))
 exact d_ret hP hn hE [] (ret4 Tryz.results22 (by first | exact ri_tmp rfl | exact ri_tmpa rfl) (by first | exact ri_tmp rfl | exact ri_tmpa rfl) (by first | exact ri_tmp rfl | exact ri_tmpa rfl) (by first | exact ri_tmp rfl | exact ri_tmpa rfl))

end Go.Proofs.X
end

section
/- What has grown, as a string, and put behind what has grown; strings compared. No program. -/
namespace Go.Bx
theorem strNums_eq {A B : List Int} (hl : A.length = B.length) (hA : ∀ i, 0 ≤ A.getD i 0 ∧ A.getD i 0 < 256) (hB : ∀ i, 0 ≤ B.getD i 0 ∧ B.getD i 0 < 256) : ((strOfNums A).toList == (strOfNums B).toList) = decide (A = B) := by
  by_cases h : A = B
  · subst h; simp
  · rw [decide_eq_false h]
    refine beq_eq_false_iff_ne.2 fun e => h ?_
    have e2 : (strOfNums A).data.toList = (strOfNums B).data.toList := by
      rwa [ByteArray.toList_eq, ByteArray.toList_eq] at e
    rw [strOfNums_data, strOfNums_data] at e2
    apply List.ext_getElem hl
    intro i h1 h2
    have e3 : (A.map fun n => UInt8.ofNat n.toNat)[i]'(by simpa using h1) = (B.map fun n => UInt8.ofNat n.toNat)[i]'(by simpa using h2) := by simp only [e2]
    simp only [List.getElem_map] at e3
    have a1 := hA i
    have b1 := hB i
    rw [List.getD_eq_getElem?_getD, List.getElem?_eq_getElem h1] at a1
    rw [List.getD_eq_getElem?_getD, List.getElem?_eq_getElem h2] at b1
    simp only [Option.getD_some] at a1 b1
    have e4 := congrArg UInt8.toNat e3
    rw [UInt8.toNat_ofNat', UInt8.toNat_ofNat'] at e4
    omega
section
variable {P : Program} {T : Tm} {H : Heap} {d : Option Tmp} {ty : TypeId} {pos : String} {af : Array Edge} {g : Option (Nat × Bool)}
theorem k_strg {t ts e : TypeId} {x : Operand} {id n : Nat} {bb : Bool} {A : List Int} [hu : Und P t (.slice e)] [he : Und P e (.int .u8)] [hd : Und P ts .string] (hx : ev T x = .s (.gro id 1 n) := by rfl) (hb : hget H id = some ⟨bb, [.ints .u8 n A]⟩ := by rfl) (hl : A.length = n := by first | assumption | omega | simp [*]) : LOk P ⟨d, .convert t ts x, ty, pos, af, g⟩ T H H (.s (.val (.string (strOfNums A)))) [id] [] :=
  lok_read [id] (fun i hi => by simp at hi; subst hi; exact hget_lt hb) fun H0 hl0 hg0 => .pure fun W ρ a w hH ho => by
    have h1 := one (op := .convert t ts x) rfl ho hx
    have hr : (convert t ts (a.eval x)).run P w = .ok (.string (strOfNums A)) w := by
      rcases h1 with ⟨hn, h1⟩ | ⟨b, o, c, q, h1, h2, h3, _⟩
      · rw [h1]
        have : A = [] := List.length_eq_zero_iff.1 (hl.trans hn)
        subst this
        have := run_convert_bytes_nil (P := P) w t e hu.h he.h 0 0 ts hd.h
        rw [this]
        rfl
      · rw [h2]
        obtain ⟨⟨cells, tt, fr, g1, _, _, g4⟩, _⟩ := hH.rep id b o _ h1 ((hg0 id (by simp)).trans hb)
        exact run_convert_bytes_arg (P := P) w t e hu.h he.h b o n c A hl (fun i hi => by
          obtain ⟨v, hv, hc⟩ := g4 i (.int .u8 (A.getD i 0)) (by
            have hs : (Seg.ints .u8 n A).size = n := rfl
            simp only [atS]; rw [if_pos (by rw [hs]; exact hi)]; rfl)
          have hv' : v = .int .u8 (A.getD i 0) := hc.1
          subst hv'
          simp only [World.cell?, g1]
          simp [hv]) ts hd.h
    exact ⟨.string (strOfNums A), by simp [execOp, hr], rfl, rfl⟩
theorem k_sneq (r : Bool) {t tyy : TypeId} {x y : Operand} {p q : ByteArray} (hr : (!(p.toList == q.toList)) = r) (hx : ev T x = .s (.val (.string p)) := by rfl) (hy : ev T y = .s (.val (.string q)) := by rfl) : LOk P ⟨d, .binOp .neq t x y tyy, ty, pos, af, g⟩ T H H (.s (.bool r)) [] [] :=
  lok_pure fun ρ a w ho => by
    obtain ⟨h1, h2⟩ := two (op := .binOp .neq t x y tyy) rfl ho hx hy
    simp only [AV.rep] at h1 h2
    refine ⟨.bool r, ?_, rfl⟩
    subst hr
    simp [execOp, h1.1, h2.1, eqGuard, binOp_string_neq]
theorem k_apgg {x y : Operand} {t tx e rt : TypeId} {id id2 n m c n0 : Nat} {b2 : Bool} {k : IntKind} {l l2 l' : List Int} {inf : TypeInfo} {z : Value} {H1 H' : Heap} [hu : Und P t (.slice e)] [hux : Und P tx (.slice e)] [hi : Inf P e inf] [hN : LenN H n0] (hx : ev T x = .s (.gro id 1 n) := by rfl) (hy : ev T y = .s (.gro id2 1 m) := by rfl) (hb : hget H id = some ⟨true, [.ints k n l]⟩ := by rfl) (hb2 : hget H id2 = some ⟨b2, [.ints k m l2]⟩ := by rfl) (hl : l.length = n := by first | assumption | omega | simp [*]) (hsz : inf.size = 1 := by exact rfl) (hz : inf.zero = some z := by exact rfl) (hzs : z.cells.size = 1 := by exact rfl) (hc : n + m = c := by rfl) (hl' : l ++ l2 = l' := by rfl) (hbig : n + m ≤ 1000000 := by omega) (hbb : Nat.ble (1000000 * inf.bytes) 140737488355328 = true := by exact rfl) (hb1 : 0 < inf.bytes := by exact Nat.le_of_ble_eq_true rfl) (hH1 : H.set id none = H1 := by repeat (first | exact hset_0 | apply hset_s)) (hH : H1 ++ [some (Blk.mk true [.ints k c l'])] = H' := by repeat (first | exact happ_0 | apply happ_s)) :
    LOk P ⟨d, .call ⟨.builtin .append, #[x, y], #[t, tx]⟩, rt, pos, af, g⟩ T H H' (.s (.gro n0 1 c)) [id, id2] [id] := by
  subst hc; subst hl'; subst hH1
  refine a_app (sub := [.ints k m l2]) hx hy hb hsz hz hzs (asrc_gro hux.h hb2 (.whole (by simp [sizeS, Seg.size]))) (by simp [sizeS, Seg.size]) ?_ (big_ok hbig hbb) hb1 (fun i hi => by simp at hi; subst hi; exact hget_lt hb2) hN.h hH
  rw [Nat.mul_one, Nat.mul_one]
  exact .ints hl (Nat.le_refl _)
end
end Go.Bx
end

section
/- Types and functions of layer 19's law, as instances. -/
open Go Go.Bx Go.Proofs
namespace Go.Proofs.X
instance : Clb Tryz.prog 159 := ⟨_, Tryz.func159, by kernel_rfl, rfl⟩
instance : Clb Tryz.prog 104 := ⟨_, Tryz.func104, by kernel_rfl, rfl⟩
instance : Clb Tryz.prog 160 := ⟨_, Tryz.func160, by kernel_rfl, rfl⟩
instance : Clb Tryz.prog 99 := ⟨_, Tryz.func99, by kernel_rfl, rfl⟩
instance : Clb Tryz.prog 100 := ⟨_, Tryz.func100, by kernel_rfl, rfl⟩
instance : Clb Tryz.prog 101 := ⟨_, Tryz.func101, by kernel_rfl, rfl⟩
instance : Clb Tryz.prog 21 := ⟨_, Tryz.func21, by kernel_rfl, rfl⟩
instance : Clb Tryz.prog 25 := ⟨_, Tryz.func25, by kernel_rfl, rfl⟩
instance : Clb Tryz.prog 23 := ⟨_, Tryz.func23, by kernel_rfl, rfl⟩
instance : Clb Tryz.prog 5 := ⟨_, Tryz.func5, by kernel_rfl, rfl⟩
instance : Und Tryz.prog 64 (.struct #[{ name := "K", type := 58, offset := 0, embedded := false, tag := "", pkgPath := "", byteOffset := 0 }, { name := "Lane", type := 62, offset := 48, embedded := false, tag := "", pkgPath := "", byteOffset := 48 }, { name := "Num", type := 47, offset := 49, embedded := false, tag := "", pkgPath := "", byteOffset := 56 }]) := ⟨Tryz.underlying64⟩
instance : Sz Tryz.prog 64 50 := ⟨Tryz.sizeOf64⟩
instance : Ag Tryz.prog 64 true := ⟨Tryz.isAgg64⟩
instance : Zv Tryz.prog 64 [.ints .u8 32 (zs (List.replicate 32 0)), .ints .u8 16 (zs (List.replicate 16 0)), .one (.int .u32 0), .one (.int .u64 0)] := ⟨_, Tryz.zeroValue64, by kernel_rfl⟩
instance : FldC Tryz.prog 64 0 0 := ⟨_, _, _, Tryz.underlying64, rfl, Tryz.sizeOf58, by decide, rfl⟩
instance : FldC Tryz.prog 64 1 48 := ⟨_, _, _, Tryz.underlying64, rfl, Tryz.sizeOf62, by decide, rfl⟩
instance : FldC Tryz.prog 64 2 49 := ⟨_, _, _, Tryz.underlying64, rfl, Tryz.sizeOf47, by decide, rfl⟩
instance : Pl Tryz.prog 64 #[(0, 48), (48, 1), (49, 1)] := ⟨_, Tryz.underlying64, fun w => by kernel_rfl⟩
instance : Inf Tryz.prog 64 Tryz.t64 := ⟨by kernel_rfl⟩
end Go.Proofs.X
end

section
set_option maxRecDepth 100000
set_option maxHeartbeats 4000000
open Go Go.Bx Go.Proofs
namespace Go.Proofs.X
set_option maxRecDepth 100000
set_option maxHeartbeats 4000000
theorem be_s (n v : Nat) : be (n + 1) v = be n (v / 256) ++ [((v % 256 : Nat) : Int)] := by
  refine eqI_n (n + 1) (be_len _ _) (by simp [be_len]) fun i hi => ?_
  rw [be_get _ _ _ hi, getD_app, be_len]
  by_cases h : i < n
  · rw [if_pos h, be_get _ _ _ h, Nat.div_div_eq_div_mul, show n + 1 - 1 - i = (n - 1 - i) + 1 by omega, Nat.pow_succ, Nat.mul_comm]
  · rw [if_neg h, show i - n = 0 by omega, show n + 1 - 1 - i = 0 by omega, Nat.pow_zero, Nat.div_one]; rfl
def plB (v : Nat) : Nat → List Int
  | 0 => []
  | i + 1 => be 8 ((wd v).getD i 0) ++ plB v i
attribute [local irreducible] be wd
theorem rrow_0 (v : Nat) : Con Tryz.prog 158 [.s (.int .u64 ((v : Nat) : Int)), .s (.int .i64 ((0 : Nat) : Int))] [] (.s (.gro 0 1 0)) [some ⟨true, [.ints .u8 (0) (be 0 v)]⟩] := by
 refine con_in 17 Tryz.func158 rfl rfl (m := 0) rfl ?_
 intro E hP hn hE
 refine qz hP hn ?_
 refine s_op k_as ?_
 refine s_nil trivial (n_wp (w_seq (qz hP hn ?_)))
 refine o2 ?_
 refine s_nil trivial (n_wp ?_)
 refine w_T rfl ?_ 
 refine qz hP hn ?_
 refine s_op k_as ?_
 refine s_nil trivial (n_wp ?_)
 refine w_weak (weak_gro 4 1 0 (segs := [.ints .u8 0 (be 0 v)]) rfl rfl rfl) ?_
 refine w_ret (r_thn ?_)
 exact d_ret hP hn hE [0] (by first | exact r_tmp Tryz.results158 | exact r_tmpa Tryz.results158)

theorem rrow_s (n v : Nat) (hm : n < 8) (hv : v < 18446744073709551616) (ih : Con Tryz.prog 158 [.s (.int .u64 ((v / 256 : Nat) : Int)), .s (.int .i64 ((n : Nat) : Int))] [] (.s (.gro 0 1 n)) [some ⟨true, [.ints .u8 (n) (be n (v / 256))]⟩]) : Con Tryz.prog 158 [.s (.int .u64 ((v : Nat) : Int)), .s (.int .i64 ((n + 1 : Nat) : Int))] [] (.s (.gro 0 1 (n + 1))) [some ⟨true, [.ints .u8 (n + 1) (be (n + 1) v)]⟩] := by
 refine con_in 17 Tryz.func158 rfl rfl (m := 0) rfl ?_
 intro E hP hn hE
 refine qz hP hn ?_
 refine s_op k_as ?_
 refine s_nil trivial (n_wp (w_seq (qz hP hn ?_)))
 refine o2 ?_
 refine s_nil trivial (n_wp ?_)
 refine w_F rfl ?_ (decide_eq_false (by omega))
 refine w_skip (n_wp (qz hP hn ?_))
 refine o3 ?_
 refine s_op (k_sub (by exact l_bin rfl rfl (b_sub (r := ((n : Nat) : Int)) (by rw [wrap_i64 (by omega)]; omega)))) ?_
 refine s_op (k_call [] (con := ih)) ?_
 refine o3 ?_
 refine s_op k_bsf ?_
 refine s_op (k_apg (c := n + 1) (l' := be (n + 1) v) (hc := by rfl) (hl' := by rw [List.take_of_length_le (Nat.le_of_eq (be_len _ _))]; exact (be_s n v).symm) (hq := by exact Nat.le_refl _) (hl := be_len _ _) (hbig := by show n + 1 ≤ 1000000; omega)) ?_
 refine s_op k_as ?_
 refine s_nil trivial (n_wp (w_ret ?_))
 exact d_ret hP hn hE [2] (by first | exact r_tmp Tryz.results158 | exact r_tmpa Tryz.results158)

theorem rrow_c (n : Nat) : ∀ v : Nat, n ≤ 8 → v < 18446744073709551616 → Con Tryz.prog 158 [.s (.int .u64 ((v : Nat) : Int)), .s (.int .i64 ((n : Nat) : Int))] [] (.s (.gro 0 1 n)) [some ⟨true, [.ints .u8 (n) (be n v)]⟩] := by
  induction n with
  | zero => exact fun v _ _ => rrow_0 v
  | succ n ih => exact fun v h1 h2 => rrow_s n v (by omega) h2 (ih (v / 256) (by omega) (by omega))
theorem behind_m (B L : List Int) (hb : B.length + L.length ≤ 1000000) : Con Tryz.prog 157 [.s (.fzi .u8 B), .s (.fzi .u8 L)] [] (.s (.gro 0 1 (B.length + L.length))) [some ⟨true, [.ints .u8 (B.length + L.length) (B ++ L)]⟩] := by
 refine con_in 9 Tryz.func157 rfl rfl (m := 0) rfl ?_
 intro E hP hn hE
 refine qz hP hn ?_
 refine s_op k_as ?_
 refine s_nil trivial (n_wp (w_seq ?_))
 refine w_weak (H' := [some ⟨true, [.ints .u8 0 []]⟩]) (weak_new (segs := [.ints .u8 0 []]) rfl) ?_
 refine g_reg hP hn ?_
 refine s_op k_mv ?_
 refine s_op (k_apn 0) ?_
 refine s_op k_mv ?_
 refine s_op (k_apg (c := B.length + L.length) (l' := B ++ L) (hc := by rfl) (hl' := by rw [List.take_length]) (hq := by exact Nat.le_refl _) (hl := by rfl)) ?_
 refine s_op k_as ?_
 refine s_nil trivial (n_wp (w_ret ?_))
 exact d_ret hP hn hE [2] (by first | exact r_tmp Tryz.results157 | exact r_tmpa Tryz.results157)

end Go.Proofs.X
end

section
set_option maxRecDepth 100000
set_option maxHeartbeats 4000000
open Go Go.Bx Go.Proofs
namespace Go.Proofs.X
attribute [local irreducible] SB BK
theorem times_c (a b : Int) : Con Tryz.prog 119 [.s (.int .u8 a), .s (.int .u8 b)] [] (.s (.int .u8 (timI a b))) [] := by
 refine con_in 29 Tryz.func119 rfl rfl (m := 0) rfl ?_
 intro E hP hn hE
 refine qz hP hn ?_
 refine s_op k_as ?_
 refine qx hP hn ?_
 refine s_op k_as ?_
 refine s_nil trivial (n_wp (w_seq (qz hP hn ?_)))
 refine s_op k_as ?_
 refine s_nil trivial (n_wp (w_block ?_))
 refine c_loop (fun m_ T H => ∃ i : Nat, i ≤ 8 ∧ m_ = 8 - i ∧ T = [(0, .s (.int .u8 (timS a b i).2)), (1, .s (.int .u8 b)), (5, .s (.int .u8 (timS a b i).1)), (6, .s (.int .i64 ((i : Nat) : Int)))] ∧ H = []) (8) ⟨0, by omega, rfl, rfl, rfl⟩ (wk hE []) ?_
 rintro n_ T_ H_ ⟨i, hi, rfl, rfl, rfl⟩
 refine w_seq (qz hP hn ?_)
 refine o2 ?_
 refine s_nil trivial (n_wp ?_)
 refine w_if rfl (fun h_t9 => ?_) (fun h_t9 => ?_)
 · refine w_skip (n_wp (w_seq (w_block (w_seq (qz hP hn ?_)))))
   refine o3 ?_
   refine o2 ?_
   refine s_nil trivial (n_wp ?_)
   refine w_cut (fun T H => ∃ o, o = (timS a b (i + 1)).1 ∧ T = [(0, .s (.int .u8 (timS a b i).2)), (1, .s (.int .u8 b)), (5, .s (.int .u8 o)), (6, .s (.int .i64 ((i : Nat) : Int)))] ∧ H = []) ?_ ?_
   · refine w_if rfl (fun h_t16 => ?_) (fun h_t16 => ?_)
     · have ho : xorK .u8 (timS a b i).1 (timS a b i).2 = (timS a b (i + 1)).1 := by simp only [timS]; rw [if_pos h_t16]
       refine g_reg hP hn ?_
       refine o4 ?_
       refine s_nil trivial ?_
       exact n_cut ⟨_, ho, rfl, rfl⟩ (wk hE [])
     · have ho : (timS a b i).1 = (timS a b (i + 1)).1 := by simp only [timS]; rw [if_neg h_t16]
       refine w_skip ?_
       exact n_cut ⟨_, ho, rfl, rfl⟩ (wk hE [])
   rintro T H ⟨o, ho, rfl, rfl⟩
   refine qz hP hn ?_
   refine o3 ?_
   refine qx hP hn ?_
   refine o3 ?_
   refine qx hP hn ?_
   refine o2 ?_
   refine s_nil trivial (n_wp ?_)
   refine w_if rfl (fun h_t25 => ?_) (fun h_t25 => ?_)
   · have h2 : xorK .u8 (shlK .u8 (timS a b i).2 1) 27 = (timS a b (i + 1)).2 := by simp only [timS]; rw [if_pos h_t25]
     refine g_reg hP hn ?_
     refine o3 ?_
     refine s_nil trivial (n_blo (n_wp (g_reg hP hn ?_)))
     refine o3 ?_
     refine s_nil trivial ?_
     rw [h2, ho]
     exact n_round (8 - (i + 1)) (by omega) ⟨i + 1, by omega, rfl, rfl, rfl⟩ (wk hE [])
   · have h2 : shlK .u8 (timS a b i).2 1 = (timS a b (i + 1)).2 := by simp only [timS]; rw [if_neg h_t25]
     refine w_skip (n_blo (n_wp (g_reg hP hn ?_)))
     refine o3 ?_
     refine s_nil trivial ?_
     rw [h2, ho]
     exact n_round (8 - (i + 1)) (by omega) ⟨i + 1, by omega, rfl, rfl, rfl⟩ (wk hE [])
 · obtain rfl : i = 8 := by omega
   refine w_exit (x_thn (x_thn (x_eq (n_wp (qz hP hn ?_)))))
   refine o2 ?_
   refine s_nil trivial (n_wp (w_ret ?_))
   exact d_ret hP hn hE [] (by first | exact r_tmp Tryz.results119 | exact r_tmpa Tryz.results119)

theorem turn_c (y : Int) (n : Nat) (hn8 : n ≤ 8) : Con Tryz.prog 164 [.s (.int .u8 y), .s (.int .i64 ((n : Nat) : Int))] [] (.s (.int .u8 (turnI y n))) [] := by
 refine con_in 13 Tryz.func164 rfl rfl (m := 0) rfl ?_
 intro E hP hn hE
 refine qz hP hn ?_
 refine s_op k_as ?_
 refine s_nil trivial (n_wp (w_seq ?_))
 refine g_any hP hn ?_
 refine o4 ?_
 refine o3 ?_
 refine o2 ?_
 refine s_nil (by kernel_rfl) ?_
 refine n_wp (w_ret ?_)
 exact d_ret hP hn hE [] (by first | exact r_tmp Tryz.results164 | exact r_tmpa Tryz.results164)

theorem rbox_c  : Con Tryz.prog 117 [] [] (.agg [.ints .u8 256 SB]) [] := by
 refine con_in 42 Tryz.func117 rfl rfl (m := 0) rfl ?_
 intro E hP hn hE
 refine qz hP hn ?_
 refine s_op k_al ?_
 refine qx hP hn ?_
 refine s_op k_al ?_
 refine s_nil trivial (n_wp (w_seq (qz hP hn ?_)))
 refine s_op k_as ?_
 refine s_nil trivial (n_wp (w_block ?_))
 refine c_loop (fun m_ T H => ∃ i : Nat, i ≤ 256 ∧ m_ = 256 - i ∧ T = [(0, .s (.ptr 0 0 0)), (1, .s (.ptr 1 0 0)), (2, .s (.int .i64 ((i : Nat) : Int)))] ∧ H = [some ⟨true, [.ints .u8 256 (z 256)]⟩, some ⟨true, [.ints .u8 256 (rbox i)]⟩]) (256) ⟨0, by omega, rfl, rfl, rfl⟩ (wk hE []) ?_
 rintro n_ T_ H_ ⟨i, hi, rfl, rfl, rfl⟩
 refine w_seq (qz hP hn ?_)
 refine o2 ?_
 refine s_nil trivial (n_wp ?_)
 refine w_if rfl (fun h_t6 => ?_) (fun h_t6 => ?_)
 · have hrs : rbox (i + 1) = (rbox i).set i (boxV (yI i)) := rfl
   unfold boxV at hrs
   have hrl := rbox_len i
   generalize rbox i = r at *
   refine w_skip (n_wp (w_seq (w_block (qz hP hn ?_))))
   refine s_op k_as ?_
   refine s_nil trivial (n_wp (w_seq (qz hP hn ?_)))
   refine s_op k_as ?_
   refine s_nil trivial (n_wp (w_block ?_))
   refine c_loop (fun m_ T H => ∃ k : Nat, 1 ≤ k ∧ k ≤ 256 ∧ m_ = 256 - k ∧ yI i = (if 0 < i then fK i (256 - k) k else 0) ∧ T = [(0, .s (.ptr 0 0 0)), (1, .s (.ptr 1 0 0)), (2, .s (.int .i64 ((i : Nat) : Int))), (3, .s (.int .u8 0)), (4, .s (.int .i64 ((k : Nat) : Int)))] ∧ H = [some ⟨true, [.ints .u8 256 (z 256)]⟩, some ⟨true, [.ints .u8 256 r]⟩]) (255) ⟨1, by omega, by omega, by omega, rfl, rfl, rfl⟩ (wk hE []) ?_
   rintro n_ T_ H_ ⟨k, hk1, hk, rfl, hfy, rfl, rfl⟩
   refine w_seq (qz hP hn ?_)
   refine o3 ?_
   refine s_opt rfl rfl (fun hB => by rw [hB]; (try simp only [Bool.or_eq_true, Bool.or_eq_false_iff, Bool.and_eq_true, Bool.not_eq_true', Bool.not_eq_false', decide_eq_true_eq, decide_eq_false_iff_not] at hB); exact k_mv) ?_
   refine s_opt rfl rfl (fun hB => by rw [hB]; (try simp only [Bool.or_eq_true, Bool.or_eq_false_iff, Bool.and_eq_true, Bool.not_eq_true', Bool.not_eq_false', decide_eq_true_eq, decide_eq_false_iff_not] at hB); exact k_gtr) ?_
   refine s_op k_pk ?_
   refine s_nil trivial (n_wp ?_)
   refine w_cond rfl (fun h_t14 => ?_) (fun h_t14 => ?_)
   · simp only [Bool.and_eq_true, decide_eq_true_eq] at h_t14
     have hk2 : k < 256 := by omega
     have hi0 : 0 < i := by omega
     refine w_skip (n_wp (w_seq (w_block (qz hP hn ?_))))
     refine o4 ?_
     refine s_op (k_call [] (con := times_c _ _)) ?_
     refine s_op k_eql ?_
     refine s_nil trivial (n_wp ?_)
     refine w_if rfl (fun h_t22 => ?_) (fun h_t22 => ?_)
     · have hy : yI i = (k : Int) := by rw [hfy, if_pos hi0, show 256 - k = (255 - k) + 1 by omega, fK, if_pos h_t22]
       refine qz hP hn ?_
       refine o3 ?_
       refine s_nil trivial (n_wp (w_exit (x_ne rfl (x_thn (x_thn (x_eq (n_wp (g_reg hP hn ?_))))))))
       refine o3 ?_
       refine s_op (k_call [] (con := turn_c _ 1 (by omega))) ?_
       refine o2 ?_
       refine s_op (k_call [] (con := turn_c _ 2 (by omega))) ?_
       refine o2 ?_
       refine s_op (k_call [] (con := turn_c _ 3 (by omega))) ?_
       refine o2 ?_
       refine s_op (k_call [] (con := turn_c _ 4 (by omega))) ?_
       refine o3 ?_
       refine s_st k_st ?_
       refine s_nil trivial (n_blo (n_wp (g_reg hP hn ?_)))
       refine o3 ?_
       refine s_nil trivial ?_
       rw [← hy, ← hrs]
       exact n_round (256 - (i + 1)) (by omega) ⟨i + 1, by omega, rfl, rfl, rfl⟩ (wk hE [])
     · have hfy2 : yI i = (if 0 < i then fK i (256 - (k + 1)) (k + 1) else 0) := by rw [hfy, if_pos hi0, if_pos hi0, show 256 - k = (256 - (k + 1)) + 1 by omega, fK, if_neg h_t22]
       refine w_skip (n_blo (n_wp (g_reg hP hn ?_)))
       refine o3 ?_
       refine s_nil trivial ?_
       exact n_round (256 - (k + 1)) (by omega) ⟨k + 1, by omega, by omega, rfl, hfy2, rfl, rfl⟩ (wk hE [])
   · have hy : yI i = 0 := by
       rw [hfy]
       simp only [Bool.and_eq_false_iff, decide_eq_false_iff_not] at h_t14
       rcases h_t14 with h | h
       · have : k = 256 := by omega
         subst this; split <;> rfl
       · have : ¬ 0 < i := by omega
         rw [if_neg this]
     refine w_exit (x_thn (x_thn (x_eq (n_wp (g_reg hP hn ?_)))))
     refine o3 ?_
     refine s_op (k_call [] (con := turn_c _ 1 (by omega))) ?_
     refine o2 ?_
     refine s_op (k_call [] (con := turn_c _ 2 (by omega))) ?_
     refine o2 ?_
     refine s_op (k_call [] (con := turn_c _ 3 (by omega))) ?_
     refine o2 ?_
     refine s_op (k_call [] (con := turn_c _ 4 (by omega))) ?_
     refine o3 ?_
     refine s_st k_st ?_
     refine s_nil trivial (n_blo (n_wp (g_reg hP hn ?_)))
     refine o3 ?_
     refine s_nil trivial ?_
     rw [← hy, ← hrs]
     exact n_round (256 - (i + 1)) (by omega) ⟨i + 1, by omega, rfl, rfl, rfl⟩ (wk hE [])
 · obtain rfl : i = 256 := by omega
   rw [rbox_eq]
   refine w_exit (x_thn (x_thn (x_eq (n_wp (qz hP hn ?_)))))
   refine s_op k_ld ?_
   refine s_st k_st ?_
   refine s_nil trivial (n_wp (w_ret ?_))
   exact d_ret hP hn hE [] (r_cell Tryz.results117)

end Go.Proofs.X
end

section
set_option maxRecDepth 100000
set_option maxHeartbeats 4000000
open Go Go.Bx Go.Proofs
namespace Go.Proofs.X
attribute [local irreducible] SB BK
theorem nbox_c  : Con Tryz.prog 46 [] [] (.s (.fptr 512 (cellsF [.ints .u8 256 SB, .ints .u8 256 BK]) 0 0)) [] := by
 refine con_in 23 Tryz.func46 rfl rfl (m := 0) rfl ?_
 intro E hP hn hE
 refine qz hP hn ?_
 refine s_op k_as ?_
 refine qx hP hn ?_
 refine s_op (k_call [] (con := rbox_c)) ?_
 refine s_op (k_bdS [.ints .u8 256 SB, .ints .u8 256 (z 256)]) ?_
 refine s_op k_bx ?_
 refine s_op k_as ?_
 refine s_nil trivial (n_wp (w_seq (qz hP hn ?_)))
 refine s_op k_as ?_
 refine s_nil trivial (n_wp (w_block ?_))
 refine c_loop (fun m_ T H => ∃ i : Nat, i ≤ 256 ∧ m_ = 256 - i ∧ T = [(1, .s (.ptr 0 0 0)), (2, .s (.int .i64 ((i : Nat) : Int)))] ∧ H = [some ⟨true, [.ints .u8 256 SB, .ints .u8 256 (rback i)]⟩]) (256) ⟨0, by omega, rfl, rfl, rfl⟩ (wk hE []) ?_
 rintro n_ T_ H_ ⟨i, hi, rfl, rfl, rfl⟩
 refine w_seq (qz hP hn ?_)
 refine o2 ?_
 refine s_nil trivial (n_wp ?_)
 refine w_if rfl (fun h_t7 => ?_) (fun h_t7 => ?_)
 · have hrs : rback (i + 1) = (rback i).set (SB.getD i 0).toNat i := rfl
   have hrl := rback_len i
   have hsb := U8_SB i
   generalize rback i = r at *
   refine w_skip (n_wp (w_seq (w_block ?_)))
   refine g_any hP hn ?_
   refine o4 ?_
   refine o4 ?_
   refine o3 ?_
   refine s_op (k_ix (by exact a_ixp (hj := ⟨(Int.toNat_of_nonneg hsb.1).symm⟩) rfl rfl (by have := hsb; omega))) ?_
   refine s_st k_st ?_
   refine s_nil (by kernel_rfl) ?_
   refine n_blo (n_wp (g_reg hP hn ?_))
   refine o3 ?_
   refine s_nil trivial ?_
   rw [← hrs]
   exact n_round (256 - (i + 1)) (by omega) ⟨i + 1, by omega, rfl, rfl, rfl⟩ (wk hE [])
 · obtain rfl : i = 256 := by omega
   rw [rback_eq]
   refine w_exit (x_thn (x_thn (x_eq (n_wp (qz hP hn ?_)))))
   refine o2 ?_
   refine s_nil trivial (n_wp (w_ret ?_))
   exact d_retw hP hn (r_tmp Tryz.results46) ((frz_ptr 0 512 (hn := by simp [sizeS, Seg.size])).trans (wk hE []))

theorem words_c (key : List Int) (hk : key.length = 16) (huk : U8 key) : Con Tryz.prog 118 [.agg [.ints .u8 16 key], .agg [.ints .u8 256 SB]] [] (.agg [.ints .u8 176 (keysOf key)]) [] := by
 refine con_in 85 Tryz.func118 rfl rfl (m := 0) rfl ?_
 intro E hP hn hE
 refine qz hP hn ?_
 refine s_op k_bx ?_
 refine s_op k_bx ?_
 refine s_op k_al ?_
 refine qx hP hn ?_
 refine s_op k_al ?_
 refine qx hP hn ?_
 refine s_op k_as ?_
 refine s_nil trivial (n_wp (w_seq (qz hP hn ?_)))
 refine s_op k_as ?_
 refine s_nil trivial (n_wp (w_block ?_))
 refine c_loop (fun m_ T H => ∃ i : Nat, i ≤ 44 ∧ m_ = 44 - i ∧ T = [(2, .s (.ptr 0 0 0)), (3, .s (.ptr 1 0 0)), (4, .s (.ptr 2 0 0)), (5, .s (.ptr 3 0 0)), (6, .s (.int .u8 (rows SB key i).1)), (7, .s (.int .i64 ((i : Nat) : Int)))] ∧ H = [some ⟨true, [.ints .u8 16 key]⟩, some ⟨true, [.ints .u8 256 SB]⟩, some ⟨true, [.ints .u8 176 (z 176)]⟩, some ⟨true, [.ints .u8 176 (rows SB key i).2]⟩]) (44) ⟨0, by omega, rfl, rfl, rfl⟩ (wk hE []) ?_
 rintro n_ T_ H_ ⟨i, hi, rfl, rfl, rfl⟩
 refine w_seq (qz hP hn ?_)
 refine o2 ?_
 refine s_nil trivial (n_wp ?_)
 refine w_if rfl (fun h_t11 => ?_) (fun h_t11 => ?_)
 · have hwl := rows_len SB key i
   refine w_skip (n_wp (w_seq (w_block (w_seq (qz hP hn ?_)))))
   refine o2 ?_
   refine s_nil trivial (n_wp ?_)
   refine w_if rfl (fun h_t15 => ?_) (fun h_t15 => ?_)
   · have hrs1 := rows_s1 SB key i h_t15
     refine w_seq ?_
     refine g_any hP hn ?_
     refine o4 ?_
     refine o4 ?_
     refine o4 ?_
     refine o4 ?_
     refine o4 ?_
     refine s_op (k_bd (by exact a_buildK (rkey key i) rfl rfl rfl)) ?_
     refine s_op k_ix ?_
     refine s_st (k_st (by exact a_store_aggI (n := 4) rfl rfl rfl rfl (by exact Nat.le_of_ble_eq_true rfl) (by omega) (hset_seg (by first | exact sset_0 | exact sset_s _ rfl rfl sset_0 | exact sset_s _ rfl rfl (sset_s _ rfl rfl sset_0)) (by repeat (first | exact hset_0 | apply hset_s))))) ?_
     refine s_nil (by kernel_rfl) ?_
     refine n_wp (w_exit (x_thn (x_eq (n_wp (g_reg hP hn ?_)))))
     refine o3 ?_
     refine s_nil trivial ?_
     rw [show spl (rows SB key i).2 (rkey key i) (i * 4) 4 176 = (rows SB key (i + 1)).2 by rw [hrs1], show (rows SB key i).1 = (rows SB key (i + 1)).1 by rw [hrs1]]
     exact n_round (44 - (i + 1)) (by omega) ⟨i + 1, by omega, rfl, rfl, rfl⟩ (wk hE [])
   · have hi4 : 4 ≤ i := by omega
     refine w_skip (n_wp (w_seq ?_))
     obtain ⟨j, rfl⟩ : ∃ j, i = j + 4 := ⟨i - 4, by omega⟩
     have hrs := rows_s2 SB key j
     have hql := rows_len SB key (j + 4)
     have hU := U8_rows (S := SB) huk (j + 4)
     generalize rows SB key (j + 4) = q at *
     have hUr : U8 (rrow q.2 j) := hU.cut _ _
     have u0 := hUr 0
     have u1 := hUr 1
     have u2 := hUr 2
     have u3 := hUr 3
     refine g_reg hP hn ?_
     refine o3 ?_
     refine o2 ?_
     refine s_st k_st ?_
     refine s_nil trivial (n_wp (w_seq (qz hP hn ?_)))
     refine o3 ?_
     refine s_nil trivial (n_wp ?_)
     refine w_cut (fun T H => ∃ (b : Int) (x : List Int), (b, x) = rxx SB q.2 j q.1 ∧ T = [(2, .s (.ptr 0 0 0)), (3, .s (.ptr 1 0 0)), (4, .s (.ptr 2 0 0)), (5, .s (.ptr 3 0 0)), (6, .s (.int .u8 b)), (7, .s (.int .i64 ((j + 4 : Nat) : Int))), (8, .s (.ptr 4 0 0))] ∧ H = [some ⟨true, [.ints .u8 16 key]⟩, some ⟨true, [.ints .u8 256 SB]⟩, some ⟨true, [.ints .u8 176 (z 176)]⟩, some ⟨true, [.ints .u8 176 q.2]⟩, some ⟨true, [.ints .u8 4 x]⟩]) ?_ ?_
     · refine w_if rfl (fun h_t44 => ?_) (fun h_t44 => ?_)
       · have hx := (rxx_0 SB q.2 j q.1 h_t44).symm
         refine w_seq ?_
         refine g_any hP hn ?_
         refine o2 ?_
         refine s_op (k_ix (by exact a_ixp (hj := ⟨(Int.toNat_of_nonneg u1.1).symm⟩) rfl rfl (by have := u1; omega))) ?_
         refine o3 ?_
         refine o2 ?_
         refine s_op (k_ix (by exact a_ixp (hj := ⟨(Int.toNat_of_nonneg u2.1).symm⟩) rfl rfl (by have := u2; omega))) ?_
         refine o3 ?_
         refine s_op (k_ix (by exact a_ixp (hj := ⟨(Int.toNat_of_nonneg u3.1).symm⟩) rfl rfl (by have := u3; omega))) ?_
         refine o3 ?_
         refine s_op (k_ix (by exact a_ixp (hj := ⟨(Int.toNat_of_nonneg u0.1).symm⟩) rfl rfl (by have := u0; omega))) ?_
         refine s_op k_ld ?_
         refine s_op (k_bd (by exact a_buildK (rsub SB (rrow q.2 j) q.1) rfl rfl rfl)) ?_
         refine s_st k_st ?_
         refine s_nil (by kernel_rfl) ?_
         refine n_wp (g_reg hP hn ?_)
         refine s_op k_mv ?_
         refine s_op (k_call [] (con := times_c _ _)) ?_
         refine s_op k_as ?_
         refine s_nil trivial ?_
         exact n_cut ⟨_, _, hx, rfl, rfl⟩ (wk hE [])
       · have hx := (rxx_1 SB q.2 j q.1 h_t44).symm
         refine w_skip ?_
         exact n_cut ⟨_, _, hx, rfl, rfl⟩ (wk hE [])
     rintro T H ⟨b, x, hx, rfl, rfl⟩
     refine qz hP hn ?_
     refine s_op k_as ?_
     refine s_nil trivial (n_wp (w_block ?_))
     refine c_loop (fun m_ T H => ∃ k : Nat, k ≤ 4 ∧ m_ = 4 - k ∧ T = [(2, .s (.ptr 0 0 0)), (3, .s (.ptr 1 0 0)), (4, .s (.ptr 2 0 0)), (5, .s (.ptr 3 0 0)), (6, .s (.int .u8 b)), (7, .s (.int .i64 ((j + 4 : Nat) : Int))), (8, .s (.ptr 4 0 0)), (9, .s (.int .i64 ((k : Nat) : Int)))] ∧ H = [some ⟨true, [.ints .u8 16 key]⟩, some ⟨true, [.ints .u8 256 SB]⟩, some ⟨true, [.ints .u8 176 (z 176)]⟩, some ⟨true, [.ints .u8 176 (rkS q.2 x j k)]⟩, some ⟨true, [.ints .u8 4 x]⟩]) (4) ⟨0, by omega, rfl, rfl, rfl⟩ (wk hE []) ?_
     rintro n_ T_ H_ ⟨k, hk4, rfl, rfl, rfl⟩
     refine w_seq (qz hP hn ?_)
     refine o2 ?_
     refine s_nil trivial (n_wp ?_)
     refine w_if rfl (fun h_t67 => ?_) (fun h_t67 => ?_)
     · have hrl := (rkS_len q.2 x j k).trans hql
       refine w_skip (n_wp (w_seq (w_block ?_)))
       refine g_any hP hn ?_
       refine o4 ?_
       refine o4 ?_
       refine o4 ?_
       refine o2 ?_
       refine s_st k_st ?_
       refine s_nil (by kernel_rfl) ?_
       refine n_blo (n_wp (g_reg hP hn ?_))
       refine o3 ?_
       refine s_nil trivial ?_
       exact n_round (4 - (k + 1)) (by omega) ⟨k + 1, by omega, rfl, rfl, rfl⟩ (wk hE [])
     · obtain rfl : k = 4 := by omega
       have hrs3 : rows SB key (j + 4 + 1) = (b, rkS q.2 x j 4) := by rw [hrs, ← hx]
       generalize rkS q.2 x j 4 = y at *
       refine w_exit (x_thn (x_thn (x_eq (n_blo (n_wp (g_reg hP hn ?_))))))
       refine o3 ?_
       refine s_nil trivial ?_
       rw [show y = (rows SB key (j + 4 + 1)).2 by rw [hrs3], show b = (rows SB key (j + 4 + 1)).1 by rw [hrs3]]
       exact n_round (44 - (j + 4 + 1)) (by omega) ⟨j + 4 + 1, by omega, rfl, rfl, rfl⟩ (wk hE [])
 · obtain rfl : i = 44 := by omega
   rw [rows_eq]
   refine w_exit (x_thn (x_thn (x_eq (n_wp (qz hP hn ?_)))))
   refine s_op k_ld ?_
   refine s_st k_st ?_
   refine s_nil trivial (n_wp (w_ret ?_))
   exact d_ret hP hn hE [] (r_cell Tryz.results118)

end Go.Proofs.X
end

section
set_option maxRecDepth 100000
set_option maxHeartbeats 4000000
open Go Go.Bx Go.Proofs
namespace Go.Proofs.X
attribute [local irreducible] SB BK ks
def bst (K b : List Int) (r : Nat) : List Int := if r = 10 then blockL SB K b else enc SB K b r
theorem bst_10 (K b : List Int) : bst K b 10 = blockL SB K b := if_pos rfl
theorem bst_lt (K b : List Int) {r : Nat} (h : r < 10) : bst K b r = enc SB K b r := if_neg (by omega)
theorem bst_s (K b : List Int) {r : Nat} (h : r < 9) : bst K b (r + 1) = xor16 (mixI (subTo SB (enc SB K b r) 16)) (kwas K (r + 1)) := bst_lt K b (by omega)
theorem bst_9 (K b : List Int) : bst K b (9 + 1) = xor16 (subTo SB (enc SB K b 9) 16) (kwas K (9 + 1)) := (bst_10 K b).trans (blockL_def _ _ _)
theorem rBlock_c (key b : List Int) (hk : key.length = 16) (huk : U8 key) (hb : b.length = 16) (hub : U8 b) : Con Tryz.prog 47 [.s (.fptr 512 (cellsF [.ints .u8 256 SB, .ints .u8 256 BK]) 0 0), .agg [.ints .u8 16 key], .agg [.ints .u8 16 b]] [] (.agg [.ints .u8 16 (blockI key b)]) [] := by
 refine con_in 162 Tryz.func47 rfl rfl (m := 0) rfl ?_
 intro E hP hn hE
 refine qz hP hn ?_
 refine s_op k_bx ?_
 refine s_op k_bx ?_
 refine s_op k_al ?_
 refine s_nil trivial (n_wp (w_seq ?_))
 refine g_any hP hn ?_
 refine o3 ?_
 refine o2 ?_
 refine s_op (k_call [] (con := words_c key hk huk)) ?_
 refine s_op k_al ?_
 refine s_st k_st ?_
 refine s_nil (by kernel_rfl) ?_
 refine n_wp (w_seq (w_seq ?_))
 unfold blockI
 generalize keysOf key = K
 refine g_reg hP hn ?_
 refine s_op k_as ?_
 refine s_nil trivial (n_wp (w_block ?_))
 refine c_loop (fun m_ T H => ∃ i : Nat, i ≤ 16 ∧ m_ = 16 - i ∧ T = [(0, .s (.fptr 512 (cellsF [.ints .u8 256 SB, .ints .u8 256 BK]) 0 0)), (5, .s (.ptr 1 0 0)), (6, .s (.ptr 2 0 0)), (7, .s (.ptr 3 0 0)), (8, .s (.int .i64 ((i : Nat) : Int)))] ∧ H = [some ⟨true, [.ints .u8 16 key]⟩, some ⟨true, [.ints .u8 16 (rx0 b K i)]⟩, some ⟨true, [.ints .u8 16 (z 16)]⟩, some ⟨true, [.ints .u8 176 K]⟩]) (16) ⟨0, by omega, rfl, rfl, rfl⟩ (wk hE []) ?_
 rintro n_ T_ H_ ⟨i, hi, rfl, rfl, rfl⟩
 refine w_seq (qz hP hn ?_)
 refine o2 ?_
 refine s_nil trivial (n_wp ?_)
 refine w_if rfl (fun h_t25 => ?_) (fun h_t25 => ?_)
 · have hrl := (rx0_len b K i).trans hb
   refine w_skip (n_wp (w_seq (w_block ?_)))
   refine g_any hP hn ?_
   refine o4 ?_
   refine o4 ?_
   refine o4 ?_
   refine s_st k_st ?_
   refine s_nil (by kernel_rfl) ?_
   refine n_blo (n_wp (g_reg hP hn ?_))
   refine o3 ?_
   refine s_nil trivial ?_
   exact n_round (16 - (i + 1)) (by omega) ⟨i + 1, by omega, rfl, rfl, rfl⟩ (wk hE [])
 · obtain rfl : i = 16 := by omega
   rw [rx0_eq, show xor16 b (kwas K 0) = bst K b 0 from rfl]
   refine w_exit (x_thn (x_thn (x_eq (n_wp (w_seq (qz hP hn ?_))))))
   refine s_op k_as ?_
   refine s_nil trivial (n_wp (w_block ?_))
   refine c_loop (fun m_ T H => ∃ r : Nat, r ≤ 10 ∧ m_ = 10 - r ∧ T = [(0, .s (.fptr 512 (cellsF [.ints .u8 256 SB, .ints .u8 256 BK]) 0 0)), (5, .s (.ptr 1 0 0)), (6, .s (.ptr 2 0 0)), (7, .s (.ptr 3 0 0)), (9, .s (.int .i64 ((r + 1 : Nat) : Int)))] ∧ H = [some ⟨true, [.ints .u8 16 key]⟩, some ⟨true, [.ints .u8 16 (bst K b r)]⟩, some ⟨true, [.ints .u8 16 (z 16)]⟩, some ⟨true, [.ints .u8 176 K]⟩]) (10) ⟨0, by omega, rfl, rfl, rfl⟩ (wk hE []) ?_
   rintro n_ T_ H_ ⟨r, hr, rfl, rfl, rfl⟩
   refine w_seq (qz hP hn ?_)
   refine o2 ?_
   refine s_nil trivial (n_wp ?_)
   refine w_if rfl (fun h_t41 => ?_) (fun h_t41 => ?_)
   · have hr10 : r < 10 := by omega
     rw [bst_lt K b hr10]
     have hxu := U8_enc (K := K) U8_SB hub r
     have hxl := enc_len SB K b hb r
     have hs9 : r < 9 → bst K b (r + 1) = xor16 (mixI (subTo SB (enc SB K b r) 16)) (kwas K (r + 1)) := fun h => bst_s K b h
     have hl9 : r = 9 → bst K b (r + 1) = xor16 (subTo SB (enc SB K b r) 16) (kwas K (r + 1)) := fun h => by subst h; exact bst_9 K b
     generalize enc SB K b r = x at *
     refine w_skip (n_wp (w_seq (w_block (qz hP hn ?_))))
     refine s_op k_al ?_
     refine s_nil trivial (n_wp (w_seq (qz hP hn ?_)))
     refine s_op k_as ?_
     refine s_nil trivial (n_wp (w_block ?_))
     refine c_loop (fun m_ T H => ∃ i : Nat, i ≤ 16 ∧ m_ = 16 - i ∧ T = [(0, .s (.fptr 512 (cellsF [.ints .u8 256 SB, .ints .u8 256 BK]) 0 0)), (5, .s (.ptr 1 0 0)), (6, .s (.ptr 2 0 0)), (7, .s (.ptr 3 0 0)), (9, .s (.int .i64 ((r + 1 : Nat) : Int))), (10, .s (.ptr 4 0 0)), (11, .s (.int .i64 ((i : Nat) : Int)))] ∧ H = [some ⟨true, [.ints .u8 16 key]⟩, some ⟨true, [.ints .u8 16 x]⟩, some ⟨true, [.ints .u8 16 (z 16)]⟩, some ⟨true, [.ints .u8 176 K]⟩, some ⟨true, [.ints .u8 16 (subTo SB x i)]⟩]) (16) ⟨0, by omega, rfl, rfl, rfl⟩ (wk hE []) ?_
     rintro n_ T_ H_ ⟨i, hi, rfl, rfl, rfl⟩
     refine w_seq (qz hP hn ?_)
     refine o2 ?_
     refine s_nil trivial (n_wp ?_)
     refine w_if rfl (fun h_t45 => ?_) (fun h_t45 => ?_)
     · have hsu := subTo_len SB x i
       refine w_skip (n_wp (w_seq (w_block ?_)))
       have ue := hxu ((i + 4 * (i % 4)) % 16)
       refine g_any hP hn ?_
       refine o4 ?_
       refine o4 ?_
       refine o4 ?_
       refine s_op (k_ix (by exact a_ixf (hj := ⟨(Int.toNat_of_nonneg ue.1).symm⟩) rfl rfl (by omega))) ?_
       refine o2 ?_
       refine s_st k_st ?_
       refine s_nil (by kernel_rfl) ?_
       refine n_blo (n_wp (g_reg hP hn ?_))
       refine o3 ?_
       refine s_nil trivial ?_
       exact n_round (16 - (i + 1)) (by omega) ⟨i + 1, by omega, rfl, rfl, rfl⟩ (wk hE [])
     · obtain rfl : i = 16 := by omega
       have hyl := subTo_len SB x 16
       have hyu : U8 (subTo SB x 16) := U8_subTo U8_SB 16
       generalize subTo SB x 16 = y at *
       refine w_exit (x_thn (x_thn (x_eq (n_wp (w_seq (qz hP hn ?_))))))
       refine s_op k_as ?_
       refine s_nil trivial (n_wp (w_block ?_))
       refine c_loop (fun m_ T H => ∃ k : Nat, k ≤ 4 ∧ (r = 9 → k = 0) ∧ m_ = 4 - k ∧ T = [(0, .s (.fptr 512 (cellsF [.ints .u8 256 SB, .ints .u8 256 BK]) 0 0)), (5, .s (.ptr 1 0 0)), (6, .s (.ptr 2 0 0)), (7, .s (.ptr 3 0 0)), (9, .s (.int .i64 ((r + 1 : Nat) : Int))), (10, .s (.ptr 4 0 0)), (12, .s (.int .i64 ((k : Nat) : Int)))] ∧ H = [some ⟨true, [.ints .u8 16 key]⟩, some ⟨true, [.ints .u8 16 x]⟩, some ⟨true, [.ints .u8 16 (z 16)]⟩, some ⟨true, [.ints .u8 176 K]⟩, some ⟨true, [.ints .u8 16 (rmixN y k)]⟩]) (4) ⟨0, by omega, fun _ => rfl, rfl, rfl, rfl⟩ (wk hE []) ?_
       rintro n_ T_ H_ ⟨k, hk4, hk9, rfl, rfl, rfl⟩
       refine w_seq (qz hP hn ?_)
       refine o3 ?_
       refine s_opt rfl rfl (fun hB => by rw [hB]; (try simp only [Bool.or_eq_true, Bool.or_eq_false_iff, Bool.and_eq_true, Bool.not_eq_true', Bool.not_eq_false', decide_eq_true_eq, decide_eq_false_iff_not] at hB); exact k_mv) ?_
       refine s_opt rfl rfl (fun hB => by rw [hB]; (try simp only [Bool.or_eq_true, Bool.or_eq_false_iff, Bool.and_eq_true, Bool.not_eq_true', Bool.not_eq_false', decide_eq_true_eq, decide_eq_false_iff_not] at hB); exact k_lss) ?_
       refine s_op k_pk ?_
       refine s_nil trivial (n_wp ?_)
       refine w_cond rfl (fun h_t68 => ?_) (fun h_t68 => ?_)
       · simp only [Bool.and_eq_true, decide_eq_true_eq] at h_t68
         have hk2 : k < 4 := by omega
         have hr9 : r < 9 := by omega
         have hml := (rmixN_len y k).trans hyl
         refine w_skip (n_wp (w_seq (w_block (w_seq ?_))))
         refine g_any hP hn ?_
         refine o4 ?_
         refine o4 ?_
         refine o4 ?_
         refine o4 ?_
         refine o4 ?_
         refine o3 ?_
         refine s_nil (by kernel_rfl) ?_
         refine n_wp (qz hP hn ?_)
         refine o3 ?_
         refine s_op (k_call [] (con := times_c _ _)) ?_
         refine s_op k_mv ?_
         refine s_op (k_call [] (con := times_c _ _)) ?_
         refine o4 ?_
         refine o2 ?_
         refine s_st k_st ?_
         refine qx hP hn ?_
         refine o3 ?_
         refine o2 ?_
         refine s_op (k_call [] (con := times_c _ _)) ?_
         refine o2 ?_
         refine s_op (k_call [] (con := times_c _ _)) ?_
         refine o4 ?_
         refine s_st k_st ?_
         refine qx hP hn ?_
         refine o4 ?_
         refine o3 ?_
         refine s_op (k_call [] (con := times_c _ _)) ?_
         refine o2 ?_
         refine s_op (k_call [] (con := times_c _ _)) ?_
         refine o2 ?_
         refine s_st k_st ?_
         refine qy hP hn ?_
         refine o4 ?_
         refine s_op (k_call [] (con := times_c _ _)) ?_
         refine o3 ?_
         refine o2 ?_
         refine s_op (k_call [] (con := times_c _ _)) ?_
         refine o2 ?_
         refine s_st k_st ?_
         refine s_nil trivial (n_blo (n_wp (g_reg hP hn ?_)))
         refine o3 ?_
         refine s_nil trivial ?_
         exact n_round (4 - (k + 1)) (by omega) ⟨k + 1, by omega, fun e => by omega, rfl, rfl, rfl⟩ (wk hE [])
       · have hcl : (rmixN y k).length = 16 := (rmixN_len _ _).trans hyl
         have hfin : bst K b (r + 1) = xor16 (rmixN y k) (kwas K (r + 1)) := by
           simp only [Bool.and_eq_false_iff, decide_eq_false_iff_not] at h_t68
           rcases h_t68 with h | h
           · have h4 : k = 4 := by omega
             subst h4
             rw [rmix_eq hyl hyu]
             exact hs9 (Classical.byContradiction fun e => by have := hk9 (by omega); omega)
           · have h9 : r = 9 := by omega
             have h0 := hk9 h9
             subst h0
             exact hl9 h9
         generalize rmixN y k = c at *
         refine w_exit (x_thn (x_thn (x_eq (n_wp (qz hP hn ?_)))))
         refine s_op k_as ?_
         refine s_nil trivial (n_wp (w_block ?_))
         refine c_loop (fun m_ T H => ∃ i : Nat, i ≤ 16 ∧ m_ = 16 - i ∧ T = [(0, .s (.fptr 512 (cellsF [.ints .u8 256 SB, .ints .u8 256 BK]) 0 0)), (5, .s (.ptr 1 0 0)), (6, .s (.ptr 2 0 0)), (7, .s (.ptr 3 0 0)), (9, .s (.int .i64 ((r + 1 : Nat) : Int))), (10, .s (.ptr 4 0 0)), (17, .s (.int .i64 ((i : Nat) : Int)))] ∧ H = [some ⟨true, [.ints .u8 16 key]⟩, some ⟨true, [.ints .u8 16 (rset x c K (r + 1) i)]⟩, some ⟨true, [.ints .u8 16 (z 16)]⟩, some ⟨true, [.ints .u8 176 K]⟩, some ⟨true, [.ints .u8 16 c]⟩]) (16) ⟨0, by omega, rfl, rfl, rfl⟩ (wk hE []) ?_
         rintro n_ T_ H_ ⟨i, hi, rfl, rfl, rfl⟩
         refine w_seq (qz hP hn ?_)
         refine o2 ?_
         refine s_nil trivial (n_wp ?_)
         refine w_if rfl (fun h_t142 => ?_) (fun h_t142 => ?_)
         · have hrl := (rset_len x c K (r + 1) i).trans hxl
           refine w_skip (n_wp (w_seq (w_block ?_)))
           refine g_any hP hn ?_
           refine o4 ?_
           refine o4 ?_
           refine o4 ?_
           refine o4 ?_
           refine s_st k_st ?_
           refine s_nil (by kernel_rfl) ?_
           refine n_blo (n_wp (g_reg hP hn ?_))
           refine o3 ?_
           refine s_nil trivial ?_
           exact n_round (16 - (i + 1)) (by omega) ⟨i + 1, by omega, rfl, rfl, rfl⟩ (wk hE [])
         · obtain rfl : i = 16 := by omega
           rw [rset_eq _ _ _ _ hxl hcl, ← hfin]
           refine w_exit (x_thn (x_thn (x_eq (n_blo (n_wp (g_reg hP hn ?_))))))
           refine o3 ?_
           refine s_nil trivial ?_
           exact n_round (10 - (r + 1)) (by omega) ⟨r + 1, by omega, rfl, rfl, rfl⟩ (wk hE [])
   · obtain rfl : r = 10 := by omega
     rw [bst_10]
     refine w_exit (x_thn (x_thn (x_eq (n_wp (qz hP hn ?_)))))
     refine s_op k_ld ?_
     refine s_st k_st ?_
     refine s_nil trivial (n_wp (w_ret ?_))
     exact d_ret hP hn hE [] (r_cell Tryz.results47)

end Go.Proofs.X
end

section
/- Types and functions of layer 9's law, as instances. -/
open Go Go.Bx Go.Proofs
namespace Go.Proofs.X
instance : Clb Tryz.prog 111 := ⟨_, Tryz.func111, by kernel_rfl, rfl⟩
instance : Clb Tryz.prog 42 := ⟨_, Tryz.func42, by kernel_rfl, rfl⟩
instance : Clb Tryz.prog 41 := ⟨_, Tryz.func41, by kernel_rfl, rfl⟩
instance : Clb Tryz.prog 7 := ⟨_, Tryz.func7, by kernel_rfl, rfl⟩
instance : Clb Tryz.prog 3 := ⟨_, Tryz.func3, by kernel_rfl, rfl⟩
instance : NoEq Tryz.prog 22 := ⟨by kernel_rfl⟩
end Go.Proofs.X
end

section
set_option maxRecDepth 100000
set_option maxHeartbeats 4000000
open Go Go.Bx Go.Proofs
namespace Go.Proofs.X
set_option maxRecDepth 100000
set_option maxHeartbeats 4000000
attribute [local irreducible] SB BK ks
def livA : Nat → List Int
  | 0 => z 16
  | k + 1 => (livA k).set k k
def livB : Nat → List Int
  | 0 => z 16
  | k + 1 => (livB k).set k ((17 * k : Nat) : Int)
def LA : List Int := [0, 1, 2, 3, 4, 5, 6, 7, 8, 9, 10, 11, 12, 13, 14, 15]
def LB : List Int := [0, 17, 34, 51, 68, 85, 102, 119, 136, 153, 170, 187, 204, 221, 238, 255]
def LW : List Int := [105, 196, 224, 216, 106, 123, 4, 48, 216, 205, 183, 128, 112, 180, 197, 90]
end Go.Proofs.X
end

section
set_option maxRecDepth 100000
set_option maxHeartbeats 4000000
open Go Go.Bx Go.Proofs
namespace Go.Proofs.X
set_option maxRecDepth 100000
set_option maxHeartbeats 4000000
attribute [local irreducible] SB BK ks
theorem streamI_ln (key first B : List Int) : (streamI key first B).length = B.length := strN_len _ _ _ _ _
theorem streamI_get (key first B : List Int) (q k : Nat) (hk : k < 16) (h : 16 * q + k < B.length) : (streamI key first B).getD (16 * q + k) 0 = xorK .u8 (B.getD (16 * q + k) 0) ((blockI key (ctr first q)).getD k 0) := by
  rw [streamI, strN_get _ _ _ _ _ _ h (by omega), pad, show (16 * q + k) / 16 = q by omega, show (16 * q + k) % 16 = k by omega]
theorem rst_s (key first B : List Int) (q k : Nat) (hk : k < 16) (h : 16 * q + k < B.length) : ((streamI key first B).take (16 * q + k)).take (16 * q + k) ++ [xorK .u8 (B.getD (16 * q + k) 0) ((blockI key (ctr first q)).getD k 0)] = (streamI key first B).take (16 * q + k + 1) := by
  have hl := streamI_ln key first B
  rw [List.take_take, Nat.min_self, List.take_add_one, List.getElem?_eq_getElem (by omega), ← streamI_get key first B q k hk h, List.getD_eq_getElem?_getD, List.getElem?_eq_getElem (by omega)]
  rfl

theorem rstream_c (key first B : List Int) (hk : key.length = 16) (hk8 : U8 key) (hf : first.length = 16) (hf8 : U8 first) (h0 : 0 < B.length) (hB : B.length ≤ 100000) : Con Tryz.prog 12 [.agg [.ints .u8 16 key], .agg [.ints .u8 16 first], .s (.fzi .u8 B)] [] (.s (.fzi .u8 (streamI key first B))) [] := by
 refine con_in 76 Tryz.func12 rfl rfl (m := 0) rfl ?_
 intro E hP hn hE
 refine qz hP hn ?_
 refine s_op k_bx ?_
 refine s_op k_bx ?_
 refine s_op k_as ?_
 refine s_nil trivial (n_wp (w_seq (qz hP hn ?_)))
 refine o3 ?_
 refine s_nil trivial (n_wp ?_)
 refine w_F rfl ?_ (decide_eq_false (by omega))
 refine w_skip (n_wp (qz hP hn ?_))
 refine s_op (k_call [] (con := nbox_c)) ?_
 refine s_op k_as ?_
 refine qx hP hn ?_
 refine s_op k_as ?_
 refine s_nil trivial (n_wp (w_seq (w_seq ?_)))
 refine w_weak (weak_gro 8 1 2 (segs := [.ints .u8 0 []]) rfl rfl rfl) ?_
 refine g_reg hP hn ?_
 refine s_op k_as ?_
 refine s_nil trivial (n_wp (w_block ?_))
 refine c_loop (fun m_ T H => ∃ i L f, i ≤ B.length ∧ L = min (16 * ((i + 15) / 16)) B.length ∧ f = ctr first ((i + 15) / 16 - 1) ∧ m_ = B.length - i ∧ T = [(2, .s (.fzi .u8 B)), (3, .s (.ptr 0 0 0)), (4, .s (.ptr 1 0 0)), (7, .s (.fptr 512 (cellsF [.ints .u8 256 SB, .ints .u8 256 BK]) 0 0)), (8, .s (.gro 2 1 (L))), (9, .s (.int .i64 ((i : Nat) : Int)))] ∧ H = [some ⟨true, [.ints .u8 16 key]⟩, some ⟨true, [.ints .u8 16 f]⟩, some ⟨true, [.ints .u8 (L) ((streamI key first B).take (L))]⟩]) (B.length) ⟨0, 0, first, by omega, by omega, rfl, rfl, rfl, rfl⟩ (wk hE [0, 1, 2]) ?_
 rintro n_ T_ H_ ⟨i, L, f, hi, hL, hfe, rfl, rfl, rfl⟩
 refine w_seq (qz hP hn ?_)
 refine o4 ?_
 refine s_nil trivial (n_wp ?_)
 refine w_if rfl (fun h_t20 => ?_) (fun h_t20 => ?_)
 · refine w_skip (n_wp (w_seq (w_block (w_seq (qz hP hn ?_)))))
   refine o3 ?_
   refine s_opt rfl rfl (fun hB => by rw [hB]; (try simp only [Bool.or_eq_true, Bool.or_eq_false_iff, Bool.and_eq_true, Bool.not_eq_true', Bool.not_eq_false', decide_eq_true_eq, decide_eq_false_iff_not] at hB); exact k_mv) ?_
   refine s_opt rfl rfl (fun hB => by rw [hB]; (try simp only [Bool.or_eq_true, Bool.or_eq_false_iff, Bool.and_eq_true, Bool.not_eq_true', Bool.not_eq_false', decide_eq_true_eq, decide_eq_false_iff_not] at hB); exact k_rem) ?_
   refine s_opt rfl rfl (fun hB => by rw [hB]; (try simp only [Bool.or_eq_true, Bool.or_eq_false_iff, Bool.and_eq_true, Bool.not_eq_true', Bool.not_eq_false', decide_eq_true_eq, decide_eq_false_iff_not] at hB); exact k_eql) ?_
   refine s_op k_pk ?_
   refine s_nil trivial (n_wp ?_)
   refine w_cut (fun T H => ∃ f, f = ctr first (i / 16) ∧ T = [(2, .s (.fzi .u8 B)), (3, .s (.ptr 0 0 0)), (4, .s (.ptr 1 0 0)), (7, .s (.fptr 512 (cellsF [.ints .u8 256 SB, .ints .u8 256 BK]) 0 0)), (8, .s (.gro 2 1 (L))), (9, .s (.int .i64 ((i : Nat) : Int)))] ∧ H = [some ⟨true, [.ints .u8 16 key]⟩, some ⟨true, [.ints .u8 16 f]⟩, some ⟨true, [.ints .u8 (L) ((streamI key first B).take (L))]⟩]) ?_ ?_
   · refine w_cond rfl (fun h_t29 => ?_) (fun h_t29 => ?_)
     · simp only [Bool.and_eq_true, decide_eq_true_eq] at h_t29
       obtain ⟨q, rfl⟩ : ∃ q, i = 16 * (q + 1) := ⟨i / 16 - 1, by omega⟩
       obtain rfl : f = ctr first q := by rw [hfe]; congr 1; omega
       have hcn : incF (ctr first q) 16 = ctr first (q + 1) := rfl
       have hcl := (ctr_len first q).trans hf
       refine qz hP hn ?_
       refine s_op k_as ?_
       refine s_nil trivial (n_wp (w_block ?_))
       refine c_loop (fun m_ T H => ∃ (t : Nat) (l : List Int) (z : Int), t ≤ 16 ∧ m_ = t ∧ l.length = 16 ∧ incF l t = ctr first (q + 1) ∧ z = (t : Int) - 1 ∧ T = [(2, .s (.fzi .u8 B)), (3, .s (.ptr 0 0 0)), (4, .s (.ptr 1 0 0)), (7, .s (.fptr 512 (cellsF [.ints .u8 256 SB, .ints .u8 256 BK]) 0 0)), (8, .s (.gro 2 1 (L))), (9, .s (.int .i64 ((16 * (q + 1) : Nat) : Int))), (10, .s (.int .i64 z))] ∧ H = [some ⟨true, [.ints .u8 16 key]⟩, some ⟨true, [.ints .u8 16 l]⟩, some ⟨true, [.ints .u8 (L) ((streamI key first B).take (L))]⟩]) (16) ⟨16, ctr first q, 15, by omega, rfl, hcl, hcn, by omega, rfl, rfl⟩ (wk hE []) ?_
       rintro n_ T_ H_ ⟨t, l, z, ht, hmt, hll, hinc, hz, rfl, rfl⟩
       refine w_seq (qz hP hn ?_)
       refine o2 ?_
       refine s_nil trivial (n_wp ?_)
       refine w_if rfl (fun h_t31 => ?_) (fun h_t31 => ?_)
       · obtain ⟨w, rfl⟩ : ∃ w, t = w + 1 := ⟨t - 1, by omega⟩
         have hzi : z = ((w : Nat) : Int) := by omega
         subst hzi
         refine w_skip (n_wp (w_seq (w_block (qz hP hn ?_))))
         refine s_op k_mv ?_
         refine s_op (k_ix (by exact a_ixp (hj := ⟨rfl⟩) rfl rfl (by omega))) ?_
         refine o2 ?_
         refine s_op (k_ix (by exact a_ixp (hj := ⟨rfl⟩) rfl rfl (by omega))) ?_
         refine s_st k_st ?_
         refine qx hP hn ?_
         refine s_op k_mv ?_
         refine s_op (k_ix (by exact a_ixp (hj := ⟨rfl⟩) rfl rfl (by omega))) ?_
         refine o2 ?_
         refine s_nil trivial (n_wp ?_)
         refine w_if rfl (fun h_t42 => ?_) (fun h_t42 => ?_)
         · have hf2 : l.set w (IntKind.u8.wrap (l.getD w 0 + 1)) = ctr first (16 * (q + 1) / 16) := by rw [show 16 * (q + 1) / 16 = q + 1 by omega, ← hinc, incF, if_neg h_t42]
           refine w_exit (x_ne rfl (x_thn (x_thn (x_eq ?_))))
           exact n_cut ⟨_, hf2, rfl, rfl⟩ (wk hE [])
         · have hinc2 : incF (l.set w (IntKind.u8.wrap (l.getD w 0 + 1))) w = ctr first (q + 1) := by rw [← hinc, incF, if_pos (Decidable.not_not.1 h_t42)]
           refine w_skip (n_blo (n_wp (g_reg hP hn ?_)))
           refine s_op k_mv ?_
           refine s_op (k_sub (by exact l_bin rfl rfl (b_sub (wrap_i64 (by omega))))) ?_
           refine s_op k_as ?_
           refine s_nil trivial ?_
           exact n_round w (by omega) ⟨w, _, (w : Int) - 1, by omega, rfl, (by simp [hll] : (l.set w (IntKind.u8.wrap (l.getD w 0 + 1))).length = 16), hinc2, rfl, rfl, rfl⟩ (wk hE [])
       · have ht0 : t = 0 := by omega
         subst ht0
         have hf2 : l = ctr first (16 * (q + 1) / 16) := by rw [show 16 * (q + 1) / 16 = q + 1 by omega]; exact hinc
         refine w_exit (x_thn (x_thn (x_eq ?_)))
         exact n_cut ⟨_, hf2, rfl, rfl⟩ (wk hE [])
     · have hf2 : f = ctr first (i / 16) := by
         rw [hfe]; congr 1
         simp only [Bool.and_eq_false_iff, decide_eq_false_iff_not] at h_t29
         omega
       refine w_skip ?_
       exact n_cut ⟨_, hf2, rfl, rfl⟩ (wk hE [])
   rintro T H ⟨f, hf2, rfl, rfl⟩
   refine qz hP hn ?_
   refine o3 ?_
   refine s_nil trivial (n_wp ?_)
   refine w_if rfl (fun h_t45 => ?_) (fun h_t45 => ?_)
   · obtain ⟨q, rfl⟩ : ∃ q, i = 16 * q := ⟨i / 16, by omega⟩
     obtain rfl : f = ctr first q := by rw [hf2]; congr 1; omega
     obtain rfl : L = 16 * q + 0 := by omega
     have hcl := (ctr_len first q).trans hf
     have hc8 := U8_ctr hf8 q
     have hbl := blockI_len key (ctr first q)
     refine qz hP hn ?_
     refine o3 ?_
     refine s_op (k_call [] (con := rBlock_c key (ctr first q) hk hk8 hcl hc8)) ?_
     refine s_op k_al ?_
     refine s_st k_st ?_
     refine qx hP hn ?_
     refine s_op k_as ?_
     refine s_nil trivial (n_wp (w_block ?_))
     refine c_loop (fun m_ T H => ∃ k, k ≤ min 16 (B.length - 16 * q) ∧ m_ = min 16 (B.length - 16 * q) - k ∧ T = [(2, .s (.fzi .u8 B)), (3, .s (.ptr 0 0 0)), (4, .s (.ptr 1 0 0)), (7, .s (.fptr 512 (cellsF [.ints .u8 256 SB, .ints .u8 256 BK]) 0 0)), (8, .s (.gro 2 1 (16 * q + k))), (9, .s (.int .i64 ((16 * q : Nat) : Int))), (11, .s (.ptr 3 0 0)), (12, .s (.int .i64 ((k : Nat) : Int)))] ∧ H = [some ⟨true, [.ints .u8 16 key]⟩, some ⟨true, [.ints .u8 16 (ctr first q)]⟩, some ⟨true, [.ints .u8 (16 * q + k) ((streamI key first B).take (16 * q + k))]⟩, some ⟨true, [.ints .u8 16 (blockI key (ctr first q))]⟩]) (min 16 (B.length - 16 * q)) ⟨0, by omega, rfl, rfl, rfl⟩ (wk hE [0, 1, 2, 3]) ?_
     rintro n_ T_ H_ ⟨k, hk_, rfl, rfl, rfl⟩
     refine w_seq (qz hP hn ?_)
     refine o3 ?_
     refine s_opt rfl rfl (fun hB => by rw [hB]; (try simp only [Bool.or_eq_true, Bool.or_eq_false_iff, Bool.and_eq_true, Bool.not_eq_true', Bool.not_eq_false', decide_eq_true_eq, decide_eq_false_iff_not] at hB); exact k_mv) ?_
     refine s_opt rfl rfl (fun hB => by rw [hB]; (try simp only [Bool.or_eq_true, Bool.or_eq_false_iff, Bool.and_eq_true, Bool.not_eq_true', Bool.not_eq_false', decide_eq_true_eq, decide_eq_false_iff_not] at hB); exact k_mv) ?_
     refine s_opt rfl rfl (fun hB => by rw [hB]; (try simp only [Bool.or_eq_true, Bool.or_eq_false_iff, Bool.and_eq_true, Bool.not_eq_true', Bool.not_eq_false', decide_eq_true_eq, decide_eq_false_iff_not] at hB); exact k_add) ?_
     refine s_opt rfl rfl (fun hB => by rw [hB]; (try simp only [Bool.or_eq_true, Bool.or_eq_false_iff, Bool.and_eq_true, Bool.not_eq_true', Bool.not_eq_false', decide_eq_true_eq, decide_eq_false_iff_not] at hB); exact k_mv) ?_
     refine s_opt rfl rfl (fun hB => by rw [hB]; (try simp only [Bool.or_eq_true, Bool.or_eq_false_iff, Bool.and_eq_true, Bool.not_eq_true', Bool.not_eq_false', decide_eq_true_eq, decide_eq_false_iff_not] at hB); exact k_len) ?_
     refine s_opt rfl rfl (fun hB => by rw [hB]; (try simp only [Bool.or_eq_true, Bool.or_eq_false_iff, Bool.and_eq_true, Bool.not_eq_true', Bool.not_eq_false', decide_eq_true_eq, decide_eq_false_iff_not] at hB); exact k_lss) ?_
     refine s_op k_pk ?_
     refine s_nil trivial (n_wp ?_)
     refine w_cond rfl (fun h_t59 => ?_) (fun h_t59 => ?_)
     · simp only [Bool.and_eq_true, decide_eq_true_eq] at h_t59
       have hk16 : k < 16 := by omega
       have hkB : 16 * q + k < B.length := by omega
       refine w_skip (n_wp (w_seq (w_block ?_)))
       refine g_any hP hn ?_
       refine o4 ?_
       refine o4 ?_
       refine o3 ?_
       refine s_op k_bsf ?_
       refine s_op (k_apg (c := 16 * q + (k + 1)) (l' := (streamI key first B).take (16 * q + (k + 1))) (hc := by rfl) (hl' := by exact rst_s key first B q k (by omega) (by omega)) (hl := by rw [List.length_take, streamI_ln]; omega) (hbig := by show 16 * q + k + 1 ≤ 1000000; omega)) ?_
       refine s_op k_as ?_
       refine s_nil (by kernel_rfl) ?_
       refine n_blo (n_wp (g_reg hP hn ?_))
       refine o3 ?_
       refine s_nil trivial ?_
       exact n_round (min 16 (B.length - 16 * q) - (k + 1)) (by omega) ⟨k + 1, by omega, rfl, rfl, rfl⟩ (wk hE [0, 1, 5, 3])
     · simp only [Bool.and_eq_false_iff, decide_eq_false_iff_not] at h_t59
       have hke : k = min 16 (B.length - 16 * q) := by omega
       refine w_exit (x_thn (x_thn (x_eq (n_blo (n_wp (g_reg hP hn ?_))))))
       refine o3 ?_
       refine s_nil trivial ?_
       exact n_round (B.length - (16 * q + 1)) (by omega) ⟨16 * q + 1, 16 * q + k, ctr first q, by omega, by omega, by congr 1; omega, rfl, rfl, rfl⟩ (wk hE [0, 1, 2])
   · refine w_skip (n_blo (n_wp (g_reg hP hn ?_)))
     refine o3 ?_
     refine s_nil trivial ?_
     exact n_round (B.length - (i + 1)) (by omega) ⟨i + 1, L, f, by omega, by omega, by rw [hf2]; congr 1; omega, rfl, rfl, rfl⟩ (wk hE [0, 1, 2])
 · obtain rfl : i = B.length := by omega
   obtain rfl : L = B.length := by omega
   rw [show (streamI key first B).take B.length = streamI key first B from List.take_of_length_le (by rw [streamI_ln]; exact Nat.le_refl _)]
   have hSl := streamI_ln key first B
   generalize streamI key first B = SI at *
   refine w_exit (x_thn (x_thn (x_eq (n_wp (qz hP hn ?_)))))
   refine o2 ?_
   refine s_nil trivial (n_wp (w_ret ?_))
   exact d_retw hP hn (r_tmp Tryz.results12) ((frz_gro 0 (l' := SI) (hn := Nat.le_refl _) (hl := hSl) (hl' := List.take_of_length_le (by rw [hSl]; exact Nat.le_refl _))).trans (wk hE []))

theorem rstream0_c (key first : List Int) : Con Tryz.prog 12 [.agg [.ints .u8 16 key], .agg [.ints .u8 16 first], .s (.fzi .u8 [])] [] (.s (.fzi .u8 [])) [] := by
 refine con_in 76 Tryz.func12 rfl rfl (m := 0) rfl ?_
 intro E hP hn hE
 refine qz hP hn ?_
 refine s_op k_bx ?_
 refine s_op k_bx ?_
 refine s_op k_as ?_
 refine s_nil trivial (n_wp (w_seq (qz hP hn ?_)))
 refine o3 ?_
 refine s_nil trivial (n_wp ?_)
 refine w_T rfl ?_ 
 refine qz hP hn ?_
 refine s_op k_as ?_
 refine s_nil trivial (n_wp (w_ret (r_thn ?_)))
 exact d_retw hP hn (r_tmp Tryz.results12) ((weak_conv 0 rfl conv_nil).trans (wk hE []))

end Go.Proofs.X
end

section
set_option maxRecDepth 100000
set_option maxHeartbeats 4000000
open Go Go.Bx Go.Proofs
namespace Go.Proofs.X
set_option maxRecDepth 100000
set_option maxHeartbeats 4000000
def cwS (A : List Int) : Nat → List Int
  | 0 => z 16
  | i + 1 => (cwS A i).set i (A.getD (1 + i) 0)
theorem cwS_len (A : List Int) (i : Nat) : (cwS A i).length = 16 := by
  induction i with
  | zero => exact z_len _
  | succ i ih => rw [cwS, List.length_set, ih]
theorem cwS_get (A : List Int) (i k : Nat) (hi : i ≤ 16) (hk : k < i) : (cwS A i).getD k 0 = A.getD (1 + k) 0 := by
  induction i with
  | zero => omega
  | succ i ih =>
    rw [cwS, setDI _ _ _ _ (by rw [cwS_len]; omega)]
    by_cases h : i = k
    · subst h; rw [if_pos rfl]
    · rw [if_neg h]; exact ih (by omega) (by omega)
theorem cwS_ge (A : List Int) (i k : Nat) (hi : i ≤ 16) (hk : i ≤ k) : (cwS A i).getD k 0 = (z 16).getD k 0 := by
  induction i with
  | zero => rfl
  | succ i ih => rw [cwS, setDI _ _ _ _ (by rw [cwS_len]; omega), if_neg (by omega)]; exact ih (by omega) (by omega)
theorem U8'_rm (K A : List Int) : U8' (rmac K A) := U8'_rsum _
theorem rmac_ln (K A : List Int) : (rmac K A).length = 32 := rsumL_len _
theorem fwI_all (A : List Int) : cwS A 12 = fiB A := by
  refine eqI_n 16 (by rw [cwS_len]) (fiB_len _) fun i hi => ?_
  rw [fiB, spl_getD _ _ _ _ _ _ hi]
  by_cases h : i < 12
  · rw [cwS_get _ _ _ (by omega) h, if_pos (by omega), Nat.sub_zero, getD_take' _ _ _ h, getD_take' _ _ _ h, getD_drop']
  · rw [cwS_ge _ _ _ (by omega) (by omega), if_neg (by omega)]
theorem streamI_nil (key first : List Int) : streamI key first [] = [] := List.length_eq_zero_iff.1 (streamI_ln _ _ _)
theorem seal1_d (C : List Int) (l n : Nat) (B : List Int) : ahB l n ++ streamI C (fiB (ahB l n)) B = seal1 C l n B := rfl
theorem sealB_r (M C : List Int) (l n : Nat) (B : List Int) (hB : B.length ≤ 100000) : seal1 C l n B ++ (rmac M (seal1 C l n B)).take 16 = sealB M C l n B := by
  rw [← hmB_rmac M _ (by rw [seal1_len]; omega)]; rfl
theorem U8'_stream (C F B : List Int) : U8' (streamI C F B) := fun i => by
  by_cases h : i < B.length
  · have e : (streamI C F B).getD i 0 = xorK .u8 (B.getD i 0) (pad C F i) := by rw [streamI, strN_get _ _ _ _ _ _ h (by omega)]
    rw [e]
    show 0 ≤ _ % (256 : Int) ∧ _ % (256 : Int) < 256
    omega
  · rw [List.getD_eq_getElem?_getD, List.getElem?_eq_none (by rw [streamI_ln]; omega)]; exact (show 0 ≤ (0 : Int) ∧ (0 : Int) < 256 from by decide)
theorem U8'_seal1 (C : List Int) (l n : Nat) (B : List Int) : U8' (seal1 C l n B) := U8'_app (U8_ahB l n) (U8'_stream _ _ _)
attribute [local irreducible] hmB streamI seal1 sealB ahB be fiB hmO tk rmac rsumL SB BK ks
theorem rput_c (B : List Int) (v n : Nat) (hn8 : n ≤ 8) (hv : v < 18446744073709551616) (hB : B.length ≤ 100000) : Con Tryz.prog 159 [.s (.fzi .u8 B), .s (.int .u64 ((v : Nat) : Int)), .s (.int .i64 ((n : Nat) : Int))] [] (.s (.gro 0 1 (B.length + n))) [some ⟨true, [.ints .u8 (B.length + n) (B ++ be n v)]⟩] := by
 refine con_in 13 Tryz.func159 rfl rfl (m := 0) rfl ?_
 intro E hP hn hE
 refine qz hP hn ?_
 refine s_op k_as ?_
 refine qx hP hn ?_
 refine o3 ?_
 refine s_op (k_min (by exact l_min (r := ((n : Nat) : Int)) rfl rfl (by split <;> omega))) ?_
 refine s_op (k_call [] (con := rrow_c n v hn8 hv)) ?_
 refine s_op (k_tmpN 0 [some ⟨true, [.ints .u8 (B.length + (be n v).length) (B ++ be n v)]⟩] (h := k_call [] (con := behind_m B (be n v) (by rw [be_len]; omega)) (hargs := by exact .cons rfl cv (.cons rfl (conv_gro (id := 0) (n := n) (kk := .u8) (l := be n v) (k := ⟨false, [.ints .u8 n (be n v)]⟩) (by rfl) rfl rfl (Nat.le_refl _) (be_len _ _) (List.take_of_length_le (Nat.le_of_eq (be_len _ _)))) .nil)) (hH := by rfl))) ?_
 refine s_op k_as ?_
 refine s_nil trivial (n_wp (w_ret ?_))
 rw [be_len]
 exact d_ret hP hn hE [1] (by first | exact r_tmp Tryz.results159 | exact r_tmpa Tryz.results159)

theorem rhead_c (l n : Nat) (hl : l < 4294967296) (hn64 : n < 18446744073709551616) : Con Tryz.prog 99 [.s (.int .u32 ((l : Nat) : Int)), .s (.int .u64 ((n : Nat) : Int))] [] (.s (.gro 0 1 13)) [some ⟨true, [.ints .u8 (13) (ahB l n)]⟩] := by
 refine con_in 13 Tryz.func99 rfl rfl (m := 0) rfl ?_
 intro E hP hn hE
 refine qz hP hn ?_
 refine s_op k_as ?_
 refine qx hP hn ?_
 refine s_op k_bsf ?_
 refine o2 ?_
 refine s_op (k_call [] (con := rput_c [9] l 4 (by decide) (by omega) (by decide))) ?_
 refine s_op k_as ?_
 refine s_nil trivial (n_wp (w_seq ?_))
 refine w_weak (frz_gro 5 (l' := [9] ++ be 4 l) (hn := Nat.le_refl _) (hl := by simp [be_len]) (hl' := List.take_of_length_le (by simp [be_len]))) ?_
 refine g_reg hP hn ?_
 refine o2 ?_
 refine s_op (k_call [] (con := rput_c ([9] ++ be 4 l) n 8 (by decide) hn64 (by simp [be_len]))) ?_
 refine s_op k_as ?_
 refine s_nil trivial (n_wp (w_ret ?_))
 have e13 : ([9] ++ be 4 l).length + 8 = 13 := by simp [be_len]
 rw [ahB_def, e13]
 exact d_ret hP hn hE [2] (by first | exact r_tmp Tryz.results99 | exact r_tmpa Tryz.results99)

theorem rstream_a (key first B : List Int) (hk : key.length = 16) (hk8 : U8 key) (hf : first.length = 16) (hf8 : U8 first) (hB : B.length ≤ 100000) : Con Tryz.prog 12 [.agg [.ints .u8 16 key], .agg [.ints .u8 16 first], .s (.fzi .u8 B)] [] (.s (.fzi .u8 (streamI key first B))) [] := by
  by_cases h0 : 0 < B.length
  · exact rstream_c key first B hk hk8 hf hf8 h0 hB
  · obtain rfl : B = [] := List.length_eq_zero_iff.1 (by omega)
    rw [streamI_nil]
    exact rstream0_c key first

theorem rstr_c (M C B : List Int) (l n : Nat) (hC : C.length = 16) (hC8 : U8 C) (hl : l < 4294967296) (hn64 : n < 18446744073709551616) (hB : B.length ≤ 100000) : Con Tryz.prog 100 [.agg [.ints .u8 32 M, .ints .u8 16 C], .s (.int .u32 ((l : Nat) : Int)), .s (.int .u64 ((n : Nat) : Int)), .s (.fzi .u8 B)] [] (.s (.fzi .u8 (streamI C (fiB (ahB l n)) B))) [] := by
 refine con_in 31 Tryz.func100 rfl rfl (m := 0) rfl ?_
 intro E hP hn hE
 refine qz hP hn ?_
 refine s_op k_bxf ?_
 refine s_op k_as ?_
 refine qx hP hn ?_
 refine s_op k_al ?_
 refine qx hP hn ?_
 refine o2 ?_
 refine s_op (k_call [] (con := rhead_c l n hl hn64)) ?_
 refine s_op k_as ?_
 refine s_nil trivial (n_wp (w_seq (w_seq ?_)))
 refine w_weak (frz_gro 10 (l' := ahB l n) (hn := Nat.le_refl _) (hl := ahB_len _ _) (hl' := List.take_of_length_le (Nat.le_of_eq (ahB_len _ _)))) ?_
 refine g_reg hP hn ?_
 refine s_op k_as ?_
 refine s_nil trivial (n_wp (w_block ?_))
 refine c_loop (fun m_ T H => ∃ i : Nat, i ≤ 12 ∧ m_ = 12 - i ∧ T = [(3, .s (.fzi .u8 B)), (4, .s (.fptr 48 (cellsF [.ints .u8 32 M, .ints .u8 16 C]) 0 0)), (9, .s (.ptr 0 0 0)), (10, .s (.fzi .u8 (ahB l n))), (11, .s (.int .i64 ((i : Nat) : Int)))] ∧ H = [some ⟨true, [.ints .u8 16 (cwS (ahB l n) i)]⟩]) (12) ⟨0, by omega, rfl, rfl, rfl⟩ (wk hE [1]) ?_
 rintro n_ T_ H_ ⟨i, hi, rfl, rfl, rfl⟩
 refine w_seq (qz hP hn ?_)
 refine o2 ?_
 refine s_nil trivial (n_wp ?_)
 refine w_if rfl (fun h_t16 => ?_) (fun h_t16 => ?_)
 · have hal := ahB_len l n
   have hcl := cwS_len (ahB l n) i
   refine w_skip (n_wp (w_seq (w_block (g_reg hP hn ?_))))
   refine o4 ?_
   refine o3 ?_
   refine s_st k_st ?_
   refine s_nil trivial (n_blo (n_wp (g_reg hP hn ?_)))
   refine o3 ?_
   refine s_nil trivial ?_
   exact n_round (12 - (i + 1)) (by omega) ⟨i + 1, by omega, rfl, rfl, rfl⟩ (wk hE [0])
 · obtain rfl : i = 12 := by omega
   rw [fwI_all]
   refine w_exit (x_thn (x_thn (x_eq (n_wp (qz hP hn ?_)))))
   refine o4 ?_
   refine s_op (k_call [] (con := rstream_a C (fiB (ahB l n)) B hC hC8 (fiB_len _) (U8_fiB (U8_ahB _ _)) hB)) ?_
   refine s_op k_as ?_
   refine s_nil trivial (n_wp (w_ret ?_))
   exact d_ret hP hn hE [] (by first | exact r_tmp Tryz.results100 | exact r_tmpa Tryz.results100)

theorem rmac_one (K A : List Int) (hK : K.length = 32) (hu : U8' A) (hl : A.length ≤ 800000) : Con Tryz.prog 95 [.s (.fzi .u8 K), .s (ROWS [A])] [] (.agg [.ints .u8 32 (rmac K A)]) [] := by
  have e : [A].flatten = A := by simp
  have c := rmac_c K [A] (by omega) (Nat.le_of_ble_eq_true rfl) (by rw [e]; exact hl) (by rw [e]; exact hu)
  rwa [e] at c

theorem rend_c (M C B : List Int) (hM : M.length = 32) (hu : U8' B) (hB : B.length ≤ 800000) : Con Tryz.prog 101 [.agg [.ints .u8 32 M, .ints .u8 16 C], .s (.fzi .u8 B)] [] (.s (.gro 0 1 16)) [some ⟨true, [.ints .u8 (16) ((rmac M B).take 16)]⟩] := by
 refine con_in 13 Tryz.func101 rfl rfl (m := 0) rfl ?_
 intro E hP hn hE
 refine qz hP hn ?_
 refine s_op k_bxf ?_
 refine s_op k_as ?_
 refine qx hP hn ?_
 refine s_op k_fa ?_
 refine s_op k_slp ?_
 refine s_op k_mv ?_
 refine s_op (k_bsz [.fzi .u8 B]) ?_
 refine s_op (k_call [] (con := rmac_one M B hM hu hB)) ?_
 refine s_op k_al ?_
 refine s_st k_st ?_
 refine s_nil trivial (n_wp (w_seq ?_))
 have hrl : (rmac M B).length = 32 := rmac_ln _ _
 refine w_weak (T' := [(5, .s (.fptr 32 (cellsF [.ints .u8 32 (rmac M B)]) 0 0))]) (H' := [some ⟨true, [.ints .u8 0 []]⟩]) ((frz_ptr 5 32).trans ((wk (T' := [(5, .s (.fptr 32 (cellsF [.ints .u8 32 (rmac M B)]) 0 0))]) (H' := []) hE []).trans (weak_new rfl))) ?_
 refine g_reg hP hn ?_
 refine s_op (k_slph 16 (hxl := hrl)) ?_
 refine s_op (k_apn 0 (m := 16) (hm := by rw [List.length_take, hrl]; rfl)) ?_
 refine s_op k_as ?_
 refine s_nil trivial (n_wp (w_ret ?_))
 exact d_ret hP hn hE [1] (by first | exact r_tmp Tryz.results101 | exact r_tmpa Tryz.results101)

theorem rseal_long (M C B : List Int) (l n : Int) (h : 2019 < B.length) (hB : B.length ≤ 100000) : Con Tryz.prog 21 [.agg [.ints .u8 32 M, .ints .u8 16 C], .s (.int .u32 l), .s (.int .u64 n), .s (.fzi .u8 B)] [] (.tup [.s .nils, .s (.int .i64 3)]) [] := by
 refine con_in 29 Tryz.func21 rfl rfl (m := 0) rfl ?_
 intro E hP hn hE
 refine qz hP hn ?_
 refine s_op k_bxf ?_
 refine o2 ?_
 refine s_nil trivial (n_wp (w_seq (qz hP hn ?_)))
 refine o4 ?_
 refine s_nil trivial (n_wp ?_)
 refine w_T rfl ?_ (decide_eq_true (by omega))
 refine qz hP hn ?_
 refine o2 ?_
 refine s_nil trivial (n_wp (w_ret (r_thn ?_)))
 exact d_ret hP hn hE [] (ret2 Tryz.results21 (by first | exact ri_tmp rfl | exact ri_tmpa rfl) (by first | exact ri_tmp rfl | exact ri_tmpa rfl))

theorem rseal_c (M C B : List Int) (l n : Nat) (hM : M.length = 32) (hC : C.length = 16) (hC8 : U8 C) (hl : l < 4294967296) (hn64 : n < 18446744073709551616) (h : B.length ≤ 2019) : Con Tryz.prog 21 [.agg [.ints .u8 32 M, .ints .u8 16 C], .s (.int .u32 ((l : Nat) : Int)), .s (.int .u64 ((n : Nat) : Int)), .s (.fzi .u8 B)] [] (.tup [.s (.fzi .u8 (sealB M C l n B)), .s (.int .i64 0)]) [] := by
 refine con_in 29 Tryz.func21 rfl rfl (m := 0) rfl ?_
 intro E hP hn hE
 refine qz hP hn ?_
 refine s_op k_bxf ?_
 refine o2 ?_
 refine s_nil trivial (n_wp (w_seq (qz hP hn ?_)))
 refine o4 ?_
 refine s_nil trivial (n_wp ?_)
 refine w_F rfl ?_ (decide_eq_false (by omega))
 refine w_skip (n_wp (w_seq ?_))
 refine g_any hP hn ?_
 refine o2 ?_
 refine s_op (k_call [] (con := rhead_c l n hl hn64) (H' := [none, some ⟨true, [.ints .u8 (13) (ahB l n)]⟩]) (hH := by kernel_rfl)) ?_
 refine o4 ?_
 refine s_op (k_call [] (con := rstr_c M C B l n hC hC8 hl hn64 (by omega))) ?_
 refine s_op (k_apg (c := 13 + B.length) (l' := seal1 C l n B) (hc := by rw [streamI_ln]) (hl := ahB_len _ _) (hq := by exact Nat.le_refl _) (hl' := by rw [List.take_of_length_le (Nat.le_of_eq (ahB_len _ _)), seal1_d]) (hbig := by rw [streamI_ln]; omega)) ?_
 refine s_op k_as ?_
 refine s_nil (by kernel_rfl) ?_
 refine n_wp (qz hP hn ?_)
 refine o3 ?_
 refine s_op (k_tmpN 2 [some ⟨true, [.ints .u8 16 ((rmac M (seal1 C l n B)).take 16)]⟩] (h := k_call [] (con := rend_c M C (seal1 C l n B) hM (U8'_seal1 _ _ _ _) (by rw [seal1_len]; omega)) (hargs := by exact .cons rfl cv (.cons rfl (conv_gro (id := 2) (n := 13 + B.length) (kk := .u8) (l := seal1 C l n B) (k := ⟨false, [.ints .u8 (13 + B.length) (seal1 C l n B)]⟩) (by rfl) rfl rfl (Nat.le_refl _) (seal1_len _ _ _ _) (List.take_of_length_le (Nat.le_of_eq (seal1_len _ _ _ _)))) .nil)) (hH := by rfl))) ?_
 refine s_op (k_apgg (c := 13 + B.length + 16) (l' := sealB M C l n B) (hl := seal1_len _ _ _ _) (hl' := by exact sealB_r M C l n B (by omega))) ?_
 refine o2 ?_
 refine s_nil trivial (n_wp ?_)
 refine w_weak (frz_gro 8 (l' := sealB M C l n B) (hn := Nat.le_refl _) (hl := by rw [sealB_len]; omega) (hl' := List.take_of_length_le (by rw [sealB_len]; omega))) ?_
 refine w_ret ?_
 exact d_ret hP hn hE [] (ret2 Tryz.results21 (by first | exact ri_tmp rfl | exact ri_tmpa rfl) (by first | exact ri_tmp rfl | exact ri_tmpa rfl))

end Go.Proofs.X
end

section
set_option maxRecDepth 100000
set_option maxHeartbeats 4000000
open Go Go.Bx Go.Proofs
namespace Go.Proofs.X
set_option maxRecDepth 100000
set_option maxHeartbeats 4000000
theorem be_gN {w : List Int} (hu : U8' w) (n : Nat) (hn : n ≤ w.length) : be n (gN w n) = w.take n := by
  induction n generalizing w with
  | zero => rfl
  | succ n ih =>
    obtain ⟨x, hx⟩ := Int.eq_ofNat_of_zero_le (hu n).1
    have hx2 := (hu n).2
    have hg : gN w (n + 1) = 256 * gN w n + x := by rw [gN, hx]; rfl
    rw [be_s, hg, show (256 * gN w n + x) / 256 = gN w n by omega, show (256 * gN w n + x) % 256 = x by omega, ih hu (by omega), List.take_add_one, List.getElem?_eq_getElem (by omega)]
    rw [List.getD_eq_getElem?_getD, List.getElem?_eq_getElem (by omega)] at hx
    simp only [Option.getD_some] at hx
    simp [hx]
theorem fi_ah {B : List Int} (hu : U8' B) (h : 29 ≤ B.length) : fiB (ahB (laneB B) (numB B)) = fiB B := by
  have e : (ahB (laneB B) (numB B)).drop 1 = (B.drop 1).take 12 := by
    show ([9] ++ be 4 (laneB B) ++ be 8 (numB B)).drop 1 = _
    rw [List.append_assoc]
    show be 4 (laneB B) ++ be 8 (numB B) = _
    rw [laneB, numB, be_gN (U8'_drop hu 1) 4 (by simp; omega), be_gN (U8'_drop hu 5) 8 (by simp; omega)]
    rw [show (12 : Nat) = 4 + 8 from rfl, List.take_add, List.drop_drop]
  rw [fiB, fiB, e, List.take_take, List.take_take, List.take_take]
  rfl
attribute [local irreducible] hmB streamI seal1 sealB ahB be fiB hmO tk rmac rsumL SB BK ks
theorem rtold_0 : Con Tryz.prog 160 [.s (.fzi .u8 [])] [] (.s (.int .u64 ((0 : Nat) : Int))) [] := by
 refine con_in 21 Tryz.func160 rfl rfl (m := 0) rfl ?_
 intro E hP hn hE
 refine qz hP hn ?_
 refine s_op k_as ?_
 refine s_nil trivial (n_wp (w_seq (qz hP hn ?_)))
 refine o3 ?_
 refine s_nil trivial (n_wp ?_)
 refine w_T rfl ?_ 
 refine qz hP hn ?_
 refine s_op k_as ?_
 refine s_nil trivial (n_wp (w_ret (r_thn ?_)))
 exact d_ret hP hn hE [] (by first | exact r_tmp Tryz.results160 | exact r_tmpa Tryz.results160)

theorem rtold_s (B : List Int) (m : Nat) (hm : m < 8) (hB : B.length = m + 1) (hu : U8' B) (ih : Con Tryz.prog 160 [.s (.fzi .u8 ((B.drop 0).take m))] [] (.s (.int .u64 ((gN B m : Nat) : Int))) []) : Con Tryz.prog 160 [.s (.fzi .u8 B)] [] (.s (.int .u64 ((gN B (m + 1) : Nat) : Int))) [] := by
 refine con_in 21 Tryz.func160 rfl rfl (m := 0) rfl ?_
 intro E hP hn hE
 have hg := gN_lt hu m
 have hg1 := gN_lt hu (m + 1)
 have hp : (256 : Nat) ^ (m + 1) ≤ 256 ^ 8 := Nat.pow_le_pow_right (by omega) (by omega)
 have hpe : (256 : Nat) ^ 8 = 18446744073709551616 := rfl
 obtain ⟨x, hx⟩ := Int.eq_ofNat_of_zero_le (hu m).1
 have hx2 := (hu m).2
 have hgs : gN B (m + 1) = 256 * gN B m + x := by rw [gN, hx]; rfl
 have hcv : IntKind.u64.wrap (B.getD m 0) = ((x : Nat) : Int) := by rw [hx, wrap64' (by omega)]
 have hmul : ∀ g : Nat, g < 256 ^ m → IntKind.u64.wrap (256 * ((g : Nat) : Int)) = ((256 * g : Nat) : Int) := fun g h => by
   have e : (256 : Nat) ^ (m + 1) = 256 * 256 ^ m := by rw [Nat.pow_succ, Nat.mul_comm]
   have e2 : 256 * g < 256 ^ (m + 1) := by rw [e]; exact Nat.mul_lt_mul_of_pos_left h (by omega)
   rw [show (256 * ((g : Nat) : Int)) = ((256 * g : Nat) : Int) by omega, wrap64' (by omega)]
 have hadd : IntKind.u64.wrap (((256 * gN B m : Nat) : Int) + ((x : Nat) : Int)) = ((gN B (m + 1) : Nat) : Int) := by rw [hgs, ← Int.natCast_add, wrap64' (by omega)]
 refine qz hP hn ?_
 refine s_op k_as ?_
 refine s_nil trivial (n_wp (w_seq (qz hP hn ?_)))
 refine o3 ?_
 refine s_nil trivial (n_wp ?_)
 refine w_F rfl ?_ (decide_eq_false (by omega))
 refine w_skip (n_wp (qz hP hn ?_))
 refine o2 ?_
 refine s_op (k_sub (by exact l_bin rfl rfl (b_sub (r := ((m : Nat) : Int)) (by rw [wrap_i64 (by omega)]; omega)))) ?_
 refine s_op k_as ?_
 refine s_nil trivial (n_wp (w_seq ?_))
 refine g_any hP hn ?_
 refine o2 ?_
 refine s_op k_sl ?_
 refine s_op (k_call [] (con := ih)) ?_
 refine s_op (l_bin rfl rfl (b_mul (r := ((256 * gN B m : Nat) : Int)) (hmul _ hg))) ?_
 refine o4 ?_
 refine s_op (k_cv (by exact a_conv rfl hcv)) ?_
 refine s_op (l_bin rfl rfl (b_add (r := ((gN B (m + 1) : Nat) : Int)) hadd)) ?_
 refine s_op k_as ?_
 refine s_nil (by kernel_rfl) ?_
 refine n_wp (w_ret ?_)
 exact d_ret hP hn hE [] (by first | exact r_tmp Tryz.results160 | exact r_tmpa Tryz.results160)

theorem rtold_c : ∀ (m : Nat) (B : List Int), B.length = m → m ≤ 8 → U8' B → Con Tryz.prog 160 [.s (.fzi .u8 B)] [] (.s (.int .u64 ((gN B m : Nat) : Int))) [] := by
  intro m
  induction m with
  | zero => intro B h _ _; obtain rfl : B = [] := List.length_eq_zero_iff.1 h; exact rtold_0
  | succ m ih =>
    intro B h h8 hu
    have c := ih ((B.drop 0).take m) (by rw [List.drop_zero, List.length_take]; omega) (by omega) (U8'_take (U8'_drop hu 0) m)
    rw [show gN ((B.drop 0).take m) m = gN B m by rw [List.drop_zero, gN_take _ _ _ (Nat.le_refl _)]] at c
    exact rtold_s B m (by omega) h hu c

theorem rget_c (B : List Int) (m : Nat) (h8 : m ≤ 8) (hm : m ≤ B.length) (hu : U8' B) : Con Tryz.prog 104 [.s (.fzi .u8 B), .s (.int .i64 ((m : Nat) : Int))] [] (.tup [.s (.int .u64 ((gN B m : Nat) : Int)), .s (.int .i64 0)]) [] := by
 refine con_in 22 Tryz.func104 rfl rfl (m := 0) rfl ?_
 intro E hP hn hE
 have htold := rtold_c m ((B.drop 0).take m) (by rw [List.drop_zero, List.length_take]; omega) h8 (U8'_take (U8'_drop hu 0) m)
 rw [show gN ((B.drop 0).take m) m = gN B m by rw [List.drop_zero, gN_take _ _ _ (Nat.le_refl _)]] at htold
 refine qz hP hn ?_
 refine o2 ?_
 refine s_nil trivial (n_wp (w_seq (w_block (qz hP hn ?_))))
 refine s_op k_mv ?_
 refine s_op (l_bin rfl rfl (b_lss (r := false) (decide_eq_false (by omega)))) ?_
 refine s_op k_mv ?_
 refine s_on rfl rfl rfl k_mv ?_
 refine s_on rfl rfl rfl (l_bin rfl rfl (b_gtr (r := false) (decide_eq_false (by omega)))) ?_
 refine o2 ?_
 refine s_nil trivial (n_wp ?_)
 refine w_F rfl ?_ 
 refine qz hP hn ?_
 refine o3 ?_
 refine o2 ?_
 refine s_nil trivial (n_wp ?_)
 refine w_F rfl ?_ (decide_eq_false (by omega))
 refine w_skip (n_blo (n_wp (qz hP hn ?_)))
 refine o2 ?_
 refine s_op k_sl ?_
 refine s_op (k_call [] (con := htold)) ?_
 refine o2 ?_
 refine s_nil trivial (n_wp (w_ret ?_))
 exact d_ret hP hn hE [] (ret2 Tryz.results104 (by first | exact ri_tmp rfl | exact ri_tmpa rfl) (by first | exact ri_tmp rfl | exact ri_tmpa rfl))

theorem rlane_long (B : List Int) (h : 2048 < B.length) : Con Tryz.prog 25 [.s (.fzi .u8 B)] [] (.tup [.s (.int .u32 0), .s (.int .i64 3)]) [] := by
 refine con_in 24 Tryz.func25 rfl rfl (m := 0) rfl ?_
 intro E hP hn hE
 refine qz hP hn ?_
 refine o2 ?_
 refine s_nil trivial (n_wp (w_seq (qz hP hn ?_)))
 refine o3 ?_
 refine s_nil trivial (n_wp ?_)
 refine w_T rfl ?_ (decide_eq_true (by omega))
 refine qz hP hn ?_
 refine o2 ?_
 refine s_nil trivial (n_wp (w_ret (r_thn ?_)))
 exact d_ret hP hn hE [] (ret2 Tryz.results25 (by first | exact ri_tmp rfl | exact ri_tmpa rfl) (by first | exact ri_tmp rfl | exact ri_tmpa rfl))

theorem rlane_short (B : List Int) (h : B.length < 29) : Con Tryz.prog 25 [.s (.fzi .u8 B)] [] (.tup [.s (.int .u32 0), .s (.int .i64 5)]) [] := by
 refine con_in 24 Tryz.func25 rfl rfl (m := 0) rfl ?_
 intro E hP hn hE
 refine qz hP hn ?_
 refine o2 ?_
 refine s_nil trivial (n_wp (w_seq (qz hP hn ?_)))
 refine o3 ?_
 refine s_nil trivial (n_wp ?_)
 refine w_F rfl ?_ (decide_eq_false (by omega))
 refine w_skip (n_wp (w_seq (qz hP hn ?_)))
 refine o3 ?_
 refine s_nil trivial (n_wp ?_)
 refine w_T rfl ?_ (decide_eq_true (by omega))
 refine qz hP hn ?_
 refine o2 ?_
 refine s_nil trivial (n_wp (w_ret (r_thn ?_)))
 exact d_ret hP hn hE [] (ret2 Tryz.results25 (by first | exact ri_tmp rfl | exact ri_tmpa rfl) (by first | exact ri_tmp rfl | exact ri_tmpa rfl))

theorem rlane_form (B : List Int) (h : 29 ≤ B.length) (h2 : B.length ≤ 2048) (h9 : B.getD 0 0 ≠ 9) : Con Tryz.prog 25 [.s (.fzi .u8 B)] [] (.tup [.s (.int .u32 0), .s (.int .i64 4)]) [] := by
 refine con_in 24 Tryz.func25 rfl rfl (m := 0) rfl ?_
 intro E hP hn hE
 refine qz hP hn ?_
 refine o2 ?_
 refine s_nil trivial (n_wp (w_seq (qz hP hn ?_)))
 refine o3 ?_
 refine s_nil trivial (n_wp ?_)
 refine w_F rfl ?_ (decide_eq_false (by omega))
 refine w_skip (n_wp (w_seq (qz hP hn ?_)))
 refine o3 ?_
 refine s_nil trivial (n_wp ?_)
 refine w_F rfl ?_ (decide_eq_false (by omega))
 refine w_skip (n_wp (w_seq (qz hP hn ?_)))
 refine o4 ?_
 refine s_nil trivial (n_wp ?_)
 refine w_T rfl ?_ (decide_eq_true h9)
 refine qz hP hn ?_
 refine o2 ?_
 refine s_nil trivial (n_wp (w_ret (r_thn ?_)))
 exact d_ret hP hn hE [] (ret2 Tryz.results25 (by first | exact ri_tmp rfl | exact ri_tmpa rfl) (by first | exact ri_tmp rfl | exact ri_tmpa rfl))

theorem rlane_ok (B : List Int) (h : 29 ≤ B.length) (h2 : B.length ≤ 2048) (h9 : B.getD 0 0 = 9) (hu : U8' B) : Con Tryz.prog 25 [.s (.fzi .u8 B)] [] (.tup [.s (.int .u32 ((laneB B : Nat) : Int)), .s (.int .i64 0)]) [] := by
 refine con_in 24 Tryz.func25 rfl rfl (m := 0) rfl ?_
 intro E hP hn hE
 have hlt := laneB_lt hu
 have hget4 := rget_c ((B.drop 1).take (B.length - 1)) 4 (by decide) (by simp; omega) (U8'_take (U8'_drop hu 1) _)
 rw [show gN ((B.drop 1).take (B.length - 1)) 4 = laneB B by rw [List.take_of_length_le (by simp)]; rfl] at hget4
 have hcv : IntKind.u32.wrap ((laneB B : Nat) : Int) = ((laneB B : Nat) : Int) := wrap_u32 (by omega) (by omega)
 refine qz hP hn ?_
 refine o2 ?_
 refine s_nil trivial (n_wp (w_seq (qz hP hn ?_)))
 refine o3 ?_
 refine s_nil trivial (n_wp ?_)
 refine w_F rfl ?_ (decide_eq_false (by omega))
 refine w_skip (n_wp (w_seq (qz hP hn ?_)))
 refine o3 ?_
 refine s_nil trivial (n_wp ?_)
 refine w_F rfl ?_ (decide_eq_false (by omega))
 refine w_skip (n_wp (w_seq (qz hP hn ?_)))
 refine o4 ?_
 refine s_nil trivial (n_wp ?_)
 refine w_F rfl ?_ (decide_eq_false (fun k => k h9))
 refine w_skip (n_wp (qz hP hn ?_))
 refine s_op k_mv ?_
 refine s_op k_sl ?_
 refine s_op (k_call [] (con := hget4)) ?_
 refine o3 ?_
 refine o2 ?_
 refine qx hP hn ?_
 refine s_op k_mv ?_
 refine s_op (k_cv (by exact a_conv rfl hcv)) ?_
 refine o2 ?_
 refine s_nil trivial (n_wp (w_ret ?_))
 exact d_ret hP hn hE [] (ret2 Tryz.results25 (by first | exact ri_tmp rfl | exact ri_tmpa rfl) (by first | exact ri_tmp rfl | exact ri_tmpa rfl))

theorem ropen_long (M C B : List Int) (h : 2048 < B.length) : Con Tryz.prog 23 [.agg [.ints .u8 32 M, .ints .u8 16 C], .s (.fzi .u8 B)] [] (.tup [.s (.int .u32 0), .s (.int .u64 0), .s .nils, .s (.int .i64 3)]) [] := by
 refine con_in 50 Tryz.func23 rfl rfl (m := 0) rfl ?_
 intro E hP hn hE
 refine qz hP hn ?_
 refine s_op k_bxf ?_
 refine o4 ?_
 refine qx hP hn ?_
 refine s_op k_mv ?_
 refine s_op (k_call [] (con := rlane_long B h)) ?_
 refine o3 ?_
 refine o2 ?_
 refine s_nil trivial (n_wp (w_seq (qz hP hn ?_)))
 refine o2 ?_
 refine s_nil trivial (n_wp ?_)
 refine w_T rfl ?_ 
 refine qz hP hn ?_
 refine o3 ?_
 refine o2 ?_
 refine s_nil trivial (n_wp (w_ret (r_thn ?_)))
 exact d_ret hP hn hE [] (ret4 Tryz.results23 (by first | exact ri_tmp rfl | exact ri_tmpa rfl) (by first | exact ri_tmp rfl | exact ri_tmpa rfl) (by first | exact ri_tmp rfl | exact ri_tmpa rfl) (by first | exact ri_tmp rfl | exact ri_tmpa rfl))

theorem ropen_short (M C B : List Int) (h : B.length < 29) : Con Tryz.prog 23 [.agg [.ints .u8 32 M, .ints .u8 16 C], .s (.fzi .u8 B)] [] (.tup [.s (.int .u32 0), .s (.int .u64 0), .s .nils, .s (.int .i64 5)]) [] := by
 refine con_in 50 Tryz.func23 rfl rfl (m := 0) rfl ?_
 intro E hP hn hE
 refine qz hP hn ?_
 refine s_op k_bxf ?_
 refine o4 ?_
 refine qx hP hn ?_
 refine s_op k_mv ?_
 refine s_op (k_call [] (con := rlane_short B h)) ?_
 refine o3 ?_
 refine o2 ?_
 refine s_nil trivial (n_wp (w_seq (qz hP hn ?_)))
 refine o2 ?_
 refine s_nil trivial (n_wp ?_)
 refine w_T rfl ?_ 
 refine qz hP hn ?_
 refine o3 ?_
 refine o2 ?_
 refine s_nil trivial (n_wp (w_ret (r_thn ?_)))
 exact d_ret hP hn hE [] (ret4 Tryz.results23 (by first | exact ri_tmp rfl | exact ri_tmpa rfl) (by first | exact ri_tmp rfl | exact ri_tmpa rfl) (by first | exact ri_tmp rfl | exact ri_tmpa rfl) (by first | exact ri_tmp rfl | exact ri_tmpa rfl))

theorem ropen_form (M C B : List Int) (h : 29 ≤ B.length) (h2 : B.length ≤ 2048) (h9 : B.getD 0 0 ≠ 9) : Con Tryz.prog 23 [.agg [.ints .u8 32 M, .ints .u8 16 C], .s (.fzi .u8 B)] [] (.tup [.s (.int .u32 0), .s (.int .u64 0), .s .nils, .s (.int .i64 4)]) [] := by
 refine con_in 50 Tryz.func23 rfl rfl (m := 0) rfl ?_
 intro E hP hn hE
 refine qz hP hn ?_
 refine s_op k_bxf ?_
 refine o4 ?_
 refine qx hP hn ?_
 refine s_op k_mv ?_
 refine s_op (k_call [] (con := rlane_form B h h2 h9)) ?_
 refine o3 ?_
 refine o2 ?_
 refine s_nil trivial (n_wp (w_seq (qz hP hn ?_)))
 refine o2 ?_
 refine s_nil trivial (n_wp ?_)
 refine w_T rfl ?_ 
 refine qz hP hn ?_
 refine o3 ?_
 refine o2 ?_
 refine s_nil trivial (n_wp (w_ret (r_thn ?_)))
 exact d_ret hP hn hE [] (ret4 Tryz.results23 (by first | exact ri_tmp rfl | exact ri_tmpa rfl) (by first | exact ri_tmp rfl | exact ri_tmpa rfl) (by first | exact ri_tmp rfl | exact ri_tmpa rfl) (by first | exact ri_tmp rfl | exact ri_tmpa rfl))

theorem ropen_bad (M C B : List Int) (hM : M.length = 32) (hC : C.length = 16) (hC8 : U8 C) (hU : U8' B) (h29 : 29 ≤ B.length) (h2 : B.length ≤ 2048) (h9 : B.getD 0 0 = 9) (hmac : ¬ (hmB M (B.take (B.length - 16))).take 16 = B.drop (B.length - 16)) : Con Tryz.prog 23 [.agg [.ints .u8 32 M, .ints .u8 16 C], .s (.fzi .u8 B)] [] (.tup [.s (.int .u32 0), .s (.int .u64 0), .s .nils, .s (.int .i64 11)]) [] := by
 refine con_in 50 Tryz.func23 rfl rfl (m := 0) rfl ?_
 intro E hP hn hE
 have hrl : (rmac M ((B.drop 0).take (B.length - 16))).length = 32 := rmac_ln _ _
 have hru : U8' (rmac M ((B.drop 0).take (B.length - 16))) := U8'_rm _ _
 have hEB : ((B.drop 0).take (B.length - 16)) = B.take (B.length - 16) := by rw [List.drop_zero]
 have hTA : ((B.drop (B.length - 16)).take (B.length - (B.length - 16))) = B.drop (B.length - 16) := List.take_of_length_le (by simp)
 have hmr : hmB M (B.take (B.length - 16)) = rmac M ((B.drop 0).take (B.length - 16)) := by rw [hEB]; exact hmB_rmac _ _ (by simp; omega)
 have hsq := strNums_eq (A := (rmac M ((B.drop 0).take (B.length - 16))).take 16) (B := ((B.drop (B.length - 16)).take (B.length - (B.length - 16)))) (by rw [List.length_take, hrl, List.length_take, List.length_drop]; omega) (U8'_take hru _) (U8'_take (U8'_drop hU _) _)
 refine qz hP hn ?_
 refine s_op k_bxf ?_
 refine o4 ?_
 refine qx hP hn ?_
 refine s_op k_mv ?_
 refine s_op (k_call [] (con := rlane_ok B h29 h2 h9 hU)) ?_
 refine o3 ?_
 refine o2 ?_
 refine s_nil trivial (n_wp (w_seq (qz hP hn ?_)))
 refine o2 ?_
 refine s_nil trivial (n_wp ?_)
 refine w_F rfl ?_ 
 refine w_skip (n_wp (qz hP hn ?_))
 refine o4 ?_
 refine s_nil trivial (n_wp (w_seq (w_seq ?_)))
 refine g_any hP hn ?_
 refine o3 ?_
 refine s_op k_sl ?_
 refine s_op (k_call [] (con := rend_c M C ((B.drop 0).take (B.length - 16)) hM (U8'_take (U8'_drop hU 0) _) (by rw [List.drop_zero, List.length_take]; omega)) (H' := [none, some ⟨true, [.ints .u8 (16) ((rmac M ((B.drop 0).take (B.length - 16))).take 16)]⟩]) (hH := by kernel_rfl)) ?_
 refine s_op (k_strg (hl := by rw [List.length_take, hrl]; rfl)) ?_
 refine o2 ?_
 refine s_op k_sl ?_
 refine s_op k_str ?_
 refine s_op (k_sneq true (by rw [hsq, decide_eq_false (fun e => hmac (by rw [hmr, e, hTA]))]; rfl)) ?_
 refine s_nil (by kernel_rfl) ?_
 refine n_wp ?_
 refine w_T rfl ?_ 
 refine qz hP hn ?_
 refine o4 ?_
 refine s_nil trivial (n_wp (w_ret (r_thn ?_)))
 exact d_ret hP hn hE [] (ret4 Tryz.results23 (by first | exact ri_tmp rfl | exact ri_tmpa rfl) (by first | exact ri_tmp rfl | exact ri_tmpa rfl) (by first | exact ri_tmp rfl | exact ri_tmpa rfl) (by first | exact ri_tmp rfl | exact ri_tmpa rfl))

theorem ropen_ok (M C B : List Int) (hM : M.length = 32) (hC : C.length = 16) (hC8 : U8 C) (hU : U8' B) (h29 : 29 ≤ B.length) (h2 : B.length ≤ 2048) (h9 : B.getD 0 0 = 9) (hmac : (hmB M (B.take (B.length - 16))).take 16 = B.drop (B.length - 16)) : Con Tryz.prog 23 [.agg [.ints .u8 32 M, .ints .u8 16 C], .s (.fzi .u8 B)] [] (.tup [.s (.int .u32 ((laneB B : Nat) : Int)), .s (.int .u64 ((numB B : Nat) : Int)), .s (.fzi .u8 (streamI C (fiB B) (bodyB B))), .s (.int .i64 0)]) [] := by
 refine con_in 50 Tryz.func23 rfl rfl (m := 0) rfl ?_
 intro E hP hn hE
 have hrl : (rmac M ((B.drop 0).take (B.length - 16))).length = 32 := rmac_ln _ _
 have hru : U8' (rmac M ((B.drop 0).take (B.length - 16))) := U8'_rm _ _
 have hEB : ((B.drop 0).take (B.length - 16)) = B.take (B.length - 16) := by rw [List.drop_zero]
 have hTA : ((B.drop (B.length - 16)).take (B.length - (B.length - 16))) = B.drop (B.length - 16) := List.take_of_length_le (by simp)
 have hmr : hmB M (B.take (B.length - 16)) = rmac M ((B.drop 0).take (B.length - 16)) := by rw [hEB]; exact hmB_rmac _ _ (by simp; omega)
 have hsq := strNums_eq (A := (rmac M ((B.drop 0).take (B.length - 16))).take 16) (B := ((B.drop (B.length - 16)).take (B.length - (B.length - 16)))) (by rw [List.length_take, hrl, List.length_take, List.length_drop]; omega) (U8'_take hru _) (U8'_take (U8'_drop hU _) _)
 have hget8 := rget_c ((B.drop 5).take (B.length - 5)) 8 (by decide) (by simp; omega) (U8'_take (U8'_drop hU 5) _)
 rw [show gN ((B.drop 5).take (B.length - 5)) 8 = numB B by rw [List.take_of_length_le (by simp)]; rfl] at hget8
 have hstr := rstr_c M C (bodyB B) (laneB B) (numB B) hC hC8 (laneB_lt hU) (numB_lt hU) (by simp [bodyB]; omega)
 rw [show fiB (ahB (laneB B) (numB B)) = fiB B from fi_ah hU h29] at hstr
 refine qz hP hn ?_
 refine s_op k_bxf ?_
 refine o4 ?_
 refine qx hP hn ?_
 refine s_op k_mv ?_
 refine s_op (k_call [] (con := rlane_ok B h29 h2 h9 hU)) ?_
 refine o3 ?_
 refine o2 ?_
 refine s_nil trivial (n_wp (w_seq (qz hP hn ?_)))
 refine o2 ?_
 refine s_nil trivial (n_wp ?_)
 refine w_F rfl ?_ 
 refine w_skip (n_wp (qz hP hn ?_))
 refine o4 ?_
 refine s_nil trivial (n_wp (w_seq (w_seq ?_)))
 refine g_any hP hn ?_
 refine o3 ?_
 refine s_op k_sl ?_
 refine s_op (k_call [] (con := rend_c M C ((B.drop 0).take (B.length - 16)) hM (U8'_take (U8'_drop hU 0) _) (by rw [List.drop_zero, List.length_take]; omega)) (H' := [none, some ⟨true, [.ints .u8 (16) ((rmac M ((B.drop 0).take (B.length - 16))).take 16)]⟩]) (hH := by kernel_rfl)) ?_
 refine s_op (k_strg (hl := by rw [List.length_take, hrl]; rfl)) ?_
 refine o2 ?_
 refine s_op k_sl ?_
 refine s_op k_str ?_
 refine s_op (k_sneq false (by rw [hsq, decide_eq_true (by rw [← hmr, hmac, hTA])]; rfl)) ?_
 refine s_nil (by kernel_rfl) ?_
 refine n_wp ?_
 refine w_F rfl ?_ 
 refine w_skip (n_wp (qz hP hn ?_))
 refine s_op k_mv ?_
 refine s_op k_sl ?_
 refine s_op (k_call [] (con := hget8)) ?_
 refine o3 ?_
 refine o2 ?_
 refine s_nil trivial (n_wp (w_seq ?_))
 refine g_any hP hn ?_
 refine o4 ?_
 refine o3 ?_
 refine s_op k_sl ?_
 refine s_op (k_call [] (con := hstr)) ?_
 refine o4 ?_
 refine s_nil (by kernel_rfl) ?_
 refine n_wp (w_ret ?_)
 exact d_ret hP hn hE [] (ret4 Tryz.results23 (by first | exact ri_tmp rfl | exact ri_tmpa rfl) (by first | exact ri_tmp rfl | exact ri_tmpa rfl) (by first | exact ri_tmp rfl | exact ri_tmpa rfl) (by first | exact ri_tmp rfl | exact ri_tmpa rfl))

end Go.Proofs.X
end

section
set_option maxRecDepth 100000
set_option maxHeartbeats 4000000
open Go Go.Bx Go.Proofs
namespace Go.Proofs.X
set_option maxRecDepth 100000
set_option maxHeartbeats 4000000
theorem same_n (A : List Int) (hA : A.length ≤ 1000000) : Con Tryz.prog 11 [.s (.fzi .u8 A), .s (.fzi .u8 A)] [] (.s (.bool true)) [] := by
 refine con_in 26 Tryz.func11 rfl rfl (m := 0) rfl ?_
 intro E hP hn hE
 refine qz hP hn ?_
 refine s_op k_as ?_
 refine s_nil trivial (n_wp (w_seq (qz hP hn ?_)))
 refine o4 ?_
 refine s_op (l_bin rfl rfl (b_neq (r := false) (decide_eq_false (fun h => h rfl)))) ?_
 refine s_nil trivial (n_wp ?_)
 refine w_F rfl ?_ 
 refine w_skip (n_wp (w_seq (qz hP hn ?_)))
 refine s_op k_as ?_
 refine s_nil trivial (n_wp (w_block ?_))
 refine c_loop (fun m_ T H => ∃ i, i ≤ A.length ∧ m_ = A.length - i ∧ T = [(0, .s (.fzi .u8 A)), (1, .s (.fzi .u8 A)), (5, .s (.int .i64 ((i : Nat) : Int)))] ∧ H = []) (A.length) ⟨0, by omega, rfl, rfl, rfl⟩ (wk hE []) ?_
 rintro n_ T_ H_ ⟨i, hi, rfl, rfl, rfl⟩
 refine w_seq (qz hP hn ?_)
 refine o4 ?_
 refine s_nil trivial (n_wp ?_)
 refine w_if rfl (fun h_t14 => ?_) (fun h_t14 => ?_)
 · refine w_skip (n_wp (w_seq (w_block (w_seq ?_))))
   refine g_any hP hn ?_
   refine o4 ?_
   refine o4 ?_
   refine s_op (l_bin rfl rfl (b_neq (r := false) (decide_eq_false (fun h => h rfl)))) ?_
   refine s_nil (by kernel_rfl) ?_
   refine n_wp ?_
   refine w_F rfl ?_ 
   refine w_skip (n_blo (n_wp (g_reg hP hn ?_)))
   refine o3 ?_
   refine s_nil trivial ?_
   exact n_round (A.length - (i + 1)) (by omega) ⟨i + 1, by omega, rfl, rfl, rfl⟩ (wk hE [])
 · refine w_exit (x_thn (x_thn (x_eq (n_wp (qz hP hn ?_)))))
   refine s_op k_as ?_
   refine s_nil trivial (n_wp (w_ret ?_))
   exact d_ret hP hn hE [] (by first | exact r_tmp Tryz.results11 | exact r_tmpa Tryz.results11)

theorem left_n (B : List Int) (hB : B.length ≤ 100000) : Con Tryz.prog 13 [.s (.slice 0 0 0 B.length (B.length + 1)), .s (.fzi .u8 B)] [some ⟨true, [.ints .u8 (B.length + 1) (B ++ [77])]⟩] (.s (.bool true)) [some ⟨true, [.ints .u8 (B.length + 1) (B ++ [77])]⟩] := by
 refine con_in 45 Tryz.func13 rfl rfl (m := 1) rfl ?_
 intro E hP hn hE
 refine qz hP hn ?_
 refine s_op k_as ?_
 refine s_nil trivial (n_wp (w_seq (qz hP hn ?_)))
 refine o4 ?_
 refine s_op (l_bin rfl rfl (b_neq (r := false) (decide_eq_false (fun h => h rfl)))) ?_
 refine s_op k_mv ?_
 refine s_on rfl rfl rfl k_mv ?_
 refine s_on rfl rfl rfl k_cap ?_
 refine s_on rfl rfl rfl k_mv ?_
 refine s_on rfl rfl rfl k_len ?_
 refine s_on rfl rfl rfl (l_bin rfl rfl (b_leq (r := false) (decide_eq_false (by omega)))) ?_
 refine s_op k_pk ?_
 refine s_nil trivial (n_wp ?_)
 refine w_F rfl ?_ 
 refine w_skip (n_wp (w_seq (qz hP hn ?_)))
 refine s_op k_as ?_
 refine s_nil trivial (n_wp (w_block ?_))
 refine c_loop (fun m_ T H => ∃ i, i ≤ B.length ∧ m_ = B.length - i ∧ T = [(0, .s (.slice 0 0 0 B.length (B.length + 1))), (1, .s (.fzi .u8 B)), (5, .s (.int .i64 ((i : Nat) : Int)))] ∧ H = [some ⟨true, [.ints .u8 (B.length + 1) (B ++ [77])]⟩]) (B.length) ⟨0, by omega, rfl, rfl, rfl⟩ (wk hE [0]) ?_
 rintro n_ T_ H_ ⟨i, hi, rfl, rfl, rfl⟩
 refine w_seq (qz hP hn ?_)
 refine o4 ?_
 refine s_nil trivial (n_wp ?_)
 refine w_if rfl (fun h_t22 => ?_) (fun h_t22 => ?_)
 · refine w_skip (n_wp (w_seq (w_block (w_seq ?_))))
   have hget : (B ++ [77]).getD i 0 = B.getD i 0 := by rw [List.getD_eq_getElem?_getD, List.getD_eq_getElem?_getD, List.getElem?_append_left (by omega)]
   refine g_any hP hn ?_
   refine o4 ?_
   refine o4 ?_
   refine s_op (l_bin rfl rfl (b_neq (r := false) (decide_eq_false (fun h => h hget)))) ?_
   refine s_nil (by kernel_rfl) ?_
   refine n_wp ?_
   refine w_F rfl ?_ 
   refine w_skip (n_blo (n_wp (g_reg hP hn ?_)))
   refine o3 ?_
   refine s_nil trivial ?_
   exact n_round (B.length - (i + 1)) (by omega) ⟨i + 1, by omega, rfl, rfl, rfl⟩ (wk hE [0])
 · obtain rfl : i = B.length := by omega
   refine w_exit (x_thn (x_thn (x_eq (n_wp (w_seq ?_)))))
   have hlast : (B ++ [77]).getD B.length 0 = 77 := by simp [List.getD_eq_getElem?_getD]
   refine g_reg hP hn ?_
   refine o4 ?_
   refine s_op k_sl ?_
   refine o3 ?_
   refine o2 ?_
   refine qx hP hn ?_
   refine s_op k_mv ?_
   refine s_op (l_bin rfl rfl (b_eql (r := true) (decide_eq_true hlast))) ?_
   refine s_op k_as ?_
   refine s_nil trivial (n_wp (w_ret ?_))
   exact d_ret hP hn hE [0] (by first | exact r_tmp Tryz.results13 | exact r_tmpa Tryz.results13)

end Go.Proofs.X
end
