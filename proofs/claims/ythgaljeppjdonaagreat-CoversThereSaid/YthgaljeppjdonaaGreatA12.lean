/- A part of the proofs of this claim: BCov3, BCovP, BCovT4, BCov4, BCovQ, BCov5, BCovR, BCov6, BThT, BTh1. No conditions. -/
import Derived.Test.YthgaljeppjdonaaGreatA11
import Derived.Test.YthgaljeppjdonaaGreatA8
set_option linter.unusedVariables false
set_option linter.unusedSimpArgs false
section
open Go Go.Bx Go.Proofs
namespace Go.Proofs.X
def macS (K Y : List Int) : List Int := hmO K (tk (hmI K) Y) (64 + Y.length)
theorem macS_len (K Y : List Int) : (macS K Y).length = 32 := hmO_len _ _ _
theorem macS_c (K Y : List Int) (hK : K.length = 32) (hY : Y.length ≤ 900000) : Con Tryz.prog 60 [.s (.fzi .u8 K), .s (ROWS [Y])] [] (.agg [.ints .u8 32 (macS K Y)]) [] := by
 have h := mac_c K [Y] (by omega) (by omega) (Nat.le_of_ble_eq_true rfl) (by simp; omega)
 rwa [show [Y].flatten = Y by simp] at h
attribute [local irreducible] be gN ckS encL chk pk0 pkB macS wd sg0 drP asB expP
abbrev KEYP (K : List Int) : SV := .fptr 32 (cellsF [.ints .u8 32 K]) 0 0
abbrev SEAL (f n t : Nat) (caps : List SV) : List Seg := [.one (.int .u16 ((t : Nat) : Int)), .one (.noid (.clo f n (capF caps)))]
abbrev ZPK : List Seg := [.one (.int .u8 0), .ints .u8 16 (zs (List.replicate 16 0)), .ints .u8 16 (zs (List.replicate 16 0)), .one .nils]
abbrev PKN (k : Nat) (A B : List Int) (n : Nat) (F : Nat → Pc) : List Seg := [.one (.int .u8 ((k : Nat) : Int)), .ints .u8 16 A, .ints .u8 16 B, .one (.fz n 2 (gP F))]

set_option maxRecDepth 100000 in
set_option maxHeartbeats 4000000 in
theorem seals_c (t : Nat) (K : List Int) (hK : K.length = 32)  : Con Tryz.prog 20 [.s (.int .u16 ((t : Nat) : Int)), .agg [.ints .u8 32 K]] [] (.agg (SEAL 58 1 t [KEYP K])) [] := by
 refine con_in 8 Tryz.func20 rfl rfl (m := 0) rfl ?_
 intro E hP hn hE
 refine w_seq ?_
 refine g_reg hP hn ?_
 refine s_op k_bxf ?_
 refine s_op k_al ?_
 refine s_nil trivial ?_
 refine n_wp ?_
 refine w_seq ?_
 refine g_reg hP hn ?_
 refine s_op k_mv ?_
 refine s_op (k_fnN [KEYP K]) ?_
 refine s_op k_bd ?_
 refine s_st k_st ?_
 refine s_nil trivial ?_
 refine n_wp ?_
 refine w_ret ?_
 exact d_ret hP hn hE [] (r_cell Tryz.results20)

set_option maxRecDepth 100000 in
set_option maxHeartbeats 4000000 in
theorem sum1_y (k : Nat) (A B : List Int) (L : List Pc) (K : List Int) (hK : K.length = 32) (Y : List Int) (hY : Y.length ≤ 900000) (hc : Con Tryz.prog 34 [.agg (PKT k A B L)] [] (.tup [.s (.fzi .u8 (Y)), .s (.int .i64 0)]) []) : Con Tryz.prog 58 [.agg (PKT k A B L), .s (KEYP K)] [] (.tup [.s (.fzi .u8 (macS K Y)), .s (.int .i64 0)]) [] := by
 refine con_in 18 Tryz.func58 rfl rfl (m := 0) rfl ?_
 intro E hP hn hE
 refine w_seq ?_
 refine g_reg hP hn ?_
 refine s_op k_bx ?_
 refine s_op k_as ?_
 refine s_op k_as ?_
 refine s_nil trivial ?_
 refine n_wp ?_
 refine w_seq ?_
 refine g_reg hP hn ?_
 refine s_op k_ld ?_
 refine s_op (k_call [] (con := hc)) ?_
 refine s_op k_mv ?_
 refine s_op k_ex ?_
 refine s_op k_ex ?_
 refine s_op k_as ?_
 refine s_op k_as ?_
 refine s_nil trivial ?_
 refine n_wp ?_
 refine w_seq ?_
 refine g_reg hP hn ?_
 refine s_op k_slf ?_
 refine s_op k_mv ?_
 refine s_op (k_bsz [.fzi .u8 Y]) ?_
 refine s_op (k_call [] (con := macS_c K Y hK hY)) ?_
 refine s_op (k_call [] (con := psum_n (macS K Y) (macS_len K Y))) ?_
 refine s_op k_mv ?_
 refine s_op k_as ?_
 refine s_op k_as ?_
 refine s_nil trivial ?_
 refine n_wp ?_
 refine w_ret ?_
 exact d_ret hP hn hE [] (ret2 Tryz.results58 (by first | exact ri_tmp rfl | exact ri_tmpa rfl) (by first | exact ri_tmp rfl | exact ri_tmpa rfl))

set_option maxRecDepth 100000 in
set_option maxHeartbeats 4000000 in
theorem sum1_e (k : Nat) (A B : List Int) (L : List Pc) (K : List Int) (hK : K.length = 32) (e : Int) (hc : Con Tryz.prog 34 [.agg (PKT k A B L)] [] (.tup [.s .nils, .s (.int .i64 e)]) []) : Con Tryz.prog 58 [.agg (PKT k A B L), .s (KEYP K)] [] (.tup [.s (.fzi .u8 (macS K [])), .s (.int .i64 e)]) [] := by
 refine con_in 18 Tryz.func58 rfl rfl (m := 0) rfl ?_
 intro E hP hn hE
 refine w_seq ?_
 refine g_reg hP hn ?_
 refine s_op k_bx ?_
 refine s_op k_as ?_
 refine s_op k_as ?_
 refine s_nil trivial ?_
 refine n_wp ?_
 refine w_seq ?_
 refine g_reg hP hn ?_
 refine s_op k_ld ?_
 refine s_op (k_call [] (con := hc)) ?_
 refine s_op k_mv ?_
 refine s_op k_ex ?_
 refine s_op k_ex ?_
 refine s_op k_as ?_
 refine s_op k_as ?_
 refine s_nil trivial ?_
 refine n_wp ?_
 refine w_seq ?_
 refine w_weak (weak_conv 5 rfl (conv_nil (k := .u8))) ?_
 refine g_reg hP hn ?_
 refine s_op k_slf ?_
 refine s_op k_mv ?_
 refine s_op (k_bsz [.fzi .u8 []]) ?_
 refine s_op (k_call [] (con := macS_c K [] hK (by decide))) ?_
 refine s_op (k_call [] (con := psum_n (macS K []) (macS_len K []))) ?_
 refine s_op k_mv ?_
 refine s_op k_as ?_
 refine s_op k_as ?_
 refine s_nil trivial ?_
 refine n_wp ?_
 refine w_ret ?_
 exact d_ret hP hn hE [] (ret2 Tryz.results58 (by first | exact ri_tmp rfl | exact ri_tmpa rfl) (by first | exact ri_tmp rfl | exact ri_tmpa rfl))

set_option maxRecDepth 100000 in
set_option maxHeartbeats 4000000 in
theorem ons_there (k : Nat) (A B : List Int) (L : List Pc) (t : Nat) (K : List Int) (hK : K.length = 32) (hLb : L.length ≤ 800000) (j : Nat) (hj : j < L.length) (hno : ∀ k, k < j → decide (t ≤ (L.getD k p0).1) = false) (hy : decide (t ≤ (L.getD j p0).1) = true) : Con Tryz.prog 21 [.agg (SEAL 58 1 t [KEYP K]), .agg (PKT k A B L)] [] (.tup [.agg ZPK, .s (.int .i64 8)]) [] := by
 refine con_in 49 Tryz.func21 rfl rfl (m := 0) rfl ?_
 intro E hP hn hE
 refine w_seq ?_
 refine g_reg hP hn ?_
 refine s_op k_bxf ?_
 refine s_op k_bx ?_
 refine s_op k_al ?_
 refine s_op k_as ?_
 refine s_nil trivial ?_
 refine n_wp ?_
 refine w_seq ?_
 refine w_seq ?_
 refine g_reg hP hn ?_
 refine s_op k_fa ?_
 refine s_op k_ld ?_
 refine s_op (k_fnN [(.fptr 2 (cellsF (SEAL 58 1 t [KEYP K])) 0 0)]) ?_
 refine s_op (k_call [] (con := cnt_y (fun x => decide (t ≤ x)) (on1_n t (.noid (.clo 58 1 (capF [KEYP K])))) L (by omega) j hj hno hy)) ?_
 refine s_nil trivial ?_
 refine n_wp ?_
 refine w_T rfl ?_ 
 refine w_seq ?_
 refine g_reg hP hn ?_
 refine s_op k_bd ?_
 refine s_st k_st ?_
 refine s_op k_as ?_
 refine s_nil trivial ?_
 refine n_wp ?_
 refine w_ret ?_
 refine r_thn ?_
 exact d_ret hP hn hE [] (ret2 Tryz.results21 r_cella (by first | exact ri_tmp rfl | exact ri_tmpa rfl))

set_option maxRecDepth 100000 in
set_option maxHeartbeats 4000000 in
theorem ons_b (k : Nat) (A B : List Int) (L : List Pc) (t : Nat) (K : List Int) (hK : K.length = 32) (hLb : L.length ≤ 800000) (hup : ∀ i, i < L.length → decide (t ≤ (L.getD i p0).1) = false) (Y : List Int) (e : Int) (he : e ≠ 0) (hcb : Con Tryz.prog 58 ([.agg (PKT k A B L)] ++ ([KEYP K] : List SV).map AV.s) [] (.tup [.s (.fzi .u8 (Y)), .s (.int .i64 e)]) []) : Con Tryz.prog 21 [.agg (SEAL 58 1 t [KEYP K]), .agg (PKT k A B L)] [] (.tup [.agg ZPK, .s (.int .i64 e)]) [] := by
 refine con_in 49 Tryz.func21 rfl rfl (m := 0) rfl ?_
 intro E hP hn hE
 refine w_seq ?_
 refine g_reg hP hn ?_
 refine s_op k_bxf ?_
 refine s_op k_bx ?_
 refine s_op k_al ?_
 refine s_op k_as ?_
 refine s_nil trivial ?_
 refine n_wp ?_
 refine w_seq ?_
 refine w_seq ?_
 refine g_reg hP hn ?_
 refine s_op k_fa ?_
 refine s_op k_ld ?_
 refine s_op (k_fnN [(.fptr 2 (cellsF (SEAL 58 1 t [KEYP K])) 0 0)]) ?_
 refine s_op (k_call [] (con := cnt_n (fun x => decide (t ≤ x)) (on1_n t (.noid (.clo 58 1 (capF [KEYP K])))) L (by omega) hup)) ?_
 refine s_nil trivial ?_
 refine n_wp ?_
 refine w_F rfl ?_ 
 refine w_skip ?_
 refine n_wp ?_
 refine w_seq ?_
 refine g_reg hP hn ?_
 refine s_op k_fa ?_
 refine s_op k_ld ?_
 refine s_op k_ld ?_
 refine s_op (k_callN [KEYP K] (con := hcb)) ?_
 refine s_op k_mv ?_
 refine s_op k_ex ?_
 refine s_op k_ex ?_
 refine s_op k_as ?_
 refine s_op k_as ?_
 refine s_nil trivial ?_
 refine n_wp ?_
 refine w_seq ?_
 refine w_seq ?_
 refine g_reg hP hn ?_
 refine s_op k_mv ?_
 refine s_op (l_bin rfl rfl (b_neq (r := true) (decide_eq_true he))) ?_
 refine s_nil trivial ?_
 refine n_wp ?_
 refine w_T rfl ?_ 
 refine w_seq ?_
 refine g_reg hP hn ?_
 refine s_op k_bd ?_
 refine s_op k_mv ?_
 refine s_st k_st ?_
 refine s_op k_as ?_
 refine s_nil trivial ?_
 refine n_wp ?_
 refine w_ret ?_
 refine r_thn ?_
 exact d_ret hP hn hE [] (ret2 Tryz.results21 r_cella (by first | exact ri_tmp rfl | exact ri_tmpa rfl))

set_option maxRecDepth 100000 in
set_option maxHeartbeats 4000000 in
theorem ons_w (k : Nat) (A B : List Int) (L : List Pc) (t : Nat) (K : List Int) (hK : K.length = 32) (hLb : L.length ≤ 800000) (hup : ∀ i, i < L.length → decide (t ≤ (L.getD i p0).1) = false) (Y : List Int) (hcb : Con Tryz.prog 58 ([.agg (PKT k A B L)] ++ ([KEYP K] : List SV).map AV.s) [] (.tup [.s (.fzi .u8 (Y)), .s (.int .i64 0)]) []) (e : Int) (he : e ≠ 0) (hcw : Con Tryz.prog 9 [.s (PARS L), .agg (PR (t, Y))] [] (.tup [.s .nils, .s (.int .i64 e)]) []) : Con Tryz.prog 21 [.agg (SEAL 58 1 t [KEYP K]), .agg (PKT k A B L)] [] (.tup [.agg ZPK, .s (.int .i64 e)]) [] := by
 refine con_in 49 Tryz.func21 rfl rfl (m := 0) rfl ?_
 intro E hP hn hE
 refine w_seq ?_
 refine g_reg hP hn ?_
 refine s_op k_bxf ?_
 refine s_op k_bx ?_
 refine s_op k_al ?_
 refine s_op k_as ?_
 refine s_nil trivial ?_
 refine n_wp ?_
 refine w_seq ?_
 refine w_seq ?_
 refine g_reg hP hn ?_
 refine s_op k_fa ?_
 refine s_op k_ld ?_
 refine s_op (k_fnN [(.fptr 2 (cellsF (SEAL 58 1 t [KEYP K])) 0 0)]) ?_
 refine s_op (k_call [] (con := cnt_n (fun x => decide (t ≤ x)) (on1_n t (.noid (.clo 58 1 (capF [KEYP K])))) L (by omega) hup)) ?_
 refine s_nil trivial ?_
 refine n_wp ?_
 refine w_F rfl ?_ 
 refine w_skip ?_
 refine n_wp ?_
 refine w_seq ?_
 refine g_reg hP hn ?_
 refine s_op k_fa ?_
 refine s_op k_ld ?_
 refine s_op k_ld ?_
 refine s_op (k_callN [KEYP K] (con := hcb)) ?_
 refine s_op k_mv ?_
 refine s_op k_ex ?_
 refine s_op k_ex ?_
 refine s_op k_as ?_
 refine s_op k_as ?_
 refine s_nil trivial ?_
 refine n_wp ?_
 refine w_seq ?_
 refine w_seq ?_
 refine g_reg hP hn ?_
 refine s_op k_mv ?_
 refine s_op (l_bin rfl rfl (b_neq (r := false) (decide_eq_false (fun h => h rfl)))) ?_
 refine s_nil trivial ?_
 refine n_wp ?_
 refine w_F rfl ?_ 
 refine w_skip ?_
 refine n_wp ?_
 refine w_seq ?_
 refine w_seq ?_
 refine g_reg hP hn ?_
 refine s_op k_fa ?_
 refine s_op k_ld ?_
 refine s_op k_fa ?_
 refine s_op k_ld ?_
 refine s_op k_mv ?_
 refine s_op k_bd ?_
 refine s_op (k_call [] (con := hcw)) ?_
 refine s_op k_mv ?_
 refine s_op k_ex ?_
 refine s_op k_ex ?_
 refine s_op k_fa ?_
 refine s_st k_st ?_
 refine s_op k_as ?_
 refine s_nil trivial ?_
 refine n_wp ?_
 refine w_seq ?_
 refine g_reg hP hn ?_
 refine s_op k_mv ?_
 refine s_op (l_bin rfl rfl (b_neq (r := true) (decide_eq_true he))) ?_
 refine s_nil trivial ?_
 refine n_wp ?_
 refine w_T rfl ?_ 
 refine w_seq ?_
 refine g_reg hP hn ?_
 refine s_op k_bd ?_
 refine s_op k_mv ?_
 refine s_st k_st ?_
 refine s_op k_as ?_
 refine s_nil trivial ?_
 refine n_wp ?_
 refine w_ret ?_
 refine r_thn ?_
 exact d_ret hP hn hE [] (ret2 Tryz.results21 r_cella (by first | exact ri_tmp rfl | exact ri_tmpa rfl))

set_option maxRecDepth 100000 in
set_option maxHeartbeats 4000000 in
theorem ons_p (k : Nat) (A B : List Int) (L : List Pc) (t : Nat) (K : List Int) (hK : K.length = 32) (hLb : L.length ≤ 800000) (hup : ∀ i, i < L.length → decide (t ≤ (L.getD i p0).1) = false) (Y : List Int) (hcb : Con Tryz.prog 58 ([.agg (PKT k A B L)] ++ ([KEYP K] : List SV).map AV.s) [] (.tup [.s (.fzi .u8 (Y)), .s (.int .i64 0)]) []) (F : Nat → Pc) (hcw : Con Tryz.prog 9 [.s (PARS L), .agg (PR (t, Y))] [] (.tup [.s (.fz (L.length + 1) 2 (gP F)), .s (.int .i64 0)]) []) (e : Int) (he : e ≠ 0) (hcp : Con Tryz.prog 34 [.agg (PKN k A B (L.length + 1) F)] [] (.tup [.s .nils, .s (.int .i64 e)]) []) : Con Tryz.prog 21 [.agg (SEAL 58 1 t [KEYP K]), .agg (PKT k A B L)] [] (.tup [.agg ZPK, .s (.int .i64 e)]) [] := by
 refine con_in 49 Tryz.func21 rfl rfl (m := 0) rfl ?_
 intro E hP hn hE
 refine w_seq ?_
 refine g_reg hP hn ?_
 refine s_op k_bxf ?_
 refine s_op k_bx ?_
 refine s_op k_al ?_
 refine s_op k_as ?_
 refine s_nil trivial ?_
 refine n_wp ?_
 refine w_seq ?_
 refine w_seq ?_
 refine g_reg hP hn ?_
 refine s_op k_fa ?_
 refine s_op k_ld ?_
 refine s_op (k_fnN [(.fptr 2 (cellsF (SEAL 58 1 t [KEYP K])) 0 0)]) ?_
 refine s_op (k_call [] (con := cnt_n (fun x => decide (t ≤ x)) (on1_n t (.noid (.clo 58 1 (capF [KEYP K])))) L (by omega) hup)) ?_
 refine s_nil trivial ?_
 refine n_wp ?_
 refine w_F rfl ?_ 
 refine w_skip ?_
 refine n_wp ?_
 refine w_seq ?_
 refine g_reg hP hn ?_
 refine s_op k_fa ?_
 refine s_op k_ld ?_
 refine s_op k_ld ?_
 refine s_op (k_callN [KEYP K] (con := hcb)) ?_
 refine s_op k_mv ?_
 refine s_op k_ex ?_
 refine s_op k_ex ?_
 refine s_op k_as ?_
 refine s_op k_as ?_
 refine s_nil trivial ?_
 refine n_wp ?_
 refine w_seq ?_
 refine w_seq ?_
 refine g_reg hP hn ?_
 refine s_op k_mv ?_
 refine s_op (l_bin rfl rfl (b_neq (r := false) (decide_eq_false (fun h => h rfl)))) ?_
 refine s_nil trivial ?_
 refine n_wp ?_
 refine w_F rfl ?_ 
 refine w_skip ?_
 refine n_wp ?_
 refine w_seq ?_
 refine w_seq ?_
 refine g_reg hP hn ?_
 refine s_op k_fa ?_
 refine s_op k_ld ?_
 refine s_op k_fa ?_
 refine s_op k_ld ?_
 refine s_op k_mv ?_
 refine s_op k_bd ?_
 refine s_op (k_call [] (con := hcw)) ?_
 refine s_op k_mv ?_
 refine s_op k_ex ?_
 refine s_op k_ex ?_
 refine s_op k_fa ?_
 refine s_st k_st ?_
 refine s_op k_as ?_
 refine s_nil trivial ?_
 refine n_wp ?_
 refine w_seq ?_
 refine g_reg hP hn ?_
 refine s_op k_mv ?_
 refine s_op (l_bin rfl rfl (b_neq (r := false) (decide_eq_false (fun h => h rfl)))) ?_
 refine s_nil trivial ?_
 refine n_wp ?_
 refine w_F rfl ?_ 
 refine w_skip ?_
 refine n_wp ?_
 refine w_seq ?_
 refine w_seq ?_
 refine g_reg hP hn ?_
 refine s_op k_ld ?_
 refine s_op (k_call [] (con := hcp)) ?_
 refine s_op k_mv ?_
 refine s_op k_ex ?_
 refine s_op k_ex ?_
 refine s_op k_as ?_
 refine s_nil trivial ?_
 refine n_wp ?_
 refine w_seq ?_
 refine g_reg hP hn ?_
 refine s_op k_mv ?_
 refine s_op (l_bin rfl rfl (b_neq (r := true) (decide_eq_true he))) ?_
 refine s_nil trivial ?_
 refine n_wp ?_
 refine w_T rfl ?_ 
 refine w_seq ?_
 refine g_reg hP hn ?_
 refine s_op k_bd ?_
 refine s_op k_mv ?_
 refine s_st k_st ?_
 refine s_op k_as ?_
 refine s_nil trivial ?_
 refine n_wp ?_
 refine w_ret ?_
 refine r_thn ?_
 exact d_ret hP hn hE [] (ret2 Tryz.results21 r_cella (by first | exact ri_tmp rfl | exact ri_tmpa rfl))

set_option maxRecDepth 100000 in
set_option maxHeartbeats 4000000 in
theorem ons_y (k : Nat) (A B : List Int) (L : List Pc) (t : Nat) (K : List Int) (hK : K.length = 32) (hLb : L.length ≤ 800000) (hup : ∀ i, i < L.length → decide (t ≤ (L.getD i p0).1) = false) (Y : List Int) (hcb : Con Tryz.prog 58 ([.agg (PKT k A B L)] ++ ([KEYP K] : List SV).map AV.s) [] (.tup [.s (.fzi .u8 (Y)), .s (.int .i64 0)]) []) (F : Nat → Pc) (hcw : Con Tryz.prog 9 [.s (PARS L), .agg (PR (t, Y))] [] (.tup [.s (.fz (L.length + 1) 2 (gP F)), .s (.int .i64 0)]) []) (Z : List Int) (hcp : Con Tryz.prog 34 [.agg (PKN k A B (L.length + 1) F)] [] (.tup [.s (.fzi .u8 (Z)), .s (.int .i64 0)]) []) : Con Tryz.prog 21 [.agg (SEAL 58 1 t [KEYP K]), .agg (PKT k A B L)] [] (.tup [.agg (PKN k A B (L.length + 1) F), .s (.int .i64 0)]) [] := by
 refine con_in 49 Tryz.func21 rfl rfl (m := 0) rfl ?_
 intro E hP hn hE
 refine w_seq ?_
 refine g_reg hP hn ?_
 refine s_op k_bxf ?_
 refine s_op k_bx ?_
 refine s_op k_al ?_
 refine s_op k_as ?_
 refine s_nil trivial ?_
 refine n_wp ?_
 refine w_seq ?_
 refine w_seq ?_
 refine g_reg hP hn ?_
 refine s_op k_fa ?_
 refine s_op k_ld ?_
 refine s_op (k_fnN [(.fptr 2 (cellsF (SEAL 58 1 t [KEYP K])) 0 0)]) ?_
 refine s_op (k_call [] (con := cnt_n (fun x => decide (t ≤ x)) (on1_n t (.noid (.clo 58 1 (capF [KEYP K])))) L (by omega) hup)) ?_
 refine s_nil trivial ?_
 refine n_wp ?_
 refine w_F rfl ?_ 
 refine w_skip ?_
 refine n_wp ?_
 refine w_seq ?_
 refine g_reg hP hn ?_
 refine s_op k_fa ?_
 refine s_op k_ld ?_
 refine s_op k_ld ?_
 refine s_op (k_callN [KEYP K] (con := hcb)) ?_
 refine s_op k_mv ?_
 refine s_op k_ex ?_
 refine s_op k_ex ?_
 refine s_op k_as ?_
 refine s_op k_as ?_
 refine s_nil trivial ?_
 refine n_wp ?_
 refine w_seq ?_
 refine w_seq ?_
 refine g_reg hP hn ?_
 refine s_op k_mv ?_
 refine s_op (l_bin rfl rfl (b_neq (r := false) (decide_eq_false (fun h => h rfl)))) ?_
 refine s_nil trivial ?_
 refine n_wp ?_
 refine w_F rfl ?_ 
 refine w_skip ?_
 refine n_wp ?_
 refine w_seq ?_
 refine w_seq ?_
 refine g_reg hP hn ?_
 refine s_op k_fa ?_
 refine s_op k_ld ?_
 refine s_op k_fa ?_
 refine s_op k_ld ?_
 refine s_op k_mv ?_
 refine s_op k_bd ?_
 refine s_op (k_call [] (con := hcw)) ?_
 refine s_op k_mv ?_
 refine s_op k_ex ?_
 refine s_op k_ex ?_
 refine s_op k_fa ?_
 refine s_st k_st ?_
 refine s_op k_as ?_
 refine s_nil trivial ?_
 refine n_wp ?_
 refine w_seq ?_
 refine g_reg hP hn ?_
 refine s_op k_mv ?_
 refine s_op (l_bin rfl rfl (b_neq (r := false) (decide_eq_false (fun h => h rfl)))) ?_
 refine s_nil trivial ?_
 refine n_wp ?_
 refine w_F rfl ?_ 
 refine w_skip ?_
 refine n_wp ?_
 refine w_seq ?_
 refine w_seq ?_
 refine g_reg hP hn ?_
 refine s_op k_ld ?_
 refine s_op (k_call [] (con := hcp)) ?_
 refine s_op k_mv ?_
 refine s_op k_ex ?_
 refine s_op k_ex ?_
 refine s_op k_as ?_
 refine s_nil trivial ?_
 refine n_wp ?_
 refine w_seq ?_
 refine g_reg hP hn ?_
 refine s_op k_mv ?_
 refine s_op (l_bin rfl rfl (b_neq (r := false) (decide_eq_false (fun h => h rfl)))) ?_
 refine s_nil trivial ?_
 refine n_wp ?_
 refine w_F rfl ?_ 
 refine w_skip ?_
 refine n_wp ?_
 refine w_seq ?_
 refine g_reg hP hn ?_
 refine s_op k_ld ?_
 refine s_st k_st ?_
 refine s_op k_as ?_
 refine s_nil trivial ?_
 refine n_wp ?_
 refine w_ret ?_
 exact d_ret hP hn hE [] (ret2 Tryz.results21 r_cella (by first | exact ri_tmp rfl | exact ri_tmpa rfl))

set_option maxRecDepth 100000 in
set_option maxHeartbeats 4000000 in
theorem ong_there (k : Nat) (A B : List Int) (L : List Pc) (t : Nat) (p q g a : Nat) (hLb : L.length ≤ 800000) (j : Nat) (hj : j < L.length) (hno : ∀ k, k < j → decide (t ≤ (L.getD k p0).1) = false) (hy : decide (t ≤ (L.getD j p0).1) = true) : Con Tryz.prog 21 [.agg (SEAL 22 2 t [(.fptr 12 (cellsF (GRP p q g)) 0 0), (.fptr 4 (cellsF [.ints .u64 4 (zs (wd a))]) 0 0)]), .agg (PKT k A B L)] [] (.tup [.agg ZPK, .s (.int .i64 8)]) [] := by
 refine con_in 49 Tryz.func21 rfl rfl (m := 0) rfl ?_
 intro E hP hn hE
 refine w_seq ?_
 refine g_reg hP hn ?_
 refine s_op k_bxf ?_
 refine s_op k_bx ?_
 refine s_op k_al ?_
 refine s_op k_as ?_
 refine s_nil trivial ?_
 refine n_wp ?_
 refine w_seq ?_
 refine w_seq ?_
 refine g_reg hP hn ?_
 refine s_op k_fa ?_
 refine s_op k_ld ?_
 refine s_op (k_fnN [(.fptr 2 (cellsF (SEAL 22 2 t [(.fptr 12 (cellsF (GRP p q g)) 0 0), (.fptr 4 (cellsF [.ints .u64 4 (zs (wd a))]) 0 0)])) 0 0)]) ?_
 refine s_op (k_call [] (con := cnt_y (fun x => decide (t ≤ x)) (on1_n t (.noid (.clo 22 2 (capF [(.fptr 12 (cellsF (GRP p q g)) 0 0), (.fptr 4 (cellsF [.ints .u64 4 (zs (wd a))]) 0 0)])))) L (by omega) j hj hno hy)) ?_
 refine s_nil trivial ?_
 refine n_wp ?_
 refine w_T rfl ?_ 
 refine w_seq ?_
 refine g_reg hP hn ?_
 refine s_op k_bd ?_
 refine s_st k_st ?_
 refine s_op k_as ?_
 refine s_nil trivial ?_
 refine n_wp ?_
 refine w_ret ?_
 refine r_thn ?_
 exact d_ret hP hn hE [] (ret2 Tryz.results21 r_cella (by first | exact ri_tmp rfl | exact ri_tmpa rfl))

set_option maxRecDepth 100000 in
set_option maxHeartbeats 4000000 in
theorem ong_b (k : Nat) (A B : List Int) (L : List Pc) (t : Nat) (p q g a : Nat) (hLb : L.length ≤ 800000) (hup : ∀ i, i < L.length → decide (t ≤ (L.getD i p0).1) = false) (Y : List Int) (e : Int) (he : e ≠ 0) (hcb : Con Tryz.prog 22 ([.agg (PKT k A B L)] ++ ([(.fptr 12 (cellsF (GRP p q g)) 0 0), (.fptr 4 (cellsF [.ints .u64 4 (zs (wd a))]) 0 0)] : List SV).map AV.s) [] (.tup [.s (.fzi .u8 (Y)), .s (.int .i64 e)]) []) : Con Tryz.prog 21 [.agg (SEAL 22 2 t [(.fptr 12 (cellsF (GRP p q g)) 0 0), (.fptr 4 (cellsF [.ints .u64 4 (zs (wd a))]) 0 0)]), .agg (PKT k A B L)] [] (.tup [.agg ZPK, .s (.int .i64 e)]) [] := by
 refine con_in 49 Tryz.func21 rfl rfl (m := 0) rfl ?_
 intro E hP hn hE
 refine w_seq ?_
 refine g_reg hP hn ?_
 refine s_op k_bxf ?_
 refine s_op k_bx ?_
 refine s_op k_al ?_
 refine s_op k_as ?_
 refine s_nil trivial ?_
 refine n_wp ?_
 refine w_seq ?_
 refine w_seq ?_
 refine g_reg hP hn ?_
 refine s_op k_fa ?_
 refine s_op k_ld ?_
 refine s_op (k_fnN [(.fptr 2 (cellsF (SEAL 22 2 t [(.fptr 12 (cellsF (GRP p q g)) 0 0), (.fptr 4 (cellsF [.ints .u64 4 (zs (wd a))]) 0 0)])) 0 0)]) ?_
 refine s_op (k_call [] (con := cnt_n (fun x => decide (t ≤ x)) (on1_n t (.noid (.clo 22 2 (capF [(.fptr 12 (cellsF (GRP p q g)) 0 0), (.fptr 4 (cellsF [.ints .u64 4 (zs (wd a))]) 0 0)])))) L (by omega) hup)) ?_
 refine s_nil trivial ?_
 refine n_wp ?_
 refine w_F rfl ?_ 
 refine w_skip ?_
 refine n_wp ?_
 refine w_seq ?_
 refine g_reg hP hn ?_
 refine s_op k_fa ?_
 refine s_op k_ld ?_
 refine s_op k_ld ?_
 refine s_op (k_callN [(.fptr 12 (cellsF (GRP p q g)) 0 0), (.fptr 4 (cellsF [.ints .u64 4 (zs (wd a))]) 0 0)] (con := hcb)) ?_
 refine s_op k_mv ?_
 refine s_op k_ex ?_
 refine s_op k_ex ?_
 refine s_op k_as ?_
 refine s_op k_as ?_
 refine s_nil trivial ?_
 refine n_wp ?_
 refine w_seq ?_
 refine w_seq ?_
 refine g_reg hP hn ?_
 refine s_op k_mv ?_
 refine s_op (l_bin rfl rfl (b_neq (r := true) (decide_eq_true he))) ?_
 refine s_nil trivial ?_
 refine n_wp ?_
 refine w_T rfl ?_ 
 refine w_seq ?_
 refine g_reg hP hn ?_
 refine s_op k_bd ?_
 refine s_op k_mv ?_
 refine s_st k_st ?_
 refine s_op k_as ?_
 refine s_nil trivial ?_
 refine n_wp ?_
 refine w_ret ?_
 refine r_thn ?_
 exact d_ret hP hn hE [] (ret2 Tryz.results21 r_cella (by first | exact ri_tmp rfl | exact ri_tmpa rfl))

set_option maxRecDepth 100000 in
set_option maxHeartbeats 4000000 in
theorem ong_bn (k : Nat) (A B : List Int) (L : List Pc) (t : Nat) (p q g a : Nat) (hLb : L.length ≤ 800000) (hup : ∀ i, i < L.length → decide (t ≤ (L.getD i p0).1) = false) (e : Int) (he : e ≠ 0) (hcb : Con Tryz.prog 22 ([.agg (PKT k A B L)] ++ ([(.fptr 12 (cellsF (GRP p q g)) 0 0), (.fptr 4 (cellsF [.ints .u64 4 (zs (wd a))]) 0 0)] : List SV).map AV.s) [] (.tup [.s .nils, .s (.int .i64 e)]) []) : Con Tryz.prog 21 [.agg (SEAL 22 2 t [(.fptr 12 (cellsF (GRP p q g)) 0 0), (.fptr 4 (cellsF [.ints .u64 4 (zs (wd a))]) 0 0)]), .agg (PKT k A B L)] [] (.tup [.agg ZPK, .s (.int .i64 e)]) [] := by
 refine con_in 49 Tryz.func21 rfl rfl (m := 0) rfl ?_
 intro E hP hn hE
 refine w_seq ?_
 refine g_reg hP hn ?_
 refine s_op k_bxf ?_
 refine s_op k_bx ?_
 refine s_op k_al ?_
 refine s_op k_as ?_
 refine s_nil trivial ?_
 refine n_wp ?_
 refine w_seq ?_
 refine w_seq ?_
 refine g_reg hP hn ?_
 refine s_op k_fa ?_
 refine s_op k_ld ?_
 refine s_op (k_fnN [(.fptr 2 (cellsF (SEAL 22 2 t [(.fptr 12 (cellsF (GRP p q g)) 0 0), (.fptr 4 (cellsF [.ints .u64 4 (zs (wd a))]) 0 0)])) 0 0)]) ?_
 refine s_op (k_call [] (con := cnt_n (fun x => decide (t ≤ x)) (on1_n t (.noid (.clo 22 2 (capF [(.fptr 12 (cellsF (GRP p q g)) 0 0), (.fptr 4 (cellsF [.ints .u64 4 (zs (wd a))]) 0 0)])))) L (by omega) hup)) ?_
 refine s_nil trivial ?_
 refine n_wp ?_
 refine w_F rfl ?_ 
 refine w_skip ?_
 refine n_wp ?_
 refine w_seq ?_
 refine g_reg hP hn ?_
 refine s_op k_fa ?_
 refine s_op k_ld ?_
 refine s_op k_ld ?_
 refine s_op (k_callN [(.fptr 12 (cellsF (GRP p q g)) 0 0), (.fptr 4 (cellsF [.ints .u64 4 (zs (wd a))]) 0 0)] (con := hcb)) ?_
 refine s_op k_mv ?_
 refine s_op k_ex ?_
 refine s_op k_ex ?_
 refine s_op k_as ?_
 refine s_op k_as ?_
 refine s_nil trivial ?_
 refine n_wp ?_
 refine w_seq ?_
 refine w_seq ?_
 refine g_reg hP hn ?_
 refine s_op k_mv ?_
 refine s_op (l_bin rfl rfl (b_neq (r := true) (decide_eq_true he))) ?_
 refine s_nil trivial ?_
 refine n_wp ?_
 refine w_T rfl ?_ 
 refine w_seq ?_
 refine g_reg hP hn ?_
 refine s_op k_bd ?_
 refine s_op k_mv ?_
 refine s_st k_st ?_
 refine s_op k_as ?_
 refine s_nil trivial ?_
 refine n_wp ?_
 refine w_ret ?_
 refine r_thn ?_
 exact d_ret hP hn hE [] (ret2 Tryz.results21 r_cella (by first | exact ri_tmp rfl | exact ri_tmpa rfl))

set_option maxRecDepth 100000 in
set_option maxHeartbeats 4000000 in
theorem ong_w (k : Nat) (A B : List Int) (L : List Pc) (t : Nat) (p q g a : Nat) (hLb : L.length ≤ 800000) (hup : ∀ i, i < L.length → decide (t ≤ (L.getD i p0).1) = false) (Y : List Int) (hcb : Con Tryz.prog 22 ([.agg (PKT k A B L)] ++ ([(.fptr 12 (cellsF (GRP p q g)) 0 0), (.fptr 4 (cellsF [.ints .u64 4 (zs (wd a))]) 0 0)] : List SV).map AV.s) [] (.tup [.s (.fzi .u8 (Y)), .s (.int .i64 0)]) []) (e : Int) (he : e ≠ 0) (hcw : Con Tryz.prog 9 [.s (PARS L), .agg (PR (t, Y))] [] (.tup [.s .nils, .s (.int .i64 e)]) []) : Con Tryz.prog 21 [.agg (SEAL 22 2 t [(.fptr 12 (cellsF (GRP p q g)) 0 0), (.fptr 4 (cellsF [.ints .u64 4 (zs (wd a))]) 0 0)]), .agg (PKT k A B L)] [] (.tup [.agg ZPK, .s (.int .i64 e)]) [] := by
 refine con_in 49 Tryz.func21 rfl rfl (m := 0) rfl ?_
 intro E hP hn hE
 refine w_seq ?_
 refine g_reg hP hn ?_
 refine s_op k_bxf ?_
 refine s_op k_bx ?_
 refine s_op k_al ?_
 refine s_op k_as ?_
 refine s_nil trivial ?_
 refine n_wp ?_
 refine w_seq ?_
 refine w_seq ?_
 refine g_reg hP hn ?_
 refine s_op k_fa ?_
 refine s_op k_ld ?_
 refine s_op (k_fnN [(.fptr 2 (cellsF (SEAL 22 2 t [(.fptr 12 (cellsF (GRP p q g)) 0 0), (.fptr 4 (cellsF [.ints .u64 4 (zs (wd a))]) 0 0)])) 0 0)]) ?_
 refine s_op (k_call [] (con := cnt_n (fun x => decide (t ≤ x)) (on1_n t (.noid (.clo 22 2 (capF [(.fptr 12 (cellsF (GRP p q g)) 0 0), (.fptr 4 (cellsF [.ints .u64 4 (zs (wd a))]) 0 0)])))) L (by omega) hup)) ?_
 refine s_nil trivial ?_
 refine n_wp ?_
 refine w_F rfl ?_ 
 refine w_skip ?_
 refine n_wp ?_
 refine w_seq ?_
 refine g_reg hP hn ?_
 refine s_op k_fa ?_
 refine s_op k_ld ?_
 refine s_op k_ld ?_
 refine s_op (k_callN [(.fptr 12 (cellsF (GRP p q g)) 0 0), (.fptr 4 (cellsF [.ints .u64 4 (zs (wd a))]) 0 0)] (con := hcb)) ?_
 refine s_op k_mv ?_
 refine s_op k_ex ?_
 refine s_op k_ex ?_
 refine s_op k_as ?_
 refine s_op k_as ?_
 refine s_nil trivial ?_
 refine n_wp ?_
 refine w_seq ?_
 refine w_seq ?_
 refine g_reg hP hn ?_
 refine s_op k_mv ?_
 refine s_op (l_bin rfl rfl (b_neq (r := false) (decide_eq_false (fun h => h rfl)))) ?_
 refine s_nil trivial ?_
 refine n_wp ?_
 refine w_F rfl ?_ 
 refine w_skip ?_
 refine n_wp ?_
 refine w_seq ?_
 refine w_seq ?_
 refine g_reg hP hn ?_
 refine s_op k_fa ?_
 refine s_op k_ld ?_
 refine s_op k_fa ?_
 refine s_op k_ld ?_
 refine s_op k_mv ?_
 refine s_op k_bd ?_
 refine s_op (k_call [] (con := hcw)) ?_
 refine s_op k_mv ?_
 refine s_op k_ex ?_
 refine s_op k_ex ?_
 refine s_op k_fa ?_
 refine s_st k_st ?_
 refine s_op k_as ?_
 refine s_nil trivial ?_
 refine n_wp ?_
 refine w_seq ?_
 refine g_reg hP hn ?_
 refine s_op k_mv ?_
 refine s_op (l_bin rfl rfl (b_neq (r := true) (decide_eq_true he))) ?_
 refine s_nil trivial ?_
 refine n_wp ?_
 refine w_T rfl ?_ 
 refine w_seq ?_
 refine g_reg hP hn ?_
 refine s_op k_bd ?_
 refine s_op k_mv ?_
 refine s_st k_st ?_
 refine s_op k_as ?_
 refine s_nil trivial ?_
 refine n_wp ?_
 refine w_ret ?_
 refine r_thn ?_
 exact d_ret hP hn hE [] (ret2 Tryz.results21 r_cella (by first | exact ri_tmp rfl | exact ri_tmpa rfl))

set_option maxRecDepth 100000 in
set_option maxHeartbeats 4000000 in
theorem ong_p (k : Nat) (A B : List Int) (L : List Pc) (t : Nat) (p q g a : Nat) (hLb : L.length ≤ 800000) (hup : ∀ i, i < L.length → decide (t ≤ (L.getD i p0).1) = false) (Y : List Int) (hcb : Con Tryz.prog 22 ([.agg (PKT k A B L)] ++ ([(.fptr 12 (cellsF (GRP p q g)) 0 0), (.fptr 4 (cellsF [.ints .u64 4 (zs (wd a))]) 0 0)] : List SV).map AV.s) [] (.tup [.s (.fzi .u8 (Y)), .s (.int .i64 0)]) []) (F : Nat → Pc) (hcw : Con Tryz.prog 9 [.s (PARS L), .agg (PR (t, Y))] [] (.tup [.s (.fz (L.length + 1) 2 (gP F)), .s (.int .i64 0)]) []) (e : Int) (he : e ≠ 0) (hcp : Con Tryz.prog 34 [.agg (PKN k A B (L.length + 1) F)] [] (.tup [.s .nils, .s (.int .i64 e)]) []) : Con Tryz.prog 21 [.agg (SEAL 22 2 t [(.fptr 12 (cellsF (GRP p q g)) 0 0), (.fptr 4 (cellsF [.ints .u64 4 (zs (wd a))]) 0 0)]), .agg (PKT k A B L)] [] (.tup [.agg ZPK, .s (.int .i64 e)]) [] := by
 refine con_in 49 Tryz.func21 rfl rfl (m := 0) rfl ?_
 intro E hP hn hE
 refine w_seq ?_
 refine g_reg hP hn ?_
 refine s_op k_bxf ?_
 refine s_op k_bx ?_
 refine s_op k_al ?_
 refine s_op k_as ?_
 refine s_nil trivial ?_
 refine n_wp ?_
 refine w_seq ?_
 refine w_seq ?_
 refine g_reg hP hn ?_
 refine s_op k_fa ?_
 refine s_op k_ld ?_
 refine s_op (k_fnN [(.fptr 2 (cellsF (SEAL 22 2 t [(.fptr 12 (cellsF (GRP p q g)) 0 0), (.fptr 4 (cellsF [.ints .u64 4 (zs (wd a))]) 0 0)])) 0 0)]) ?_
 refine s_op (k_call [] (con := cnt_n (fun x => decide (t ≤ x)) (on1_n t (.noid (.clo 22 2 (capF [(.fptr 12 (cellsF (GRP p q g)) 0 0), (.fptr 4 (cellsF [.ints .u64 4 (zs (wd a))]) 0 0)])))) L (by omega) hup)) ?_
 refine s_nil trivial ?_
 refine n_wp ?_
 refine w_F rfl ?_ 
 refine w_skip ?_
 refine n_wp ?_
 refine w_seq ?_
 refine g_reg hP hn ?_
 refine s_op k_fa ?_
 refine s_op k_ld ?_
 refine s_op k_ld ?_
 refine s_op (k_callN [(.fptr 12 (cellsF (GRP p q g)) 0 0), (.fptr 4 (cellsF [.ints .u64 4 (zs (wd a))]) 0 0)] (con := hcb)) ?_
 refine s_op k_mv ?_
 refine s_op k_ex ?_
 refine s_op k_ex ?_
 refine s_op k_as ?_
 refine s_op k_as ?_
 refine s_nil trivial ?_
 refine n_wp ?_
 refine w_seq ?_
 refine w_seq ?_
 refine g_reg hP hn ?_
 refine s_op k_mv ?_
 refine s_op (l_bin rfl rfl (b_neq (r := false) (decide_eq_false (fun h => h rfl)))) ?_
 refine s_nil trivial ?_
 refine n_wp ?_
 refine w_F rfl ?_ 
 refine w_skip ?_
 refine n_wp ?_
 refine w_seq ?_
 refine w_seq ?_
 refine g_reg hP hn ?_
 refine s_op k_fa ?_
 refine s_op k_ld ?_
 refine s_op k_fa ?_
 refine s_op k_ld ?_
 refine s_op k_mv ?_
 refine s_op k_bd ?_
 refine s_op (k_call [] (con := hcw)) ?_
 refine s_op k_mv ?_
 refine s_op k_ex ?_
 refine s_op k_ex ?_
 refine s_op k_fa ?_
 refine s_st k_st ?_
 refine s_op k_as ?_
 refine s_nil trivial ?_
 refine n_wp ?_
 refine w_seq ?_
 refine g_reg hP hn ?_
 refine s_op k_mv ?_
 refine s_op (l_bin rfl rfl (b_neq (r := false) (decide_eq_false (fun h => h rfl)))) ?_
 refine s_nil trivial ?_
 refine n_wp ?_
 refine w_F rfl ?_ 
 refine w_skip ?_
 refine n_wp ?_
 refine w_seq ?_
 refine w_seq ?_
 refine g_reg hP hn ?_
 refine s_op k_ld ?_
 refine s_op (k_call [] (con := hcp)) ?_
 refine s_op k_mv ?_
 refine s_op k_ex ?_
 refine s_op k_ex ?_
 refine s_op k_as ?_
 refine s_nil trivial ?_
 refine n_wp ?_
 refine w_seq ?_
 refine g_reg hP hn ?_
 refine s_op k_mv ?_
 refine s_op (l_bin rfl rfl (b_neq (r := true) (decide_eq_true he))) ?_
 refine s_nil trivial ?_
 refine n_wp ?_
 refine w_T rfl ?_ 
 refine w_seq ?_
 refine g_reg hP hn ?_
 refine s_op k_bd ?_
 refine s_op k_mv ?_
 refine s_st k_st ?_
 refine s_op k_as ?_
 refine s_nil trivial ?_
 refine n_wp ?_
 refine w_ret ?_
 refine r_thn ?_
 exact d_ret hP hn hE [] (ret2 Tryz.results21 r_cella (by first | exact ri_tmp rfl | exact ri_tmpa rfl))

set_option maxRecDepth 100000 in
set_option maxHeartbeats 4000000 in
theorem ong_y (k : Nat) (A B : List Int) (L : List Pc) (t : Nat) (p q g a : Nat) (hLb : L.length ≤ 800000) (hup : ∀ i, i < L.length → decide (t ≤ (L.getD i p0).1) = false) (Y : List Int) (hcb : Con Tryz.prog 22 ([.agg (PKT k A B L)] ++ ([(.fptr 12 (cellsF (GRP p q g)) 0 0), (.fptr 4 (cellsF [.ints .u64 4 (zs (wd a))]) 0 0)] : List SV).map AV.s) [] (.tup [.s (.fzi .u8 (Y)), .s (.int .i64 0)]) []) (F : Nat → Pc) (hcw : Con Tryz.prog 9 [.s (PARS L), .agg (PR (t, Y))] [] (.tup [.s (.fz (L.length + 1) 2 (gP F)), .s (.int .i64 0)]) []) (Z : List Int) (hcp : Con Tryz.prog 34 [.agg (PKN k A B (L.length + 1) F)] [] (.tup [.s (.fzi .u8 (Z)), .s (.int .i64 0)]) []) : Con Tryz.prog 21 [.agg (SEAL 22 2 t [(.fptr 12 (cellsF (GRP p q g)) 0 0), (.fptr 4 (cellsF [.ints .u64 4 (zs (wd a))]) 0 0)]), .agg (PKT k A B L)] [] (.tup [.agg (PKN k A B (L.length + 1) F), .s (.int .i64 0)]) [] := by
 refine con_in 49 Tryz.func21 rfl rfl (m := 0) rfl ?_
 intro E hP hn hE
 refine w_seq ?_
 refine g_reg hP hn ?_
 refine s_op k_bxf ?_
 refine s_op k_bx ?_
 refine s_op k_al ?_
 refine s_op k_as ?_
 refine s_nil trivial ?_
 refine n_wp ?_
 refine w_seq ?_
 refine w_seq ?_
 refine g_reg hP hn ?_
 refine s_op k_fa ?_
 refine s_op k_ld ?_
 refine s_op (k_fnN [(.fptr 2 (cellsF (SEAL 22 2 t [(.fptr 12 (cellsF (GRP p q g)) 0 0), (.fptr 4 (cellsF [.ints .u64 4 (zs (wd a))]) 0 0)])) 0 0)]) ?_
 refine s_op (k_call [] (con := cnt_n (fun x => decide (t ≤ x)) (on1_n t (.noid (.clo 22 2 (capF [(.fptr 12 (cellsF (GRP p q g)) 0 0), (.fptr 4 (cellsF [.ints .u64 4 (zs (wd a))]) 0 0)])))) L (by omega) hup)) ?_
 refine s_nil trivial ?_
 refine n_wp ?_
 refine w_F rfl ?_ 
 refine w_skip ?_
 refine n_wp ?_
 refine w_seq ?_
 refine g_reg hP hn ?_
 refine s_op k_fa ?_
 refine s_op k_ld ?_
 refine s_op k_ld ?_
 refine s_op (k_callN [(.fptr 12 (cellsF (GRP p q g)) 0 0), (.fptr 4 (cellsF [.ints .u64 4 (zs (wd a))]) 0 0)] (con := hcb)) ?_
 refine s_op k_mv ?_
 refine s_op k_ex ?_
 refine s_op k_ex ?_
 refine s_op k_as ?_
 refine s_op k_as ?_
 refine s_nil trivial ?_
 refine n_wp ?_
 refine w_seq ?_
 refine w_seq ?_
 refine g_reg hP hn ?_
 refine s_op k_mv ?_
 refine s_op (l_bin rfl rfl (b_neq (r := false) (decide_eq_false (fun h => h rfl)))) ?_
 refine s_nil trivial ?_
 refine n_wp ?_
 refine w_F rfl ?_ 
 refine w_skip ?_
 refine n_wp ?_
 refine w_seq ?_
 refine w_seq ?_
 refine g_reg hP hn ?_
 refine s_op k_fa ?_
 refine s_op k_ld ?_
 refine s_op k_fa ?_
 refine s_op k_ld ?_
 refine s_op k_mv ?_
 refine s_op k_bd ?_
 refine s_op (k_call [] (con := hcw)) ?_
 refine s_op k_mv ?_
 refine s_op k_ex ?_
 refine s_op k_ex ?_
 refine s_op k_fa ?_
 refine s_st k_st ?_
 refine s_op k_as ?_
 refine s_nil trivial ?_
 refine n_wp ?_
 refine w_seq ?_
 refine g_reg hP hn ?_
 refine s_op k_mv ?_
 refine s_op (l_bin rfl rfl (b_neq (r := false) (decide_eq_false (fun h => h rfl)))) ?_
 refine s_nil trivial ?_
 refine n_wp ?_
 refine w_F rfl ?_ 
 refine w_skip ?_
 refine n_wp ?_
 refine w_seq ?_
 refine w_seq ?_
 refine g_reg hP hn ?_
 refine s_op k_ld ?_
 refine s_op (k_call [] (con := hcp)) ?_
 refine s_op k_mv ?_
 refine s_op k_ex ?_
 refine s_op k_ex ?_
 refine s_op k_as ?_
 refine s_nil trivial ?_
 refine n_wp ?_
 refine w_seq ?_
 refine g_reg hP hn ?_
 refine s_op k_mv ?_
 refine s_op (l_bin rfl rfl (b_neq (r := false) (decide_eq_false (fun h => h rfl)))) ?_
 refine s_nil trivial ?_
 refine n_wp ?_
 refine w_F rfl ?_ 
 refine w_skip ?_
 refine n_wp ?_
 refine w_seq ?_
 refine g_reg hP hn ?_
 refine s_op k_ld ?_
 refine s_st k_st ?_
 refine s_op k_as ?_
 refine s_nil trivial ?_
 refine n_wp ?_
 refine w_ret ?_
 exact d_ret hP hn hE [] (ret2 Tryz.results21 r_cella (by first | exact ri_tmp rfl | exact ri_tmpa rfl))

set_option maxRecDepth 100000 in
set_option maxHeartbeats 4000000 in
theorem mac_y (k : Nat) (A B : List Int) (L : List Pc) (K : List Int) (hK : K.length = 32) (n : Nat) (F : Nat → Pc) (hon : Con Tryz.prog 21 [.agg (SEAL 58 1 61505 [KEYP K]), .agg (PKT k A B L)] [] (.tup [.agg (PKN k A B n F), .s (.int .i64 0)]) []) : Con Tryz.prog 7 [.agg (PKT k A B L), .agg [.ints .u8 32 K]] [] (.tup [.agg (PKN k A B n F), .s (.int .i64 0)]) [] := by
 refine con_in 12 Tryz.func7 rfl rfl (m := 0) rfl ?_
 intro E hP hn hE
 refine w_seq ?_
 refine g_reg hP hn ?_
 refine s_op k_bxf ?_
 refine s_op k_bxf ?_
 refine s_op k_al ?_
 refine s_op k_as ?_
 refine s_nil trivial ?_
 refine n_wp ?_
 refine w_seq ?_
 refine g_any hP hn ?_
 refine s_op k_ld ?_
 refine s_op (k_call [] (con := seals_c 61505 K hK)) ?_
 refine s_op k_ld ?_
 refine s_op (k_call [] (con := hon)) ?_
 refine s_op k_ex ?_
 refine s_op k_ex ?_
 refine s_st k_st ?_
 refine s_op k_as ?_
 refine s_nil (by kernel_rfl) ?_
 refine n_wp ?_
 refine w_ret ?_
 exact d_ret hP hn hE [] (ret2 Tryz.results7 r_cella (by first | exact ri_tmp rfl | exact ri_tmpa rfl))

set_option maxRecDepth 100000 in
set_option maxHeartbeats 4000000 in
theorem sgn_y (k : Nat) (A B : List Int) (L : List Pc) (p q g a : Nat) (n : Nat) (F : Nat → Pc) (hon : Con Tryz.prog 21 [.agg (SEAL 22 2 61697 [(.fptr 12 (cellsF (GRP p q g)) 0 0), (.fptr 4 (cellsF [.ints .u64 4 (zs (wd a))]) 0 0)]), .agg (PKT k A B L)] [] (.tup [.agg (PKN k A B n F), .s (.int .i64 0)]) []) : Con Tryz.prog 8 [.agg (GRP p q g), .agg (PKT k A B L), .agg [.ints .u64 4 (zs (wd a))]] [] (.tup [.agg (PKN k A B n F), .s (.int .i64 0)]) [] := by
 refine con_in 14 Tryz.func8 rfl rfl (m := 0) rfl ?_
 intro E hP hn hE
 refine w_seq ?_
 refine g_reg hP hn ?_
 refine s_op k_bxf ?_
 refine s_op k_bxf ?_
 refine s_op k_bxf ?_
 refine s_op k_al ?_
 refine s_op k_as ?_
 refine s_nil trivial ?_
 refine n_wp ?_
 refine w_seq ?_
 refine g_reg hP hn ?_
 refine s_op (k_fnN [(.fptr 12 (cellsF (GRP p q g)) 0 0), (.fptr 4 (cellsF [.ints .u64 4 (zs (wd a))]) 0 0)]) ?_
 refine s_op k_bd ?_
 refine s_op k_ld ?_
 refine s_op (k_call [] (con := hon)) ?_
 refine s_op k_ex ?_
 refine s_op k_ex ?_
 refine s_st k_st ?_
 refine s_op k_as ?_
 refine s_nil trivial ?_
 refine n_wp ?_
 refine w_ret ?_
 exact d_ret hP hn hE [] (ret2 Tryz.results8 r_cella (by first | exact ri_tmp rfl | exact ri_tmpa rfl))

set_option maxRecDepth 100000 in
set_option maxHeartbeats 4000000 in
theorem mac_e (k : Nat) (A B : List Int) (L : List Pc) (K : List Int) (hK : K.length = 32) (e : Int) (hon : Con Tryz.prog 21 [.agg (SEAL 58 1 61505 [KEYP K]), .agg (PKT k A B L)] [] (.tup [.agg ZPK, .s (.int .i64 e)]) []) : Con Tryz.prog 7 [.agg (PKT k A B L), .agg [.ints .u8 32 K]] [] (.tup [.agg ZPK, .s (.int .i64 e)]) [] := by
 refine con_in 12 Tryz.func7 rfl rfl (m := 0) rfl ?_
 intro E hP hn hE
 refine w_seq ?_
 refine g_reg hP hn ?_
 refine s_op k_bxf ?_
 refine s_op k_bxf ?_
 refine s_op k_al ?_
 refine s_op k_as ?_
 refine s_nil trivial ?_
 refine n_wp ?_
 refine w_seq ?_
 refine g_any hP hn ?_
 refine s_op k_ld ?_
 refine s_op (k_call [] (con := seals_c 61505 K hK)) ?_
 refine s_op k_ld ?_
 refine s_op (k_call [] (con := hon)) ?_
 refine s_op k_ex ?_
 refine s_op k_ex ?_
 refine s_st k_st ?_
 refine s_op k_as ?_
 refine s_nil (by kernel_rfl) ?_
 refine n_wp ?_
 refine w_ret ?_
 exact d_ret hP hn hE [] (ret2 Tryz.results7 r_cella (by first | exact ri_tmp rfl | exact ri_tmpa rfl))

set_option maxRecDepth 100000 in
set_option maxHeartbeats 4000000 in
theorem sgn_e (k : Nat) (A B : List Int) (L : List Pc) (p q g a : Nat) (e : Int) (hon : Con Tryz.prog 21 [.agg (SEAL 22 2 61697 [(.fptr 12 (cellsF (GRP p q g)) 0 0), (.fptr 4 (cellsF [.ints .u64 4 (zs (wd a))]) 0 0)]), .agg (PKT k A B L)] [] (.tup [.agg ZPK, .s (.int .i64 e)]) []) : Con Tryz.prog 8 [.agg (GRP p q g), .agg (PKT k A B L), .agg [.ints .u64 4 (zs (wd a))]] [] (.tup [.agg ZPK, .s (.int .i64 e)]) [] := by
 refine con_in 14 Tryz.func8 rfl rfl (m := 0) rfl ?_
 intro E hP hn hE
 refine w_seq ?_
 refine g_reg hP hn ?_
 refine s_op k_bxf ?_
 refine s_op k_bxf ?_
 refine s_op k_bxf ?_
 refine s_op k_al ?_
 refine s_op k_as ?_
 refine s_nil trivial ?_
 refine n_wp ?_
 refine w_seq ?_
 refine g_reg hP hn ?_
 refine s_op (k_fnN [(.fptr 12 (cellsF (GRP p q g)) 0 0), (.fptr 4 (cellsF [.ints .u64 4 (zs (wd a))]) 0 0)]) ?_
 refine s_op k_bd ?_
 refine s_op k_ld ?_
 refine s_op (k_call [] (con := hon)) ?_
 refine s_op k_ex ?_
 refine s_op k_ex ?_
 refine s_st k_st ?_
 refine s_op k_as ?_
 refine s_nil trivial ?_
 refine n_wp ?_
 refine w_ret ?_
 exact d_ret hP hn hE [] (ret2 Tryz.results8 r_cella (by first | exact ri_tmp rfl | exact ri_tmpa rfl))

end Go.Proofs.X
end

section
/- Sums that are alike; sizes; signatures of a small group. No program. -/
open Go Go.Bx
namespace Go.Proofs.X
def mo (A B : List Int) : Nat → Int
  | 0 => 0
  | i + 1 => orK .u8 (mo A B i) (xorK .u8 (A.getD i 0) (B.getD i 0))
theorem xorK_self (x : Int) : xorK .u8 x x = 0 := by
  show IntKind.u8.wrap ((BitVec.ofInt 8 x ^^^ BitVec.ofInt 8 x).toNat : Int) = 0
  rw [BitVec.xor_self]; rfl
theorem mo_self (A : List Int) (n : Nat) : mo A A n = 0 := by
  induction n with
  | zero => rfl
  | succ n ih => rw [mo, ih, xorK_self]; rfl
/-- How much pieces have in them. -/
def szA (L : List Pc) : Nat → Nat
  | 0 => L.length
  | i + 1 => szA L i + (1 + (L.getD i p0).2.length)
theorem szA_0 (L : List Pc) : szA L 0 = L.length := rfl
theorem szA_s (L : List Pc) (i : Nat) : szA L i + (1 + (L.getD i p0).2.length) = szA L (i + 1) := rfl
theorem szA_le (L : List Pc) (i : Nat) : L.length ≤ szA L i ∧ ∀ k, k < i → (L.getD k p0).2.length ≤ szA L i := by
  induction i with
  | zero => exact ⟨Nat.le_refl _, fun k hk => absurd hk (Nat.not_lt_zero k)⟩
  | succ i ih =>
    rw [← szA_s]
    refine ⟨by omega, fun k hk => ?_⟩
    rcases Nat.lt_succ_iff_lt_or_eq.1 hk with h | rfl
    · have := ih.2 k h; omega
    · omega
theorem sz_ex (L : List Pc) (b : Nat) : ∃ i, i ≤ L.length ∧ (i = L.length ∨ b < szA L i) ∧ ∀ k, k < i → szA L k ≤ b := by
  have : ∀ n, n ≤ L.length → (∃ i, i ≤ L.length ∧ (i = L.length ∨ b < szA L i) ∧ ∀ k, k < i → szA L k ≤ b) ∨ ∀ k, k < n → szA L k ≤ b := by
    intro n
    induction n with
    | zero => exact fun _ => .inr fun k hk => absurd hk (Nat.not_lt_zero k)
    | succ n ih =>
      intro hn
      rcases ih (by omega) with h | h
      · exact .inl h
      · rcases Nat.lt_or_ge b (szA L n) with h1 | h1
        · exact .inl ⟨n, by omega, .inr h1, h⟩
        · exact .inr fun k hk => (Nat.lt_succ_iff_lt_or_eq.1 hk).elim (h k) fun e => e ▸ h1
  rcases this L.length (Nat.le_refl _) with h | h
  · exact h
  · exact ⟨L.length, Nat.le_refl _, .inl rfl, h⟩
/-- One that is signed passes, in the small group. -/
theorem small_ok : ∀ c, c < 11 → ∀ d, d < 11 → expP 23 4 ((d + 3 * c % 11) % 11) * expP 23 (expP 23 4 3) (11 - c) % 23 = expP 23 4 d := by decide
theorem small_ck (B : List Int) : ckB 23 11 4 (expP 23 4 3) B (sg0 11 (expP 23 4 3) (expP 23 4 (drP 11 3 B)) B) ((drP 11 3 B + 3 * sg0 11 (expP 23 4 3) (expP 23 4 (drP 11 3 B)) B % 11) % 11) = true := by
  have hc : sg0 11 (expP 23 4 3) (expP 23 4 (drP 11 3 B)) B < 11 := sg0_lt (by decide)
  have hd : drP 11 3 B < 11 := drP_lt (by decide)
  generalize hcc : sg0 11 (expP 23 4 3) (expP 23 4 (drP 11 3 B)) B = c at *
  have h := small_ok c hc _ hd
  unfold ckB ckA
  rw [h, hcc, decide_eq_true hc, decide_eq_true (Nat.mod_lt _ (by decide)), decide_eq_true rfl]
  decide
abbrev signedS : ByteArray := ⟨#[115, 105, 103, 110, 101, 100]⟩
theorem gN_2 (c s : Nat) (hc : c < 2 ^ 256) (hs : s < 2 ^ 256) : gN ((be 32 c ++ be 32 s).take 32) 32 = c ∧ gN ((be 32 c ++ be 32 s).drop 32) 32 = s := by
  have e1 : (be 32 c ++ be 32 s).take 32 = be 32 c := by rw [List.take_append_of_le_length (Nat.le_of_eq (be_len _ _).symm), List.take_of_length_le (Nat.le_of_eq (be_len _ _))]
  have e2 : (be 32 c ++ be 32 s).drop 32 = be 32 s := by rw [List.drop_append_of_le_length (Nat.le_of_eq (be_len _ _).symm), List.drop_of_length_le (Nat.le_of_eq (be_len _ _))]; rfl
  have k1 := gN_be 32 c [] (by omega)
  have k2 := gN_be 32 s [] (by omega)
  rw [List.append_nil] at k1 k2
  rw [e1, e2]
  exact ⟨k1, k2⟩
end Go.Proofs.X
end

section
/- Types and functions of sizes, as instances. -/
open Go Go.Bx Go.Proofs
namespace Go.Proofs.X
instance : Clb Tryz.prog 110 := ⟨_, Tryz.func110, by kernel_rfl, rfl⟩
instance : Clb Tryz.prog 85 := ⟨_, Tryz.func85, by kernel_rfl, rfl⟩
instance : Clb Tryz.prog 49 := ⟨_, Tryz.func49, by kernel_rfl, rfl⟩
instance : Clb Tryz.prog 15 := ⟨_, Tryz.func15, by kernel_rfl, rfl⟩
instance : Clb Tryz.prog 5 := ⟨_, Tryz.func5, by kernel_rfl, rfl⟩
instance : Clb Tryz.prog 11 := ⟨_, Tryz.func11, by kernel_rfl, rfl⟩
end Go.Proofs.X
end

section
open Go Go.Bx Go.Proofs
namespace Go.Proofs.X
attribute [local irreducible] be gN ckS encL chk pk0 pkB macS wd sg0 drP asB expP szA
set_option maxRecDepth 100000 in
set_option maxHeartbeats 4000000 in
theorem same_c (A B : List Int) (h : A.length = B.length) (hA : A.length ≤ 140737488355000) : Con Tryz.prog 92 [.s (.fzi .u8 A), .s (.fzi .u8 B)] [] (.s (.bool (decide (mo A B A.length = 0)))) [] := by
 refine con_in 31 Tryz.func92 rfl rfl (m := 0) rfl ?_
 intro E hP hn hE
 refine w_seq ?_
 refine g_reg hP hn ?_
 refine s_op k_as ?_
 refine s_nil trivial ?_
 refine n_wp ?_
 refine w_seq ?_
 refine w_seq ?_
 refine g_reg hP hn ?_
 refine s_op k_mv ?_
 refine s_op k_len ?_
 refine s_op k_mv ?_
 refine s_op k_len ?_
 refine s_op k_neq ?_
 refine s_nil trivial ?_
 refine n_wp ?_
 refine w_F rfl ?_ (by rw [h]; simp)
 refine w_skip ?_
 refine n_wp ?_
 refine w_seq ?_
 refine g_reg hP hn ?_
 refine s_op k_as ?_
 refine s_nil trivial ?_
 refine n_wp ?_
 refine w_seq ?_
 refine w_seq ?_
 refine g_reg hP hn ?_
 refine s_op k_mv ?_
 refine s_op k_len ?_
 refine s_op k_mv ?_
 refine s_nil trivial ?_
 refine n_wp ?_
 refine w_block ?_
 refine c_loop (fun m T H => ∃ i, i ≤ A.length ∧ m = A.length - i ∧ T = [(0, .s (.fzi .u8 A)), (1, .s (.fzi .u8 B)), (5, .s (.int .u8 (mo A B i))), (13, .s (.int .i64 ((A.length : Nat) : Int))), (14, .s (.int .i64 ((i : Nat) : Int)))] ∧ H = []) (A.length) ⟨0, by omega, rfl, rfl, rfl⟩ (wk hE []) ?_
 rintro n_ T_ H_ ⟨i, hi, rfl, rfl, rfl⟩
 refine w_seq ?_
 refine g_reg hP hn ?_
 refine s_op k_lss ?_
 refine s_nil trivial ?_
 refine n_wp ?_
 refine w_seq ?_
 refine w_if rfl (fun h_t15 => ?_) (fun h_t15 => ?_)
 · skip
   refine w_skip ?_
   refine n_wp ?_
   refine w_seq ?_
   refine w_block ?_
   refine w_seq ?_
   refine g_reg hP hn ?_
   refine s_op k_mv ?_
   refine s_op k_as ?_
   refine s_nil trivial ?_
   refine n_wp ?_
   refine g_any hP hn ?_
   refine s_op k_mv ?_
   refine s_op k_mv ?_
   refine s_op k_mv ?_
   refine s_op k_ix ?_
   refine s_op k_ld ?_
   refine s_op k_mv ?_
   refine s_op k_mv ?_
   refine s_op k_ix ?_
   refine s_op k_ld ?_
   refine s_op k_xor ?_
   refine s_op k_or ?_
   refine s_op k_as ?_
   refine s_nil (by kernel_rfl) ?_
   refine n_blo ?_
   refine n_wp ?_
   refine g_reg hP hn ?_
   refine s_op k_add ?_
   refine s_op k_mv ?_
   refine s_nil trivial ?_
   exact n_round (A.length - (i + 1)) (by omega) ⟨i + 1, by omega, rfl, rfl, rfl⟩ (wk hE [])
 · skip
   have hi : i = A.length := by omega
   rw [hi]
   refine w_exit ?_
   refine x_thn ?_
   refine x_thn ?_
   refine x_eq ?_
   refine n_wp ?_
   refine w_seq ?_
   refine g_reg hP hn ?_
   refine s_op k_mv ?_
   refine s_op k_eql ?_
   refine s_op k_as ?_
   refine s_nil trivial ?_
   refine n_wp ?_
   refine w_ret ?_
   exact d_ret hP hn hE [] (by first | exact r_tmp Tryz.results92 | exact r_tmpa Tryz.results92)

theorem same_ok (A B : List Int) (h : A = B) (hA : A.length ≤ 140737488355000) : Con Tryz.prog 92 [.s (.fzi .u8 A), .s (.fzi .u8 B)] [] (.s (.bool true)) [] := by
 subst h
 have h := same_c A A rfl hA
 rwa [show decide (mo A A A.length = 0) = true from decide_eq_true (mo_self A _)] at h

set_option maxRecDepth 100000 in
set_option maxHeartbeats 4000000 in
theorem bsz_c (B : List Int) : Con Tryz.prog 110 [.s (.fzi .u8 B)] [] (.s (.int .i64 ((B.length : Nat) : Int))) [] := by
 refine con_in 5 Tryz.func110 rfl rfl (m := 0) rfl ?_
 intro E hP hn hE
 refine w_seq ?_
 refine g_reg hP hn ?_
 refine s_op k_as ?_
 refine s_nil trivial ?_
 refine n_wp ?_
 refine w_seq ?_
 refine g_reg hP hn ?_
 refine s_op k_mv ?_
 refine s_op k_len ?_
 refine s_op k_as ?_
 refine s_nil trivial ?_
 refine n_wp ?_
 refine w_ret ?_
 exact d_ret hP hn hE [] (by first | exact r_tmp Tryz.results110 | exact r_tmpa Tryz.results110)

set_option maxRecDepth 100000 in
set_option maxHeartbeats 4000000 in
theorem psz1_c (p : Pc) (hB : p.2.length ≤ 140737488355328) : Con Tryz.prog 85 [.agg (PR p)] [] (.s (.int .i64 (((1 + p.2.length) : Nat) : Int))) [] := by
 refine con_in 12 Tryz.func85 rfl rfl (m := 0) rfl ?_
 intro E hP hn hE
 refine w_seq ?_
 refine g_reg hP hn ?_
 refine s_op k_bxf ?_
 refine s_op k_as ?_
 refine s_nil trivial ?_
 refine n_wp ?_
 refine w_seq ?_
 refine g_reg hP hn ?_
 refine s_op k_as ?_
 refine s_nil trivial ?_
 refine n_wp ?_
 refine w_seq ?_
 refine w_seq ?_
 refine g_reg hP hn ?_
 refine s_op k_mv ?_
 refine s_op k_leq ?_
 refine s_nil trivial ?_
 refine n_wp ?_
 refine w_T rfl ?_ (by decide)
 refine g_reg hP hn ?_
 refine s_op k_mv ?_
 refine s_op k_fa ?_
 refine s_op k_ld ?_
 refine s_op (k_call [] (con := bsz_c p.2)) ?_
 refine s_op k_add ?_
 refine s_op k_as ?_
 refine s_nil trivial ?_
 refine n_wp ?_
 refine w_seq ?_
 refine g_reg hP hn ?_
 refine s_op k_mv ?_
 refine s_op k_as ?_
 refine s_nil trivial ?_
 refine n_wp ?_
 refine w_ret ?_
 exact d_ret hP hn hE [] (by first | exact r_tmp Tryz.results85 | exact r_tmpa Tryz.results85)

set_option maxRecDepth 100000 in
set_option maxHeartbeats 4000000 in
theorem psz_c (L : List Pc) (hLb : L.length ≤ 140737488355328) (hbd : ∀ k, (L.getD k p0).2.length ≤ 140737488355328) (i0 : Nat) (hi0 : i0 ≤ L.length) (hstop : i0 = L.length ∨ 1048576 < szA L i0) (hgo : ∀ k, k < i0 → szA L k ≤ 1048576)  : Con Tryz.prog 49 [.s (PARS L)] [] (.s (.int .i64 ((szA L i0 : Nat) : Int))) [] := by
 refine con_in 25 Tryz.func49 rfl rfl (m := 0) rfl ?_
 intro E hP hn hE
 refine w_seq ?_
 refine g_reg hP hn ?_
 refine s_op k_as ?_
 refine s_nil trivial ?_
 refine n_wp ?_
 refine w_seq ?_
 refine g_reg hP hn ?_
 refine s_op k_mv ?_
 refine s_op k_len ?_
 refine s_op k_as ?_
 refine s_nil trivial ?_
 refine n_wp ?_
 refine w_seq ?_
 refine w_seq ?_
 refine g_reg hP hn ?_
 refine s_op k_as ?_
 refine s_nil trivial ?_
 refine n_wp ?_
 refine w_block ?_
 refine c_loop (fun m_ T H => ∃ i, i ≤ i0 ∧ m_ = i0 - i ∧ T = [(0, .s (PARS L)), (3, .s (.int .i64 ((szA L i : Nat) : Int))), (4, .s (.int .i64 ((i : Nat) : Int)))] ∧ H = []) (i0) ⟨0, by omega, rfl, by rw [szA_0], rfl⟩ (wk hE []) ?_
 rintro n_ T_ H_ ⟨i, hi, rfl, rfl, rfl⟩
 refine w_seq ?_
 refine w_seq ?_
 refine g_reg hP hn ?_
 refine s_op k_mv ?_
 refine s_op k_mv ?_
 refine s_op k_len ?_
 refine s_op k_lss ?_
 refine s_op k_mv ?_
 refine s_opt rfl rfl (fun hB => by rw [hB]; (try simp only [Bool.or_eq_true, Bool.or_eq_false_iff, Bool.and_eq_true, Bool.not_eq_true', Bool.not_eq_false', decide_eq_true_eq, decide_eq_false_iff_not] at hB); exact k_mv) ?_
 refine s_opt rfl rfl (fun hB => by rw [hB]; (try simp only [Bool.or_eq_true, Bool.or_eq_false_iff, Bool.and_eq_true, Bool.not_eq_true', Bool.not_eq_false', decide_eq_true_eq, decide_eq_false_iff_not] at hB); exact (l_bin rfl rfl (b_leq (r := decide (szA L i ≤ 1048576)) (decide_eq_decide.2 (by omega))))) ?_
 refine s_op k_pk ?_
 refine s_nil trivial ?_
 refine n_wp ?_
 refine w_cond rfl (fun h_t14 => ?_) (fun h_t14 => ?_)
 · skip
   simp only [Bool.and_eq_true, decide_eq_true_eq] at h_t14
   have hib := hbd i
   have hlt : i < i0 := by
    rcases Nat.lt_or_ge i i0 with h | h
    · exact h
    · obtain rfl : i = i0 := Nat.le_antisymm hi h
      omega
   refine w_skip ?_
   refine n_wp ?_
   refine w_seq ?_
   refine w_block ?_
   refine g_reg hP hn ?_
   refine s_op k_mv ?_
   refine s_op k_mv ?_
   refine s_op k_mv ?_
   refine s_op k_ix ?_
   refine s_op k_ldP ?_
   refine s_op (k_call [] (con := psz1_c (L.getD i p0) (hbd i))) ?_
   refine s_op k_add ?_
   refine s_op k_as ?_
   refine s_nil trivial ?_
   refine n_blo ?_
   refine n_wp ?_
   refine g_reg hP hn ?_
   refine s_op k_mv ?_
   refine s_op k_add ?_
   refine s_op k_as ?_
   refine s_nil trivial ?_
   exact n_round (i0 - (i + 1)) (by omega) ⟨i + 1, by omega, rfl, by rw [← szA_s], rfl⟩ (wk hE [])
 · skip
   simp only [Bool.and_eq_false_iff, decide_eq_false_iff_not] at h_t14
   obtain rfl : i = i0 := by
    rcases Nat.lt_or_ge i i0 with h | h
    · have := hgo i h
      omega
    · exact Nat.le_antisymm hi h
   refine w_exit ?_
   refine x_thn ?_
   refine x_thn ?_
   refine x_eq ?_
   refine n_wp ?_
   refine w_seq ?_
   refine g_reg hP hn ?_
   refine s_op k_mv ?_
   refine s_op k_as ?_
   refine s_nil trivial ?_
   refine n_wp ?_
   refine w_ret ?_
   exact d_ret hP hn hE [] (by first | exact r_tmp Tryz.results49 | exact r_tmpa Tryz.results49)

theorem sz_bd (L : List Pc) (hLb : L.length ≤ 140737488355328) (hbd : ∀ k, (L.getD k p0).2.length ≤ 140737488355328) (i0 : Nat) (hi0 : i0 ≤ L.length) (hstop : i0 = L.length ∨ 1048576 < szA L i0) (hgo : ∀ k, k < i0 → szA L k ≤ 1048576) : szA L i0 ≤ 1000000000000000 := by
 cases i0 with
 | zero => rw [szA_0]; omega
 | succ i => have := hgo i (Nat.lt_succ_self i); have := hbd i; rw [← szA_s]; omega

set_option maxRecDepth 100000 in
set_option maxHeartbeats 4000000 in
theorem pksz_c (k : Nat) (A B : List Int) (L : List Pc) (hLb : L.length ≤ 140737488355328) (hbd : ∀ k, (L.getD k p0).2.length ≤ 140737488355328) (i0 : Nat) (hi0 : i0 ≤ L.length) (hstop : i0 = L.length ∨ 1048576 < szA L i0) (hgo : ∀ k, k < i0 → szA L k ≤ 1048576)  : Con Tryz.prog 15 [.agg (PKT k A B L)] [] (.s (.int .i64 (((1 + szA L i0) : Nat) : Int))) [] := by
 refine con_in 12 Tryz.func15 rfl rfl (m := 0) rfl ?_
 intro E hP hn hE
 have hsb := sz_bd L hLb hbd i0 hi0 hstop hgo
 refine w_seq ?_
 refine g_reg hP hn ?_
 refine s_op k_bxf ?_
 refine s_op k_as ?_
 refine s_nil trivial ?_
 refine n_wp ?_
 refine w_seq ?_
 refine g_reg hP hn ?_
 refine s_op k_as ?_
 refine s_nil trivial ?_
 refine n_wp ?_
 refine w_seq ?_
 refine w_seq ?_
 refine g_reg hP hn ?_
 refine s_op k_mv ?_
 refine s_op k_leq ?_
 refine s_nil trivial ?_
 refine n_wp ?_
 refine w_T rfl ?_ (by decide)
 refine g_reg hP hn ?_
 refine s_op k_mv ?_
 refine s_op k_fa ?_
 refine s_op k_ld ?_
 refine s_op (k_call [] (con := psz_c L hLb hbd i0 hi0 hstop hgo)) ?_
 refine s_op k_add ?_
 refine s_op k_as ?_
 refine s_nil trivial ?_
 refine n_wp ?_
 refine w_seq ?_
 refine g_reg hP hn ?_
 refine s_op k_mv ?_
 refine s_op k_as ?_
 refine s_nil trivial ?_
 refine n_wp ?_
 refine w_ret ?_
 exact d_ret hP hn hE [] (by first | exact r_tmp Tryz.results15 | exact r_tmpa Tryz.results15)

set_option maxRecDepth 100000 in
set_option maxHeartbeats 4000000 in
theorem great_c (k : Nat) (A B : List Int) (L : List Pc) (hLb : L.length ≤ 140737488355328) (hbd : ∀ k, (L.getD k p0).2.length ≤ 140737488355328) (i0 : Nat) (hi0 : i0 ≤ L.length) (hstop : i0 = L.length ∨ 1048576 < szA L i0) (hgo : ∀ k, k < i0 → szA L k ≤ 1048576)  : Con Tryz.prog 5 [.agg (PKT k A B L)] [] (.s (.bool (decide (6000 < 1 + szA L i0)))) [] := by
 refine con_in 6 Tryz.func5 rfl rfl (m := 0) rfl ?_
 intro E hP hn hE
 refine w_seq ?_
 refine g_reg hP hn ?_
 refine s_op k_bxf ?_
 refine s_op k_as ?_
 refine s_nil trivial ?_
 refine n_wp ?_
 refine w_seq ?_
 refine g_reg hP hn ?_
 refine s_op k_ld ?_
 refine s_op (k_call [] (con := pksz_c k A B L hLb hbd i0 hi0 hstop hgo)) ?_
 refine s_op k_gtr ?_
 refine s_op k_as ?_
 refine s_nil trivial ?_
 refine n_wp ?_
 refine w_ret ?_
 exact d_ret hP hn hE [] (by first | exact r_tmp Tryz.results5 | exact r_tmpa Tryz.results5)

set_option maxRecDepth 100000 in
set_option maxHeartbeats 4000000 in
theorem numb_c (B : List Int) (h : 32 ≤ B.length) (hU : U8' B) : Con Tryz.prog 96 [.s (.fzi .u8 B)] [] (.agg [.ints .u64 4 (zs (wd (gN B 32)))]) [] := by
 refine con_in 11 Tryz.func96 rfl rfl (m := 0) rfl ?_
 intro E hP hn hE
 refine w_seq ?_
 refine g_reg hP hn ?_
 refine s_op k_al ?_
 refine s_nil trivial ?_
 refine n_wp ?_
 refine w_seq ?_
 refine g_reg hP hn ?_
 refine s_op k_mv ?_
 refine s_op (k_call [] (con := gl_n B h hU)) ?_
 refine s_op k_mv ?_
 refine s_op k_ex ?_
 refine s_op k_ex ?_
 refine s_op k_al ?_
 refine s_st k_st ?_
 refine s_op k_as ?_
 refine s_nil trivial ?_
 refine n_wp ?_
 refine w_seq ?_
 refine g_reg hP hn ?_
 refine s_op k_ld ?_
 refine s_st k_st ?_
 refine s_nil trivial ?_
 refine n_wp ?_
 refine w_ret ?_
 exact d_ret hP hn hE [] (r_cell Tryz.results96)

set_option maxRecDepth 100000 in
set_option maxHeartbeats 4000000 in
theorem gsig1_c (B : List Int) (hB : B.length = 64) (hU : U8' B) : Con Tryz.prog 95 [.s (.fzi .u8 B)] [] (.agg [.ints .u64 4 (zs (wd (gN (B.take 32) 32))), .ints .u64 4 (zs (wd (gN (B.drop 32) 32)))]) [] := by
 refine con_in 10 Tryz.func95 rfl rfl (m := 0) rfl ?_
 intro E hP hn hE
 refine w_seq ?_
 refine g_reg hP hn ?_
 refine s_op k_al ?_
 refine s_nil trivial ?_
 refine n_wp ?_
 refine w_seq ?_
 refine g_any hP hn ?_
 refine s_op k_mv ?_
 refine s_op (l_sli (ys := B.take 32) (l := 0) (h := 32) rfl rfl ⟨_, _, rfl, rfl⟩ (.inl rfl) rfl Und.h Sz.h (Nat.zero_le _) (by omega) (by simp)) ?_
 refine s_op (k_call [] (con := numb_c (B.take 32) (by simp; omega) (U8'_take hU 32))) ?_
 refine s_op k_mv ?_
 refine s_op (l_sli (ys := B.drop 32) (l := 32) (h := B.length) rfl ⟨_, _, rfl, rfl⟩ rfl (.inl rfl) rfl Und.h Sz.h (by omega) (Nat.le_refl _) (List.take_of_length_le (by simp))) ?_
 refine s_op (k_call [] (con := numb_c (B.drop 32) (by simp; omega) (U8'_drop hU 32))) ?_
 refine s_op k_bd ?_
 refine s_st k_st ?_
 refine s_nil (by kernel_rfl) ?_
 refine n_wp ?_
 refine w_ret ?_
 exact d_ret hP hn hE [] (r_cell Tryz.results95)

set_option maxRecDepth 100000 in
set_option maxHeartbeats 4000000 in
theorem exsig_c (B : List Int) (hB : B.length = 64) (hU : U8' B) : Con Tryz.prog 94 [.s (.fzi .u8 B), .s (.int .i64 64), .s (.val (.func (.func 95) #[] #[])), .s .nils] [] (.tup [.agg [.ints .u64 4 (zs (wd (gN (B.take 32) 32))), .ints .u64 4 (zs (wd (gN (B.drop 32) 32)))], .s (.int .i64 0)]) [] := by
 refine con_in 32 Tryz.func94 rfl rfl (m := 0) rfl ?_
 intro E hP hn hE
 refine w_seq ?_
 refine g_reg hP hn ?_
 refine s_op k_al ?_
 refine s_op k_as ?_
 refine s_nil trivial ?_
 refine n_wp ?_
 refine w_seq ?_
 refine w_seq ?_
 refine g_reg hP hn ?_
 refine s_op k_mv ?_
 refine s_op k_len ?_
 refine s_op k_mv ?_
 refine s_op k_neq ?_
 refine s_nil trivial ?_
 refine n_wp ?_
 refine w_F rfl ?_ (by rw [hB]; rfl)
 refine w_skip ?_
 refine n_wp ?_
 refine w_seq ?_
 refine w_seq ?_
 refine g_reg hP hn ?_
 refine s_op k_mv ?_
 refine s_op k_len ?_
 refine s_op k_mv ?_
 refine s_nil trivial ?_
 refine n_wp ?_
 refine w_block ?_
 refine c_loop (fun m_ T H => T = [(0, .s (.fzi .u8 B)), (2, .s (.val (.func (.func 95) #[] #[]))), (8, .s (.ptr 0 0 0)), (18, .s (.int .i64 ((0 : Nat) : Int))), (19, .s (.int .i64 ((0 : Nat) : Int)))] ∧ H = [some ⟨true, [.ints .u64 4 (zs (List.replicate 4 0)), .ints .u64 4 (zs (List.replicate 4 0))]⟩]) (0) ⟨rfl, rfl⟩ (wk hE [0]) ?_
 rintro n_ T_ H_ ⟨rfl, rfl⟩
 refine w_seq ?_
 refine g_reg hP hn ?_
 refine s_op k_lss ?_
 refine s_nil trivial ?_
 refine n_wp ?_
 refine w_seq ?_
 refine w_F rfl ?_ 
 refine w_exit ?_
 refine x_thn ?_
 refine x_thn ?_
 refine x_eq ?_
 refine n_wp ?_
 refine w_seq ?_
 refine w_weak (weak_conv 2 rfl (conv_vf (q := capF []))) ?_
 refine g_reg hP hn ?_
 refine s_op k_mv ?_
 refine s_op k_mv ?_
 refine s_op (k_callN [] (con := gsig1_c B hB hU)) ?_
 refine s_st k_st ?_
 refine s_op k_as ?_
 refine s_nil trivial ?_
 refine n_wp ?_
 refine w_ret ?_
 exact d_ret hP hn hE [] (ret2 Tryz.results94 r_cella (by first | exact ri_tmp rfl | exact ri_tmpa rfl))

set_option maxRecDepth 100000 in
set_option maxHeartbeats 4000000 in
theorem getsig_c (B : List Int) (hB : B.length = 64) (hU : U8' B) : Con Tryz.prog 56 [.s (.fzi .u8 B)] [] (.tup [.agg [.ints .u64 4 (zs (wd (gN (B.take 32) 32))), .ints .u64 4 (zs (wd (gN (B.drop 32) 32)))], .s (.int .i64 0)]) [] := by
 refine con_in 8 Tryz.func56 rfl rfl (m := 0) rfl ?_
 intro E hP hn hE
 refine w_seq ?_
 refine g_reg hP hn ?_
 refine s_op k_al ?_
 refine s_op k_as ?_
 refine s_nil trivial ?_
 refine n_wp ?_
 refine w_seq ?_
 refine g_reg hP hn ?_
 refine s_op k_mv ?_
 refine s_op (k_call [] (con := exsig_c B hB hU)) ?_
 refine s_op k_ex ?_
 refine s_op k_ex ?_
 refine s_st k_st ?_
 refine s_op k_as ?_
 refine s_nil trivial ?_
 refine n_wp ?_
 refine w_ret ?_
 exact d_ret hP hn hE [] (ret2 Tryz.results56 r_cella (by first | exact ri_tmp rfl | exact ri_tmpa rfl))

end Go.Proofs.X
end

section
/- Bytes that are alike. No program. -/
open Go Go.Bx
namespace Go.Proofs.X
def AlikeTo (A B : List Int) (i : Nat) : Prop := ∀ k, k < i → A.getD k 0 = B.getD k 0
theorem AlikeTo.all {A B : List Int} (hl : A.length = B.length) (h : AlikeTo A B A.length) : A = B := eqI hl h
theorem AlikeTo.next {A B : List Int} {i : Nat} (h : AlikeTo A B i) (e : A.getD i 0 = B.getD i 0) : AlikeTo A B (i + 1) := fun k hk => by
  by_cases hki : k = i
  · subst hki; exact e
  · exact h k (by omega)
theorem alike_not {A B : List Int} {i : Nat} (h : A.getD i 0 ≠ B.getD i 0) : A ≠ B := fun e => h (by rw [e])
end Go.Proofs.X
end

section
open Go Go.Bx Go.Proofs
namespace Go.Proofs.X
set_option maxRecDepth 100000 in
set_option maxHeartbeats 4000000 in
theorem sameb_c (A B : List Int) (hA : A.length ≤ 140737488355000) : Con Tryz.prog 11 [.s (.fzi .u8 A), .s (.fzi .u8 B)] [] (.s (.bool (decide (A = B)))) [] := by
 refine con_in 26 Tryz.func11 rfl rfl (m := 0) rfl ?_
 intro E hP hn hE
 refine w_seq ?_
 refine g_reg hP hn ?_
 refine s_op k_as ?_
 refine s_nil trivial ?_
 refine n_wp ?_
 refine w_seq ?_
 refine w_seq ?_
 refine g_reg hP hn ?_
 refine s_op k_mv ?_
 refine s_op k_len ?_
 refine s_op k_mv ?_
 refine s_op k_len ?_
 refine s_op k_neq ?_
 refine s_nil trivial ?_
 refine n_wp ?_
 refine w_ifn rfl (fun h_t10 => ?_) (fun h_t10 => ?_)
 · skip
   rw [decide_eq_false (fun e : A = B => h_t10 (by rw [e]))]
   refine w_seq ?_
   refine g_reg hP hn ?_
   refine s_op k_as ?_
   refine s_nil trivial ?_
   refine n_wp ?_
   refine w_ret ?_
   refine r_thn ?_
   exact d_ret hP hn hE [] (by first | exact r_tmp Tryz.results11 | exact r_tmpa Tryz.results11)
 · skip
   refine w_skip ?_
   refine n_wp ?_
   refine w_seq ?_
   refine w_seq ?_
   refine g_reg hP hn ?_
   refine s_op k_as ?_
   refine s_nil trivial ?_
   refine n_wp ?_
   refine w_block ?_
   refine c_loop (fun m T H => ∃ i, i ≤ A.length ∧ m = A.length - i ∧ AlikeTo A B i ∧ T = [(0, .s (.fzi .u8 A)), (1, .s (.fzi .u8 B)), (5, .s (.int .i64 ((i : Nat) : Int)))] ∧ H = []) (A.length) ⟨0, by omega, rfl, fun k hk => absurd hk (Nat.not_lt_zero k), rfl, rfl⟩ (wk hE []) ?_
   rintro n_ T_ H_ ⟨i, hi, rfl, hal, rfl, rfl⟩
   refine w_seq ?_
   refine w_seq ?_
   refine g_reg hP hn ?_
   refine s_op k_mv ?_
   refine s_op k_mv ?_
   refine s_op k_len ?_
   refine s_op k_lss ?_
   refine s_nil trivial ?_
   refine n_wp ?_
   refine w_if rfl (fun h_t14 => ?_) (fun h_t14 => ?_)
   · skip
     refine w_skip ?_
     refine n_wp ?_
     refine w_seq ?_
     refine w_block ?_
     refine w_seq ?_
     refine g_any hP hn ?_
     refine s_op k_mv ?_
     refine s_op k_mv ?_
     refine s_op k_ix ?_
     refine s_op k_ld ?_
     refine s_op k_mv ?_
     refine s_op k_mv ?_
     refine s_op k_ix ?_
     refine s_op k_ld ?_
     refine s_op k_neq ?_
     refine s_nil (by kernel_rfl) ?_
     refine n_wp ?_
     refine w_if rfl (fun h_t25 => ?_) (fun h_t25 => ?_)
     · skip
       rw [decide_eq_false (alike_not h_t25)]
       refine w_seq ?_
       refine g_reg hP hn ?_
       refine s_op k_as ?_
       refine s_nil trivial ?_
       refine n_wp ?_
       refine w_ret ?_
       refine r_blo ?_
       refine r_thn ?_
       refine r_thn ?_
       refine r_blo ?_
       refine r_thn ?_
       exact d_ret hP hn hE [] (by first | exact r_tmp Tryz.results11 | exact r_tmpa Tryz.results11)
     · skip
       have hnext := hal.next (Decidable.of_not_not h_t25)
       refine w_skip ?_
       refine n_blo ?_
       refine n_wp ?_
       refine g_reg hP hn ?_
       refine s_op k_mv ?_
       refine s_op k_add ?_
       refine s_op k_as ?_
       refine s_nil trivial ?_
       exact n_round (A.length - (i + 1)) (by omega) ⟨i + 1, by omega, rfl, hnext, rfl, rfl⟩ (wk hE [])
   · skip
     rw [decide_eq_true (AlikeTo.all h_t10 (by rw [show i = A.length by omega] at hal; exact hal))]
     refine w_exit ?_
     refine x_thn ?_
     refine x_thn ?_
     refine x_eq ?_
     refine n_wp ?_
     refine w_seq ?_
     refine g_reg hP hn ?_
     refine s_op k_as ?_
     refine s_nil trivial ?_
     refine n_wp ?_
     refine w_ret ?_
     exact d_ret hP hn hE [] (by first | exact r_tmp Tryz.results11 | exact r_tmpa Tryz.results11)

theorem as1_c (Y : List Int) (hY0 : 0 < Y.length) (hY : Y.length ≤ 900000) : Con Tryz.prog 24 [.s (.val (.string signedS)), .s (ROWS [Y])] [] (.agg [.ints .u8 32 (asB (strL signedS) [Y])]) [] := as_n signedS [Y] (by decide) (by decide) (Nat.le_of_ble_eq_true rfl) (fun i hi => by obtain rfl : i = 0 := Nat.lt_one_iff.1 hi; exact ⟨hY0, hY⟩)
theorem as1_len (Y : List Int) : (asB (strL signedS) [Y]).length = 32 := asB_len _ _
theorem sign_no0 (p q g : Nat) (hp : p < 2 ^ 256) (hq : q < 2 ^ 256) (hg : g < 2 ^ 256) (a : Nat) (B : List Int) (ha : a < 2 ^ 256) (hB : B.length = 32) (hno : secP p q g a = false) : Con Tryz.prog 23 [.agg (GRP p q g), .agg [.ints .u64 4 (zs (wd a))], .agg [.ints .u8 32 B]] [] (.tup [.agg [.ints .u64 4 (zs (wd 0)), .ints .u64 4 (zs (wd 0))], .s (.int .i64 1)]) [] := by
 have h := sign_no p q g hp hq hg a B ha hB hno
 have e : zs (List.replicate 4 0) = zs (wd 0) := by decide
 rwa [e] at h

attribute [local irreducible] be gN ckS encL chk pk0 pkB macS wd sg0 drP asB expP szA secP fineP inP mayP

set_option maxRecDepth 100000 in
set_option maxHeartbeats 4000000 in
theorem sign1_y (k : Nat) (A B : List Int) (L : List Pc) (p q g : Nat) (hp : p < 2 ^ 256) (hq : q < 2 ^ 256) (hg : g < 2 ^ 256) (a : Nat) (ha : a < 2 ^ 256) (Y : List Int) (hY0 : 0 < Y.length) (hY : Y.length ≤ 900000) (hc : Con Tryz.prog 10 [.agg (PKT k A B L)] [] (.tup [.s (.fzi .u8 (Y)), .s (.int .i64 0)]) []) (hf : fineP p q g = true) (h0 : a ≠ 0) (haq : a < q) : Con Tryz.prog 22 [.agg (PKT k A B L), .s (.fptr 12 (cellsF (GRP p q g)) 0 0), .s (.fptr 4 (cellsF [.ints .u64 4 (zs (wd a))]) 0 0)] [] (.tup [.s (.fzi .u8 (be 32 (sg0 q (expP p g a) (expP p g (drP q a (asB (strL signedS) [Y]))) (asB (strL signedS) [Y])) ++ be 32 ((drP q a (asB (strL signedS) [Y]) + a * (sg0 q (expP p g a) (expP p g (drP q a (asB (strL signedS) [Y]))) (asB (strL signedS) [Y])) % q) % q))), .s (.int .i64 0)]) [] := by
 refine con_in 29 Tryz.func22 rfl rfl (m := 0) rfl ?_
 intro E hP hn hE
 refine w_seq ?_
 refine g_reg hP hn ?_
 refine s_op k_bx ?_
 refine s_op k_as ?_
 refine s_op k_as ?_
 refine s_nil trivial ?_
 refine n_wp ?_
 refine w_seq ?_
 refine g_reg hP hn ?_
 refine s_op k_ld ?_
 refine s_op (k_call [] (con := hc)) ?_
 refine s_op k_mv ?_
 refine s_op k_ex ?_
 refine s_op k_ex ?_
 refine s_op k_as ?_
 refine s_op k_as ?_
 refine s_nil trivial ?_
 refine n_wp ?_
 refine w_seq ?_
 refine w_seq ?_
 refine g_reg hP hn ?_
 refine s_op k_mv ?_
 refine s_op (l_bin rfl rfl (b_neq (r := false) (decide_eq_false (fun h => h rfl)))) ?_
 refine s_nil trivial ?_
 refine n_wp ?_
 refine w_F rfl ?_ 
 refine w_skip ?_
 refine n_wp ?_
 refine w_seq ?_
 refine g_any hP hn ?_
 refine s_op k_ld ?_
 refine s_op k_ld ?_
 refine s_op k_mv ?_
 refine s_op (k_bsz [.fzi .u8 Y]) ?_
 refine s_op (k_call [] (con := as1_c Y hY0 hY)) ?_
 refine s_op (k_call [] (con := sign_y p q g hp hq hg a (asB (strL signedS) [Y]) ha (as1_len Y) hf h0 haq)) ?_
 refine s_op k_mv ?_
 refine s_op k_ex ?_
 refine s_op k_ex ?_
 refine s_op k_al ?_
 refine s_st k_st ?_
 refine s_op k_as ?_
 refine s_nil (by kernel_rfl) ?_
 refine n_wp ?_
 refine w_seq ?_
 refine g_reg hP hn ?_
 refine s_op k_ld ?_
 refine s_op (k_call [] (con := psig_n (sg0 q (expP p g a) (expP p g (drP q a (asB (strL signedS) [Y]))) (asB (strL signedS) [Y])) ((drP q a (asB (strL signedS) [Y]) + a * (sg0 q (expP p g a) (expP p g (drP q a (asB (strL signedS) [Y]))) (asB (strL signedS) [Y])) % q) % q))) ?_
 refine s_op k_mv ?_
 refine s_op k_as ?_
 refine s_op k_as ?_
 refine s_nil trivial ?_
 refine n_wp ?_
 refine w_ret ?_
 exact d_ret hP hn hE [] (ret2 Tryz.results22 (by first | exact ri_tmp rfl | exact ri_tmpa rfl) (by first | exact ri_tmp rfl | exact ri_tmpa rfl))

set_option maxRecDepth 100000 in
set_option maxHeartbeats 4000000 in
theorem sign1_s (k : Nat) (A B : List Int) (L : List Pc) (p q g : Nat) (hp : p < 2 ^ 256) (hq : q < 2 ^ 256) (hg : g < 2 ^ 256) (a : Nat) (ha : a < 2 ^ 256) (Y : List Int) (hY0 : 0 < Y.length) (hY : Y.length ≤ 900000) (hc : Con Tryz.prog 10 [.agg (PKT k A B L)] [] (.tup [.s (.fzi .u8 (Y)), .s (.int .i64 0)]) []) (hno : secP p q g a = false) : Con Tryz.prog 22 [.agg (PKT k A B L), .s (.fptr 12 (cellsF (GRP p q g)) 0 0), .s (.fptr 4 (cellsF [.ints .u64 4 (zs (wd a))]) 0 0)] [] (.tup [.s (.fzi .u8 (be 32 0 ++ be 32 0)), .s (.int .i64 1)]) [] := by
 refine con_in 29 Tryz.func22 rfl rfl (m := 0) rfl ?_
 intro E hP hn hE
 refine w_seq ?_
 refine g_reg hP hn ?_
 refine s_op k_bx ?_
 refine s_op k_as ?_
 refine s_op k_as ?_
 refine s_nil trivial ?_
 refine n_wp ?_
 refine w_seq ?_
 refine g_reg hP hn ?_
 refine s_op k_ld ?_
 refine s_op (k_call [] (con := hc)) ?_
 refine s_op k_mv ?_
 refine s_op k_ex ?_
 refine s_op k_ex ?_
 refine s_op k_as ?_
 refine s_op k_as ?_
 refine s_nil trivial ?_
 refine n_wp ?_
 refine w_seq ?_
 refine w_seq ?_
 refine g_reg hP hn ?_
 refine s_op k_mv ?_
 refine s_op (l_bin rfl rfl (b_neq (r := false) (decide_eq_false (fun h => h rfl)))) ?_
 refine s_nil trivial ?_
 refine n_wp ?_
 refine w_F rfl ?_ 
 refine w_skip ?_
 refine n_wp ?_
 refine w_seq ?_
 refine g_any hP hn ?_
 refine s_op k_ld ?_
 refine s_op k_ld ?_
 refine s_op k_mv ?_
 refine s_op (k_bsz [.fzi .u8 Y]) ?_
 refine s_op (k_call [] (con := as1_c Y hY0 hY)) ?_
 refine s_op (k_call [] (con := sign_no0 p q g hp hq hg a (asB (strL signedS) [Y]) ha (as1_len Y) hno)) ?_
 refine s_op k_mv ?_
 refine s_op k_ex ?_
 refine s_op k_ex ?_
 refine s_op k_al ?_
 refine s_st k_st ?_
 refine s_op k_as ?_
 refine s_nil (by kernel_rfl) ?_
 refine n_wp ?_
 refine w_seq ?_
 refine g_reg hP hn ?_
 refine s_op k_ld ?_
 refine s_op (k_call [] (con := psig_n 0 0)) ?_
 refine s_op k_mv ?_
 refine s_op k_as ?_
 refine s_op k_as ?_
 refine s_nil trivial ?_
 refine n_wp ?_
 refine w_ret ?_
 exact d_ret hP hn hE [] (ret2 Tryz.results22 (by first | exact ri_tmp rfl | exact ri_tmpa rfl) (by first | exact ri_tmp rfl | exact ri_tmpa rfl))

set_option maxRecDepth 100000 in
set_option maxHeartbeats 4000000 in
theorem sign1_e (k : Nat) (A B : List Int) (L : List Pc) (p q g a : Nat) (e : Int) (he : e ≠ 0) (hc : Con Tryz.prog 10 [.agg (PKT k A B L)] [] (.tup [.s .nils, .s (.int .i64 e)]) []) : Con Tryz.prog 22 [.agg (PKT k A B L), .s (.fptr 12 (cellsF (GRP p q g)) 0 0), .s (.fptr 4 (cellsF [.ints .u64 4 (zs (wd a))]) 0 0)] [] (.tup [.s .nils, .s (.int .i64 e)]) [] := by
 refine con_in 29 Tryz.func22 rfl rfl (m := 0) rfl ?_
 intro E hP hn hE
 refine w_seq ?_
 refine g_reg hP hn ?_
 refine s_op k_bx ?_
 refine s_op k_as ?_
 refine s_op k_as ?_
 refine s_nil trivial ?_
 refine n_wp ?_
 refine w_seq ?_
 refine g_reg hP hn ?_
 refine s_op k_ld ?_
 refine s_op (k_call [] (con := hc)) ?_
 refine s_op k_mv ?_
 refine s_op k_ex ?_
 refine s_op k_ex ?_
 refine s_op k_as ?_
 refine s_op k_as ?_
 refine s_nil trivial ?_
 refine n_wp ?_
 refine w_seq ?_
 refine w_seq ?_
 refine g_reg hP hn ?_
 refine s_op k_mv ?_
 refine s_op (l_bin rfl rfl (b_neq (r := true) (decide_eq_true he))) ?_
 refine s_nil trivial ?_
 refine n_wp ?_
 refine w_T rfl ?_ 
 refine w_seq ?_
 refine g_reg hP hn ?_
 refine s_op k_mv ?_
 refine s_op k_as ?_
 refine s_op k_as ?_
 refine s_nil trivial ?_
 refine n_wp ?_
 refine w_ret ?_
 refine r_thn ?_
 exact d_ret hP hn hE [] (ret2 Tryz.results22 (by first | exact ri_tmp rfl | exact ri_tmpa rfl) (by first | exact ri_tmp rfl | exact ri_tmpa rfl))

set_option maxRecDepth 100000 in
set_option maxHeartbeats 4000000 in
theorem is_y (k : Nat) (A B : List Int) (L : List Pc) (t : Nat) (K : List Int) (hw : WfL L) (j : Nat) (hj : j < L.length) (hno : ∀ k, k < j → decide ((L.getD k p0).1 = t) = false) (hy : decide ((L.getD j p0).1 = t) = true) (Y : List Int) (hcb : Con Tryz.prog 58 [.agg (PKT k A B (keepL (fun x => decide (t ≤ x)) L)), .s (KEYP K)] [] (.tup [.s (.fzi .u8 (Y)), .s (.int .i64 0)]) []) (hs : (L.getD j p0).2 = Y) : Con Tryz.prog 54 [.agg (SEAL 58 1 t [KEYP K]), .agg (PKT k A B L)] [] (.s (.bool true)) [] := by
 refine con_in 37 Tryz.func54 rfl rfl (m := 0) rfl ?_
 intro E hP hn hE
 refine w_seq ?_
 refine g_reg hP hn ?_
 refine s_op k_bxf ?_
 refine s_op k_bxf ?_
 refine s_op k_as ?_
 refine s_nil trivial ?_
 refine n_wp ?_
 refine w_seq ?_
 refine g_reg hP hn ?_
 refine s_op k_fa ?_
 refine s_op k_ld ?_
 refine s_op k_fa ?_
 refine s_op k_ld ?_
 refine s_op (k_call [] (con := find_y L t (by have := hw.len; omega) j hj hno hy (by have := (hw.get j).2.2; omega))) ?_
 refine s_op k_mv ?_
 refine s_op k_ex ?_
 refine s_op k_ex ?_
 refine s_op k_as ?_
 refine s_op k_as ?_
 refine s_nil trivial ?_
 refine n_wp ?_
 refine w_seq ?_
 refine g_any hP hn ?_
 refine s_op k_fa ?_
 refine s_op k_ld ?_
 refine s_op k_ld ?_
 refine s_op k_fa ?_
 refine s_op k_ld ?_
 refine s_op (k_call [] (con := below16_c k A B L t hw)) ?_
 refine s_op (k_callN [KEYP K] (con := hcb)) ?_
 refine s_op k_mv ?_
 refine s_op k_ex ?_
 refine s_op k_ex ?_
 refine s_op k_as ?_
 refine s_op k_as ?_
 refine s_nil (by kernel_rfl) ?_
 refine n_wp ?_
 refine w_seq ?_
 refine g_reg hP hn ?_
 refine s_op k_mv ?_
 refine s_op k_mv ?_
 refine s_on rfl rfl rfl k_mv ?_
 refine s_on rfl rfl rfl (l_bin rfl rfl (b_eql (r := true) (by decide))) ?_
 refine s_op k_pk ?_
 refine s_op k_mv ?_
 refine s_on rfl rfl rfl k_mv ?_
 refine s_on rfl rfl rfl k_mv ?_
 refine s_on rfl rfl rfl (k_call [] (con := same_ok _ _ hs (by have := (hw.get j).2.2; omega))) ?_
 refine s_op k_pk ?_
 refine s_op k_as ?_
 refine s_nil trivial ?_
 refine n_wp ?_
 refine w_ret ?_
 exact d_ret hP hn hE [] (by first | exact r_tmp Tryz.results54 | exact r_tmpa Tryz.results54)

set_option maxRecDepth 100000 in
set_option maxHeartbeats 4000000 in
theorem is_n (k : Nat) (A B : List Int) (L : List Pc) (t : Nat) (K : List Int) (hw : WfL L) (hno : ∀ k, k < L.length → decide ((L.getD k p0).1 = t) = false) (Y : List Int) (hcb : Con Tryz.prog 58 [.agg (PKT k A B (keepL (fun x => decide (t ≤ x)) L)), .s (KEYP K)] [] (.tup [.s (.fzi .u8 (Y)), .s (.int .i64 0)]) [])  : Con Tryz.prog 54 [.agg (SEAL 58 1 t [KEYP K]), .agg (PKT k A B L)] [] (.s (.bool false)) [] := by
 refine con_in 37 Tryz.func54 rfl rfl (m := 0) rfl ?_
 intro E hP hn hE
 refine w_seq ?_
 refine g_reg hP hn ?_
 refine s_op k_bxf ?_
 refine s_op k_bxf ?_
 refine s_op k_as ?_
 refine s_nil trivial ?_
 refine n_wp ?_
 refine w_seq ?_
 refine g_reg hP hn ?_
 refine s_op k_fa ?_
 refine s_op k_ld ?_
 refine s_op k_fa ?_
 refine s_op k_ld ?_
 refine s_op (k_call [] (con := find_n L t (by have := hw.len; omega) hno)) ?_
 refine s_op k_mv ?_
 refine s_op k_ex ?_
 refine s_op k_ex ?_
 refine s_op k_as ?_
 refine s_op k_as ?_
 refine s_nil trivial ?_
 refine n_wp ?_
 refine w_seq ?_
 refine g_any hP hn ?_
 refine s_op k_fa ?_
 refine s_op k_ld ?_
 refine s_op k_ld ?_
 refine s_op k_fa ?_
 refine s_op k_ld ?_
 refine s_op (k_call [] (con := below16_c k A B L t hw)) ?_
 refine s_op (k_callN [KEYP K] (con := hcb)) ?_
 refine s_op k_mv ?_
 refine s_op k_ex ?_
 refine s_op k_ex ?_
 refine s_op k_as ?_
 refine s_op k_as ?_
 refine s_nil (by kernel_rfl) ?_
 refine n_wp ?_
 refine w_seq ?_
 refine g_reg hP hn ?_
 refine s_op k_mv ?_
 refine s_op k_mv ?_
 refine s_off rfl rfl rfl ?_
 refine s_off rfl rfl rfl ?_
 refine s_op k_pk ?_
 refine s_op k_mv ?_
 refine s_off rfl rfl rfl ?_
 refine s_off rfl rfl rfl ?_
 refine s_off rfl rfl rfl ?_
 refine s_op k_pk ?_
 refine s_op k_as ?_
 refine s_nil trivial ?_
 refine n_wp ?_
 refine w_ret ?_
 exact d_ret hP hn hE [] (by first | exact r_tmp Tryz.results54 | exact r_tmpa Tryz.results54)

set_option maxRecDepth 100000 in
set_option maxHeartbeats 4000000 in
theorem hasm_c (k : Nat) (A B : List Int) (L : List Pc) (K : List Int) (hK : K.length = 32) (b : Bool) (his : Con Tryz.prog 54 [.agg (SEAL 58 1 61505 [KEYP K]), .agg (PKT k A B L)] [] (.s (.bool b)) []) : Con Tryz.prog 18 [.agg (PKT k A B L), .agg [.ints .u8 32 K]] [] (.s (.bool b)) [] := by
 refine con_in 9 Tryz.func18 rfl rfl (m := 0) rfl ?_
 intro E hP hn hE
 refine w_seq ?_
 refine g_reg hP hn ?_
 refine s_op k_bxf ?_
 refine s_op k_bxf ?_
 refine s_op k_as ?_
 refine s_nil trivial ?_
 refine n_wp ?_
 refine w_seq ?_
 refine g_any hP hn ?_
 refine s_op k_ld ?_
 refine s_op (k_call [] (con := seals_c 61505 K hK)) ?_
 refine s_op k_ld ?_
 refine s_op (k_call [] (con := his)) ?_
 refine s_op k_as ?_
 refine s_nil (by kernel_rfl) ?_
 refine n_wp ?_
 refine w_ret ?_
 exact d_ret hP hn hE [] (by first | exact r_tmp Tryz.results18 | exact r_tmpa Tryz.results18)

theorem getsig2_c (c s : Nat) (hc : c < 2 ^ 256) (hs : s < 2 ^ 256) : Con Tryz.prog 56 [.s (.fzi .u8 (be 32 c ++ be 32 s))] [] (.tup [.agg [.ints .u64 4 (zs (wd c)), .ints .u64 4 (zs (wd s))], .s (.int .i64 0)]) [] := by
 have h := getsig_c (be 32 c ++ be 32 s) (by rw [List.length_append, be_len, be_len]) (U8'_app (U8'_be _ _) (U8'_be _ _))
 rwa [(gN_2 c s hc hs).1, (gN_2 c s hc hs).2] at h

set_option maxRecDepth 100000 in
set_option maxHeartbeats 4000000 in
theorem signed_y (k : Nat) (A B : List Int) (L : List Pc) (hw : WfL L) (p q g : Nat) (hp : p < 2 ^ 256) (hq : q < 2 ^ 256) (hg : g < 2 ^ 256) (x : Nat) (hx : x < 2 ^ 256) (j : Nat) (hj : j < L.length) (hno : ∀ k, k < j → decide ((L.getD k p0).1 = 61697) = false) (hy : decide ((L.getD j p0).1 = 61697) = true) (c s : Nat) (hc2 : c < 2 ^ 256) (hs2 : s < 2 ^ 256) (hb : (L.getD j p0).2 = be 32 c ++ be 32 s) (Y : List Int) (hY0 : 0 < Y.length) (hY : Y.length ≤ 900000) (hc : Con Tryz.prog 10 [.agg (PKT k A B L)] [] (.tup [.s (.fzi .u8 (Y)), .s (.int .i64 0)]) [])  : Con Tryz.prog 19 [.agg (GRP p q g), .agg (PKT k A B L), .agg [.ints .u64 4 (zs (wd x))]] [] (.s (.bool (ckB p q g x (asB (strL signedS) [Y]) c s))) [] := by
 refine con_in 47 Tryz.func19 rfl rfl (m := 0) rfl ?_
 intro E hP hn hE
 refine w_seq ?_
 refine g_reg hP hn ?_
 refine s_op k_bxf ?_
 refine s_op k_bxf ?_
 refine s_op k_bxf ?_
 refine s_op k_as ?_
 refine s_nil trivial ?_
 refine n_wp ?_
 refine w_seq ?_
 refine g_reg hP hn ?_
 refine s_op k_fa ?_
 refine s_op k_ld ?_
 refine s_op (k_call [] (con := find_y L 61697 (by have := hw.len; omega) j hj hno hy (by have := (hw.get j).2.2; omega))) ?_
 refine s_op k_mv ?_
 refine s_op k_ex ?_
 refine s_op k_ex ?_
 refine s_op k_as ?_
 refine s_op k_as ?_
 refine s_nil trivial ?_
 refine n_wp ?_
 refine w_seq ?_
 rw [hb]
 refine g_reg hP hn ?_
 refine s_op k_mv ?_
 refine s_op (k_call [] (con := getsig2_c c s hc2 hs2)) ?_
 refine s_op k_mv ?_
 refine s_op k_ex ?_
 refine s_op k_ex ?_
 refine s_op k_al ?_
 refine s_st k_st ?_
 refine s_op k_as ?_
 refine s_nil trivial ?_
 refine n_wp ?_
 refine w_seq ?_
 refine g_reg hP hn ?_
 refine s_op k_ld ?_
 refine s_op (k_call [] (con := hc)) ?_
 refine s_op k_mv ?_
 refine s_op k_ex ?_
 refine s_op k_ex ?_
 refine s_op k_as ?_
 refine s_op k_as ?_
 refine s_nil trivial ?_
 refine n_wp ?_
 refine w_seq ?_
 refine g_any hP hn ?_
 refine s_op k_mv ?_
 refine s_op k_mv ?_
 refine s_on rfl rfl rfl k_mv ?_
 refine s_on rfl rfl rfl (l_bin rfl rfl (b_eql (r := true) (by decide))) ?_
 refine s_op k_pk ?_
 refine s_op k_mv ?_
 refine s_on rfl rfl rfl k_mv ?_
 refine s_on rfl rfl rfl (l_bin rfl rfl (b_eql (r := true) (by decide))) ?_
 refine s_op k_pk ?_
 refine s_op k_mv ?_
 refine s_on rfl rfl rfl k_ld ?_
 refine s_on rfl rfl rfl k_ld ?_
 refine s_on rfl rfl rfl k_mv ?_
 refine s_on rfl rfl rfl (k_bsz [.fzi .u8 Y]) ?_
 refine s_on rfl rfl rfl (k_call [] (con := as1_c Y hY0 hY)) ?_
 refine s_on rfl rfl rfl k_ld ?_
 refine s_on rfl rfl rfl (k_call [] (con := check_n p q g hp hq hg x (asB (strL signedS) [Y]) c s hx (as1_len Y) hc2 hs2)) ?_
 refine s_op k_pk ?_
 refine s_op k_as ?_
 refine s_nil (by kernel_rfl) ?_
 refine n_wp ?_
 refine w_ret ?_
 exact d_ret hP hn hE [] (by first | exact r_tmp Tryz.results19 | exact r_tmpa Tryz.results19)

end Go.Proofs.X
end

section
/- Lists of pieces: one put behind, one put in, what is covered then. No program. -/
open Go Go.Bx
namespace Go.Proofs.X
theorem ins_last (L : List Pc) (p : Pc) : insL L L.length p = L ++ [p] := by unfold insL; rw [List.take_length, List.drop_length]
theorem getD_snoc (L : List Pc) (p : Pc) (i : Nat) : (L ++ [p]).getD i p0 = if i < L.length then L.getD i p0 else if i = L.length then p else p0 := by
  rw [List.getD_eq_getElem?_getD, List.getD_eq_getElem?_getD]
  by_cases h : i < L.length
  · rw [if_pos h, List.getElem?_append_left h]
  · rw [if_neg h, List.getElem?_append_right (by omega)]
    by_cases h2 : i = L.length
    · subst h2; simp
    · rw [if_neg h2]
      obtain ⟨q, hq⟩ : ∃ q, i - L.length = q + 1 := ⟨i - L.length - 1, by omega⟩
      rw [hq]; rfl
/-- Rising types rise all along. -/
theorem up_lt {L : List Pc} (h : ∀ i, i < L.length → lastT L i < (L.getD i p0).1) : ∀ m k, k < m → m < L.length → (L.getD k p0).1 < (L.getD m p0).1
  | 0, k, hk, _ => absurd hk (Nat.not_lt_zero k)
  | m + 1, k, hk, hm => by
    have h1 : (L.getD m p0).1 < (L.getD (m + 1) p0).1 := h (m + 1) hm
    rcases Nat.lt_succ_iff_lt_or_eq.1 hk with h2 | rfl
    · exact Nat.lt_trans (up_lt h m k h2 (by omega)) h1
    · exact h1
/-- Where a type stands, or would. -/
theorem place {L : List Pc} (h : ∀ i, i < L.length → lastT L i < (L.getD i p0).1) (t : Nat) : ∃ i0, i0 ≤ L.length ∧ (∀ k, k < i0 → (L.getD k p0).1 < t) ∧ ∀ k, i0 ≤ k → k < L.length → t ≤ (L.getD k p0).1 := by
  rcases first_or (fun x => decide (t ≤ x)) L with ⟨j, h1, h2, h3, _⟩ | ⟨h1, _⟩
  · refine ⟨j, by omega, fun k hk => ?_, fun k h4 h5 => ?_⟩
    · have := h2 k hk
      simp only [decide_eq_false_iff_not] at this
      omega
    · have h3' := of_decide_eq_true h3
      rcases Nat.lt_or_ge j k with h6 | h6
      · exact Nat.le_trans h3' (Nat.le_of_lt (up_lt h k j h6 h5))
      · have : j = k := by omega
        subst this; exact h3'
  · refine ⟨L.length, Nat.le_refl _, fun k hk => ?_, fun k h2 h3 => by omega⟩
    have := h1 k hk
    simp only [decide_eq_false_iff_not] at this
    omega
theorem WfL.snoc {L : List Pc} (h : WfL L) (hl : L.length ≤ 1000) {p : Pc} (hp : p.1 < 65536 ∧ U8' p.2 ∧ p.2.length ≤ 900000) : WfL (L ++ [p]) := by
  rw [← ins_last]; exact h.ins hl _ hp
theorem encL_app (L M : List Pc) : encL (L ++ M) = encL L ++ encL M := by simp [encL]
theorem encL_cons (p : Pc) (L : List Pc) : encL (p :: L) = encP p ++ encL L := by simp [encL]
theorem encL_strip : ∀ L : List Pc, (encL (L.map strip)).length = (encL L).length
  | [] => rfl
  | p :: r => by rw [List.map_cons, encL_cons, encL_cons, List.length_append, List.length_append, encL_strip r, encP_len, encP_len, strip_len]
theorem encL_sgK (k : Nat) (L : List Pc) : (encL (sgK k L)).length = (encL (sgL L)).length := by
  unfold sgK; split
  · exact encL_strip _
  · rfl
theorem sgL_app (L M : List Pc) : sgL (L ++ M) = sgL L ++ sgL M := by simp [sgL, keepL]
theorem sgL_cons_y (p : Pc) (L : List Pc) (h : p.1 < 61697) : sgL (p :: L) = p :: sgL L := by
  unfold sgL keepL; rw [List.filter_cons_of_pos (by simp; omega)]
theorem sgL_cons_n (p : Pc) (L : List Pc) (h : 61697 ≤ p.1) : sgL (p :: L) = sgL L := by
  unfold sgL keepL; rw [List.filter_cons_of_neg (by simp; omega)]
theorem sgL_snoc_n (p : Pc) (L : List Pc) (h : 61697 ≤ p.1) : sgL (L ++ [p]) = sgL L := by
  rw [sgL_app, sgL_cons_n p [] h]; exact List.append_nil _
theorem sgL_ins_n (L : List Pc) (i : Nat) (p : Pc) (h : 61697 ≤ p.1) : sgL (insL L i p) = sgL L := by
  unfold insL
  rw [sgL_app, sgL_cons_n p _ h, ← sgL_app, List.take_append_drop]
theorem sgL_ins_y (L : List Pc) (i : Nat) (p : Pc) (h : p.1 < 61697) : (encL (sgL (insL L i p))).length = (encL (sgL L)).length + up8 (4 + p.2.length) := by
  have e : sgL L = sgL (L.take i) ++ sgL (L.drop i) := by rw [← sgL_app, List.take_append_drop]
  unfold insL
  rw [sgL_app, sgL_cons_y p _ h, e, encL_app, encL_app, encL_cons]
  simp only [List.length_append, encP_len]
  omega
theorem sgL_all {L : List Pc} (h : ∀ i, i < L.length → decide (61697 ≤ (L.getD i p0).1) = false) : sgL L = L := keep_none h
theorem lastT_map (L : List Pc) : ∀ i, i ≤ L.length → lastT (L.map strip) i = lastT L i
  | 0, _ => rfl
  | i + 1, h => by
    show ((L.map strip).getD i p0).1 = (L.getD i p0).1
    rw [List.getD_eq_getElem?_getD, List.getD_eq_getElem?_getD, List.getElem?_map, List.getElem?_eq_getElem (by omega)]
    exact strip_ty _
theorem getD_strip (L : List Pc) (i : Nat) (h : i < L.length) : ((L.map strip).getD i p0).1 = (L.getD i p0).1 := by
  rw [List.getD_eq_getElem?_getD, List.getD_eq_getElem?_getD, List.getElem?_map, List.getElem?_eq_getElem h]
  exact strip_ty _
/-- What may be signed of a packet without signatures rises, and is not too much. -/
theorem ok_sgK {k : Nat} {L : List Pc} (h : okP k (sgK k L)) (ha : sgL L = L) : (∀ i, i < L.length → lastT L i < (L.getD i p0).1) ∧ L.length ≤ 16 := by
  have hu := h.up
  have hn := h.n
  unfold sgK at hu hn
  rw [ha] at hu hn
  split at hu
  · rename_i h2
    rw [if_pos h2, List.length_map] at hn
    refine ⟨fun i hi => ?_, hn⟩
    have := hu i (by simpa using hi)
    rwa [lastT_map L i (by omega), getD_strip L i hi] at this
  · rename_i h2
    rw [if_neg h2] at hn
    exact ⟨hu, hn⟩
/-- Bytes that are covered differ if a piece more is. -/
theorem pkB_ne {k : Nat} {A B X Z : List Int} (hA : A.length = 16) (hB : B.length = 16) (h : X.length ≠ Z.length) : pkB k A B X ≠ pkB k A B Z := fun e => by
  have := congrArg List.length e
  rw [pkB_len hA hB, pkB_len hA hB] at this
  omega
theorem sgT_len {k : Nat} {B : List Int} (h : B.length = 16) : (sgT k B).length = 16 := by
  unfold sgT; split
  · simp [zs]
  · exact h
end Go.Proofs.X
end

section
open Go Go.Bx Go.Proofs
namespace Go.Proofs.X
def macPc (k : Nat) (A B : List Int) (L : List Pc) (K : List Int) : Pc := (61505, macS K (pkB k A B (encL L)))
def sgC (p q g a : Nat) (Y : List Int) : Nat := sg0 q (expP p g a) (expP p g (drP q a (asB (strL signedS) [Y]))) (asB (strL signedS) [Y])
def sgS (p q g a : Nat) (Y : List Int) : Nat := (drP q a (asB (strL signedS) [Y]) + a * sgC p q g a Y % q) % q
def sgPc (k : Nat) (A B : List Int) (L : List Pc) (p q g a : Nat) : Pc := (61697, be 32 (sgC p q g a (pkB k A (sgT k B) (encL (sgK k L)))) ++ be 32 (sgS p q g a (pkB k A (sgT k B) (encL (sgK k L)))))
theorem macPc_wf (k : Nat) (A B : List Int) (L : List Pc) (K : List Int) : (macPc k A B L K).1 < 65536 ∧ U8' (macPc k A B L K).2 ∧ (macPc k A B L K).2.length ≤ 900000 := ⟨(by decide : 61505 < 65536), U8'_sumL _ _, by show (macS _ _).length ≤ _; rw [macS_len]; decide⟩
theorem sgPc_wf (k : Nat) (A B : List Int) (L : List Pc) (p q g a : Nat) : (sgPc k A B L p q g a).1 < 65536 ∧ U8' (sgPc k A B L p q g a).2 ∧ (sgPc k A B L p q g a).2.length ≤ 900000 := ⟨(by decide : 61697 < 65536), U8'_app (U8'_be _ _) (U8'_be _ _), by show (be 32 _ ++ be 32 _).length ≤ _; rw [List.length_append, be_len, be_len]; decide⟩
theorem pkn_app (k : Nat) (A B : List Int) (L : List Pc) (p : Pc) : PKN k A B (L.length + 1) (kpF (insL L L.length p)) = PKT k A B (L ++ [p]) := by
 rw [ins_last]
 show _ = [Seg.one _, Seg.ints .u8 16 A, Seg.ints .u8 16 B, .one (.fz (L ++ [p]).length 2 (gP (kpF (L ++ [p]))))]
 rw [List.length_append]; rfl
theorem pkn_ins (k : Nat) (A B : List Int) (L : List Pc) (i : Nat) (hi : i ≤ L.length) (p : Pc) : PKN k A B (L.length + 1) (kpF (insL L i p)) = PKT k A B (insL L i p) := by
 show _ = [Seg.one _, Seg.ints .u8 16 A, Seg.ints .u8 16 B, .one (.fz (insL L i p).length 2 (gP (kpF (insL L i p))))]
 rw [insL_len hi]
theorem with_tot (L : List Pc) (hw : WfL L) (p : Pc) (hp : p.1 < 65536 ∧ U8' p.2 ∧ p.2.length ≤ 900000) : (∃ e : Int, e ≠ 0 ∧ Con Tryz.prog 9 [.s (PARS L), .agg (PR p)] [] (.tup [.s .nils, .s (.int .i64 e)]) []) ∨ ∃ i0, i0 ≤ L.length ∧ L.length < 16 ∧ Con Tryz.prog 9 [.s (PARS L), .agg (PR p)] [] (.tup [.s (.fz (L.length + 1) 2 (gP (kpF (insL L i0 p)))), .s (.int .i64 0)]) [] := by
 have hLb : L.length ≤ 800000 := by have := hw.len; omega
 have hty := fun k => (hw.get k).1
 by_cases hall : ∀ i, i < L.length → lastT L i < (L.getD i p0).1
 · by_cases h0 : p.1 = 0
   · exact .inl ⟨1, by decide, with_arg0 L p hLb hall h0⟩
   · obtain ⟨i0, hi0, hlo, hhi⟩ := place hall p.1
     by_cases hin : i0 < L.length ∧ (L.getD i0 p0).1 = p.1
     · exact .inl ⟨8, by decide, with_there L p hLb hall h0 hp.1 hty i0 hi0 hlo hhi hin.1 hin.2⟩
     · have hno : i0 < L.length → ¬ (L.getD i0 p0).1 = p.1 := fun h1 h2 => hin ⟨h1, h2⟩
       by_cases hl : 16 ≤ L.length
       · exact .inl ⟨3, by decide, with_lim L p hLb hall h0 hp.1 hty i0 hi0 hlo hhi hno hl⟩
       · exact .inr ⟨i0, hi0, by omega, with_y L p hLb hall h0 hp.1 hty i0 hi0 hlo hhi hno (fun i _ => by have := (hw.get i).2.2; omega) (by have := hp.2.2; omega) hl⟩
 · obtain ⟨j, hj⟩ := Classical.not_forall.1 hall
   obtain ⟨hj1, hj2⟩ := Classical.not_imp.1 hj
   exact .inl ⟨1, by decide, with_arg L p hLb j hj1 hj2⟩
theorem with_end (L : List Pc) (hw : WfL L) (p : Pc) (hp : p.1 < 65536 ∧ U8' p.2 ∧ p.2.length ≤ 900000) (hall : ∀ i, i < L.length → lastT L i < (L.getD i p0).1) (h0 : p.1 ≠ 0) (hlo : ∀ k, k < L.length → (L.getD k p0).1 < p.1) (hl : ¬ 16 ≤ L.length) : Con Tryz.prog 9 [.s (PARS L), .agg (PR p)] [] (.tup [.s (.fz (L.length + 1) 2 (gP (kpF (insL L L.length p)))), .s (.int .i64 0)]) [] :=
 with_y L p (by have := hw.len; omega) hall h0 hp.1 (fun k => (hw.get k).1) L.length (Nat.le_refl _) hlo (fun k h1 h2 => by omega) (fun h => absurd h (Nat.lt_irrefl _)) (fun i _ => by have := (hw.get i).2.2; omega) (by have := hp.2.2; omega) hl
theorem with_full (L : List Pc) (hw : WfL L) (p : Pc) (hp : p.1 < 65536 ∧ U8' p.2 ∧ p.2.length ≤ 900000) (hall : ∀ i, i < L.length → lastT L i < (L.getD i p0).1) (h0 : p.1 ≠ 0) (hlo : ∀ k, k < L.length → (L.getD k p0).1 < p.1) (hl : 16 ≤ L.length) : Con Tryz.prog 9 [.s (PARS L), .agg (PR p)] [] (.tup [.s .nils, .s (.int .i64 3)]) [] :=
 with_lim L p (by have := hw.len; omega) hall h0 hp.1 (fun k => (hw.get k).1) L.length (Nat.le_refl _) hlo (fun k h1 h2 => by omega) (fun h => absurd h (Nat.lt_irrefl _)) hl
/-- A sum is put: when. -/
structure MacOK (k : Nat) (A B : List Int) (L : List Pc) (K : List Int) : Prop where
 up : ∀ i, i < L.length → decide (61505 ≤ (L.getD i p0).1) = false
 ok : okP k L
 n : L.length < 16
 ok2 : okP k (L ++ [macPc k A B L K])
theorem mac_there (k : Nat) (A B : List Int) (L : List Pc) (hw : WfL L) (K : List Int) (hK : K.length = 32) (j : Nat) (hj : j < L.length) (h : 61505 ≤ (L.getD j p0).1) : Con Tryz.prog 7 [.agg (PKT k A B (L)), .agg [.ints .u8 32 K]] [] (.tup [.agg ZPK, .s (.int .i64 8)]) [] := by
 rcases first_or (fun x => decide (61505 ≤ x)) L with ⟨i, h1, h2, h3, _⟩ | ⟨h1, _⟩
 · exact mac_e k A B L K hK 8 (ons_there k A B L 61505 K hK (by have := hw.len; omega) i h1 h2 h3)
 · have := h1 j hj
   simp only [decide_eq_false_iff_not] at this
   exact absurd h this
theorem mac_ok (k : Nat) (A B : List Int) (L : List Pc) (K : List Int) (hK : K.length = 32) (hw : WfL L) (hk : k < 256) (hA : A.length = 16) (hB : B.length = 16) (hUA : U8' A) (hUB : U8' B) (h : MacOK k A B L K) : Con Tryz.prog 7 [.agg (PKT k A B (L)), .agg [.ints .u8 32 K]] [] (.tup [.agg (PKT k A B (L ++ [macPc k A B L K])), .s (.int .i64 0)]) [] := by
 have hLb : L.length ≤ 800000 := by have := hw.len; omega
 have hcp := kput_ok k A B L hw h.ok hk hA hB hUA hUB
 have hpl := pkB_len (k := k) (E := encL L) hA hB
 have hn := h.n
 have hcb := sum1_y k A B L K hK (pkB k A B (encL L)) (by have := h.ok.tot; omega) hcp
 have hlo : ∀ i, i < L.length → (L.getD i p0).1 < (macPc k A B L K).1 := fun i hi => by
   have := h.up i hi
   simp only [decide_eq_false_iff_not] at this
   show _ < 61505
   omega
 have hcw := with_end L hw (macPc k A B L K) (macPc_wf k A B L K) h.ok.up (by show (61505 : Nat) ≠ 0; decide) hlo (by omega)
 have hcp2 := kput_ok k A B (L ++ [macPc k A B L K]) (hw.snoc (by omega) (macPc_wf k A B L K)) h.ok2 hk hA hB hUA hUB
 rw [← pkn_app] at hcp2
 have h := mac_y k A B L K hK (L.length + 1) (kpF (insL L L.length (macPc k A B L K))) (ons_y k A B L 61505 K hK hLb h.up _ hcb _ hcw _ hcp2)
 rw [pkn_app] at h
 exact h
theorem mac_tot (k : Nat) (A B : List Int) (L : List Pc) (K : List Int) (hK : K.length = 32) (hw : WfL L) (hk : k < 256) (hA : A.length = 16) (hB : B.length = 16) (hUA : U8' A) (hUB : U8' B) : (MacOK k A B L K ∧ Con Tryz.prog 7 [.agg (PKT k A B (L)), .agg [.ints .u8 32 K]] [] (.tup [.agg (PKT k A B (L ++ [macPc k A B L K])), .s (.int .i64 0)]) []) ∨ ∃ e : Int, e ≠ 0 ∧ Con Tryz.prog 7 [.agg (PKT k A B (L)), .agg [.ints .u8 32 K]] [] (.tup [.agg ZPK, .s (.int .i64 e)]) [] := by
 have hLb : L.length ≤ 800000 := by have := hw.len; omega
 rcases first_or (fun x => decide (61505 ≤ x)) L with ⟨i, h1, h2, h3, _⟩ | ⟨hup, _⟩
 · exact .inr ⟨8, by decide, mac_e k A B L K hK 8 (ons_there k A B L 61505 K hK hLb i h1 h2 h3)⟩
 by_cases ok : okP k L
 · have hcp := kput_ok k A B L hw ok hk hA hB hUA hUB
   have hpl := pkB_len (k := k) (E := encL L) hA hB
   have hcb := sum1_y k A B L K hK (pkB k A B (encL L)) (by have := ok.tot; omega) hcp
   have hlo : ∀ k, k < L.length → (L.getD k p0).1 < (macPc ‹Nat› A B L K).1 := fun i hi => by
     have := hup i hi
     simp only [decide_eq_false_iff_not] at this
     show _ < 61505
     omega
   by_cases hl : 16 ≤ L.length
   · exact .inr ⟨3, by decide, mac_e k A B L K hK 3 (ons_w k A B L 61505 K hK hLb hup _ hcb 3 (by decide) (with_full L hw (macPc k A B L K) (macPc_wf k A B L K) ok.up (by show (61505 : Nat) ≠ 0; decide) hlo hl))⟩
   · have hcw := with_end L hw (macPc k A B L K) (macPc_wf k A B L K) ok.up (by show (61505 : Nat) ≠ 0; decide) hlo hl
     have hw2 : WfL (L ++ [macPc k A B L K]) := hw.snoc (by omega) (macPc_wf k A B L K)
     by_cases ok2 : okP k (L ++ [macPc k A B L K])
     · have hcp2 := kput_ok k A B (L ++ [macPc k A B L K]) hw2 ok2 hk hA hB hUA hUB
       rw [← pkn_app] at hcp2
       have h := mac_y k A B L K hK (L.length + 1) (kpF (insL L L.length (macPc k A B L K))) (ons_y k A B L 61505 K hK hLb hup _ hcb _ hcw _ hcp2)
       rw [pkn_app] at h
       exact .inl ⟨⟨hup, ok, by omega, ok2⟩, h⟩
     · obtain ⟨e, he, hcp2⟩ := kput_no k A B (L ++ [macPc k A B L K]) hw2 ok2
       rw [← pkn_app] at hcp2
       exact .inr ⟨e, he, mac_e k A B L K hK e (ons_p k A B L 61505 K hK hLb hup _ hcb _ hcw e he hcp2)⟩
 · obtain ⟨e, he, hcp⟩ := kput_no k A B L hw ok
   exact .inr ⟨e, he, mac_e k A B L K hK e (ons_b k A B L 61505 K hK hLb hup _ e he (sum1_e k A B L K hK e hcp))⟩
/-- A signature is put: when. -/
structure SgnOK (k : Nat) (A B : List Int) (L : List Pc) (p q g a : Nat) : Prop where
 up : ∀ i, i < L.length → decide (61697 ≤ (L.getD i p0).1) = false
 ok : okP k (sgK k L)
 sec : secP p q g a = true
 n : L.length < 16
 ok2 : okP k (L ++ [sgPc k A B L p q g a])
theorem sgn_there (k : Nat) (A B : List Int) (L : List Pc) (hw : WfL L) (p q g a : Nat) (j : Nat) (hj : j < L.length) (h : 61697 ≤ (L.getD j p0).1) : Con Tryz.prog 8 [.agg (GRP p q g), .agg (PKT k A B (L)), .agg [.ints .u64 4 (zs (wd a))]] [] (.tup [.agg ZPK, .s (.int .i64 8)]) [] := by
 rcases first_or (fun x => decide (61697 ≤ x)) L with ⟨i, h1, h2, h3, _⟩ | ⟨h1, _⟩
 · exact sgn_e k A B L p q g a 8 (ong_there k A B L 61697 p q g a (by have := hw.len; omega) i h1 h2 h3)
 · have := h1 j hj
   simp only [decide_eq_false_iff_not] at this
   exact absurd h this
theorem sgn_ok (k : Nat) (A B : List Int) (L : List Pc) (p q g : Nat) (hp : p < 2 ^ 256) (hq : q < 2 ^ 256) (hg : g < 2 ^ 256) (a : Nat) (ha : a < 2 ^ 256) (hw : WfL L) (hk : k < 256) (hA : A.length = 16) (hB : B.length = 16) (hUA : U8' A) (hUB : U8' B) (h : SgnOK k A B L p q g a) : Con Tryz.prog 8 [.agg (GRP p q g), .agg (PKT k A B (L)), .agg [.ints .u64 4 (zs (wd a))]] [] (.tup [.agg (PKT k A B (L ++ [sgPc k A B L p q g a])), .s (.int .i64 0)]) [] := by
 have hLb : L.length ≤ 800000 := by have := hw.len; omega
 have hc := cont_ok k A B L hw h.ok hk hA hB hUA hUB
 obtain ⟨hall, h16⟩ := ok_sgK h.ok (sgL_all h.up)
 have hpl := pkB_len (k := k) (E := encL (sgK k L)) hA (sgT_len (k := k) hB)
 have htot := h.ok.tot
 have hn := h.n
 have hsec2 := h.sec
 simp only [secP, Bool.and_eq_true, Bool.not_eq_true', decide_eq_true_eq, decide_eq_false_iff_not] at hsec2
 obtain ⟨hf, h0, haq⟩ := hsec2
 have hcb := sign1_y k A B L p q g hp hq hg a ha (pkB k A (sgT k B) (encL (sgK k L))) (by omega) (by omega) hc hf h0 haq
 have hlo : ∀ i, i < L.length → (L.getD i p0).1 < (sgPc k A B L p q g a).1 := fun i hi => by
   have := h.up i hi
   simp only [decide_eq_false_iff_not] at this
   show _ < 61697
   omega
 have hcw := with_end L hw (sgPc k A B L p q g a) (sgPc_wf k A B L p q g a) hall (by show (61697 : Nat) ≠ 0; decide) hlo (by omega)
 have hcp2 := kput_ok k A B (L ++ [sgPc k A B L p q g a]) (hw.snoc (by omega) (sgPc_wf k A B L p q g a)) h.ok2 hk hA hB hUA hUB
 rw [← pkn_app] at hcp2
 have h := sgn_y k A B L p q g a (L.length + 1) (kpF (insL L L.length (sgPc k A B L p q g a))) (ong_y k A B L 61697 p q g a hLb h.up _ hcb _ hcw _ hcp2)
 rw [pkn_app] at h
 exact h
theorem sgn_tot (k : Nat) (A B : List Int) (L : List Pc) (p q g : Nat) (hp : p < 2 ^ 256) (hq : q < 2 ^ 256) (hg : g < 2 ^ 256) (a : Nat) (ha : a < 2 ^ 256) (hw : WfL L) (hk : k < 256) (hA : A.length = 16) (hB : B.length = 16) (hUA : U8' A) (hUB : U8' B) : (SgnOK k A B L p q g a ∧ Con Tryz.prog 8 [.agg (GRP p q g), .agg (PKT k A B (L)), .agg [.ints .u64 4 (zs (wd a))]] [] (.tup [.agg (PKT k A B (L ++ [sgPc k A B L p q g a])), .s (.int .i64 0)]) []) ∨ ∃ e : Int, e ≠ 0 ∧ Con Tryz.prog 8 [.agg (GRP p q g), .agg (PKT k A B (L)), .agg [.ints .u64 4 (zs (wd a))]] [] (.tup [.agg ZPK, .s (.int .i64 e)]) [] := by
 have hLb : L.length ≤ 800000 := by have := hw.len; omega
 rcases first_or (fun x => decide (61697 ≤ x)) L with ⟨i, h1, h2, h3, _⟩ | ⟨hup, _⟩
 · exact .inr ⟨8, by decide, sgn_e k A B L p q g a 8 (ong_there k A B L 61697 p q g a hLb i h1 h2 h3)⟩
 have hsl := sgL_all hup
 by_cases ok : okP k (sgK k L)
 · have hc := cont_ok k A B L hw ok hk hA hB hUA hUB
   obtain ⟨hall, h16⟩ := ok_sgK ok hsl
   have hpl := pkB_len (k := k) (E := encL (sgK k L)) hA (sgT_len (k := k) hB)
   have htot := ok.tot
   cases hsec : secP p q g a with
   | false => exact .inr ⟨1, by decide, sgn_e k A B L p q g a 1 (ong_b k A B L 61697 p q g a hLb hup _ 1 (by decide) (sign1_s k A B L p q g hp hq hg a ha _ (by omega) (by omega) hc hsec))⟩
   | true =>
     have hsec2 := hsec
     simp only [secP, Bool.and_eq_true, Bool.not_eq_true', decide_eq_true_eq, decide_eq_false_iff_not] at hsec2
     obtain ⟨hf, h0, haq⟩ := hsec2
     have hcb := sign1_y k A B L p q g hp hq hg a ha (pkB k A (sgT k B) (encL (sgK k L))) (by omega) (by omega) hc hf h0 haq
     have hlo : ∀ i, i < L.length → (L.getD i p0).1 < (sgPc k A B L p q g a).1 := fun i hi => by
       have := hup i hi
       simp only [decide_eq_false_iff_not] at this
       show _ < 61697
       omega
     by_cases hl : 16 ≤ L.length
     · exact .inr ⟨3, by decide, sgn_e k A B L p q g a 3 (ong_w k A B L 61697 p q g a hLb hup _ hcb 3 (by decide) (with_full L hw (sgPc k A B L p q g a) (sgPc_wf k A B L p q g a) hall (by show (61697 : Nat) ≠ 0; decide) hlo hl))⟩
     · have hcw := with_end L hw (sgPc k A B L p q g a) (sgPc_wf k A B L p q g a) hall (by show (61697 : Nat) ≠ 0; decide) hlo hl
       have hw2 : WfL (L ++ [sgPc k A B L p q g a]) := hw.snoc (by omega) (sgPc_wf k A B L p q g a)
       by_cases ok2 : okP k (L ++ [sgPc k A B L p q g a])
       · have hcp2 := kput_ok k A B (L ++ [sgPc k A B L p q g a]) hw2 ok2 hk hA hB hUA hUB
         rw [← pkn_app] at hcp2
         have h := sgn_y k A B L p q g a (L.length + 1) (kpF (insL L L.length (sgPc k A B L p q g a))) (ong_y k A B L 61697 p q g a hLb hup _ hcb _ hcw _ hcp2)
         rw [pkn_app] at h
         exact .inl ⟨⟨hup, ok, hsec, by omega, ok2⟩, h⟩
       · obtain ⟨e, he, hcp2⟩ := kput_no k A B (L ++ [sgPc k A B L p q g a]) hw2 ok2
         rw [← pkn_app] at hcp2
         exact .inr ⟨e, he, sgn_e k A B L p q g a e (ong_p k A B L 61697 p q g a hLb hup _ hcb _ hcw e he hcp2)⟩
 · obtain ⟨e, he, hc⟩ := cont_no k A B L hw ok hA
   exact .inr ⟨e, he, sgn_e k A B L p q g a e (ong_bn k A B L 61697 p q g a hLb hup e he (sign1_e k A B L p q g a e he hc))⟩

end Go.Proofs.X
end

section
/- Types and functions of a law of covers, as instances. -/
open Go Go.Bx Go.Proofs
namespace Go.Proofs.X
instance : Clb Tryz.prog 6 := ⟨_, Tryz.func6, by kernel_rfl, rfl⟩
instance : Clb Tryz.prog 16 := ⟨_, Tryz.func16, by kernel_rfl, rfl⟩
instance : Clb Tryz.prog 3 := ⟨_, Tryz.func3, by kernel_rfl, rfl⟩
instance : Und Tryz.prog 36 (.struct #[{ name := "G", type := 32, offset := 0, embedded := false, tag := "", pkgPath := "", byteOffset := 0 }, { name := "Secret", type := 30, offset := 12, embedded := false, tag := "", pkgPath := "", byteOffset := 96 }, { name := "By", type := 34, offset := 16, embedded := false, tag := "", pkgPath := "", byteOffset := 128 }, { name := "Key", type := 30, offset := 48, embedded := false, tag := "", pkgPath := "", byteOffset := 160 }]) := ⟨Tryz.underlying36⟩
instance : Sz Tryz.prog 36 52 := ⟨Tryz.sizeOf36⟩
instance : Ag Tryz.prog 36 true := ⟨Tryz.isAgg36⟩
instance : Zv Tryz.prog 36 [.ints .u64 4 (zs (List.replicate 4 0)), .ints .u64 4 (zs (List.replicate 4 0)), .ints .u64 4 (zs (List.replicate 4 0)), .ints .u64 4 (zs (List.replicate 4 0)), .ints .u8 32 (zs (List.replicate 32 0)), .ints .u64 4 (zs (List.replicate 4 0))] := ⟨_, Tryz.zeroValue36, by kernel_rfl⟩
instance : FldC Tryz.prog 36 0 0 := ⟨_, _, _, Tryz.underlying36, rfl, Tryz.sizeOf32, by decide, rfl⟩
instance : FldC Tryz.prog 36 1 12 := ⟨_, _, _, Tryz.underlying36, rfl, Tryz.sizeOf30, by decide, rfl⟩
instance : FldC Tryz.prog 36 2 16 := ⟨_, _, _, Tryz.underlying36, rfl, Tryz.sizeOf34, by decide, rfl⟩
instance : FldC Tryz.prog 36 3 48 := ⟨_, _, _, Tryz.underlying36, rfl, Tryz.sizeOf30, by decide, rfl⟩
instance : Pl Tryz.prog 36 #[(0, 12), (12, 4), (16, 32), (48, 4)] := ⟨_, Tryz.underlying36, fun w => by kernel_rfl⟩
instance : Inf Tryz.prog 36 Tryz.t36 := ⟨by kernel_rfl⟩
instance : Und Tryz.prog 42 (.struct #[{ name := "To", type := 24, offset := 0, embedded := false, tag := "", pkgPath := "", byteOffset := 0 }, { name := "I", type := 34, offset := 16, embedded := false, tag := "", pkgPath := "", byteOffset := 16 }, { name := "Piece", type := 40, offset := 48, embedded := false, tag := "", pkgPath := "", byteOffset := 48 }]) := ⟨Tryz.underlying42⟩
instance : Sz Tryz.prog 42 50 := ⟨Tryz.sizeOf42⟩
instance : Ag Tryz.prog 42 true := ⟨Tryz.isAgg42⟩
instance : Zv Tryz.prog 42 [.ints .u8 16 (zs (List.replicate 16 0)), .ints .u8 32 (zs (List.replicate 32 0)), .one (.int .u16 0), .one .nils] := ⟨_, Tryz.zeroValue42, by kernel_rfl⟩
instance : FldC Tryz.prog 42 0 0 := ⟨_, _, _, Tryz.underlying42, rfl, Tryz.sizeOf24, by decide, rfl⟩
instance : FldC Tryz.prog 42 1 16 := ⟨_, _, _, Tryz.underlying42, rfl, Tryz.sizeOf34, by decide, rfl⟩
instance : FldC Tryz.prog 42 2 48 := ⟨_, _, _, Tryz.underlying42, rfl, Tryz.sizeOf40, by decide, rfl⟩
instance : Pl Tryz.prog 42 #[(0, 16), (16, 32), (48, 2)] := ⟨_, Tryz.underlying42, fun w => by kernel_rfl⟩
instance : Inf Tryz.prog 42 Tryz.t42 := ⟨by kernel_rfl⟩
end Go.Proofs.X
end

section
open Go Go.Bx Go.Proofs
namespace Go.Proofs.X
attribute [local irreducible] be gN ckS encL chk pk0 pkB macS wd sg0 drP asB expP szA secP fineP inP mayP
set_option maxRecDepth 100000 in
set_option maxHeartbeats 4000000 in
theorem group_c  : Con Tryz.prog 16 [] [] (.agg [.ints .u64 4 [23, 0, 0, 0], .ints .u64 4 [11, 0, 0, 0], .ints .u64 4 [4, 0, 0, 0]]) [] := by
 refine con_in 5 Tryz.func16 rfl rfl (m := 0) rfl ?_
 intro E hP hn hE
 refine w_seq ?_
 refine g_reg hP hn ?_
 refine s_op k_al ?_
 refine s_nil trivial ?_
 refine n_wp ?_
 refine w_seq ?_
 refine g_reg hP hn ?_
 refine s_op k_bd ?_
 refine s_op k_bd ?_
 refine s_op k_bd ?_
 refine s_op k_bd ?_
 refine s_st k_st ?_
 refine s_nil trivial ?_
 refine n_wp ?_
 refine w_ret ?_
 exact d_ret hP hn hE [] (r_cell Tryz.results16)

set_option maxRecDepth 100000 in
set_option maxHeartbeats 4000000 in
theorem alive_w (M W : List Int) (KL : List Int) (hm : Con Tryz.prog 7 [.agg [.one (.int .u8 1), .ints .u8 16 (zs (List.replicate 16 0)), .ints .u8 16 (zs (List.replicate 16 0)), .one (.fz 0 2 (gP (kpF [])))], .agg [.ints .u8 32 [5, 0, 0, 0, 0, 0, 0, 0, 0, 0, 0, 0, 0, 0, 0, 0, 0, 0, 0, 0, 0, 0, 0, 0, 0, 0, 0, 0, 0, 0, 0, 0]]] [] (.tup [.agg [.one (.int .u8 1), .ints .u8 16 (zs (List.replicate 16 0)), .ints .u8 16 (zs (List.replicate 16 0)), .one (.fz 1 2 (gP (kpF [(61505, M)])))], .s (.int .i64 0)]) []) (hm2 : Con Tryz.prog 7 [.agg [.one (.int .u8 1), .ints .u8 16 (zs (List.replicate 16 0)), .ints .u8 16 (zs (List.replicate 16 0)), .one (.fz 1 2 (gP (kpF [(61505, M)])))], .agg [.ints .u8 32 [5, 0, 0, 0, 0, 0, 0, 0, 0, 0, 0, 0, 0, 0, 0, 0, 0, 0, 0, 0, 0, 0, 0, 0, 0, 0, 0, 0, 0, 0, 0, 0]]] [] (.tup [.agg ZPK, .s (.int .i64 8)]) []) (hs : Con Tryz.prog 8 [.agg [.ints .u64 4 [23, 0, 0, 0], .ints .u64 4 [11, 0, 0, 0], .ints .u64 4 [4, 0, 0, 0]], .agg [.one (.int .u8 1), .ints .u8 16 (zs (List.replicate 16 0)), .ints .u8 16 (zs (List.replicate 16 0)), .one (.fz 1 2 (gP (kpF [(61505, M)])))], .agg [.ints .u64 4 [3, 0, 0, 0]]] [] (.tup [.agg [.one (.int .u8 1), .ints .u8 16 (zs (List.replicate 16 0)), .ints .u8 16 (zs (List.replicate 16 0)), .one (.fz 2 2 (gP (kpF [(61505, M), (61697, W)])))], .s (.int .i64 0)]) []) (hk : Con Tryz.prog 17 [.agg [.ints .u64 4 [23, 0, 0, 0], .ints .u64 4 [11, 0, 0, 0], .ints .u64 4 [4, 0, 0, 0]], .agg [.ints .u64 4 [3, 0, 0, 0]]] [] (.tup [.agg [.ints .u64 4 KL], .s (.int .i64 0)]) []) (hh1 : Con Tryz.prog 18 [.agg [.one (.int .u8 1), .ints .u8 16 (zs (List.replicate 16 0)), .ints .u8 16 (zs (List.replicate 16 0)), .one (.fz 1 2 (gP (kpF [(61505, M)])))], .agg [.ints .u8 32 [5, 0, 0, 0, 0, 0, 0, 0, 0, 0, 0, 0, 0, 0, 0, 0, 0, 0, 0, 0, 0, 0, 0, 0, 0, 0, 0, 0, 0, 0, 0, 0]]] [] (.s (.bool true)) []) (hh0 : Con Tryz.prog 18 [.agg [.one (.int .u8 1), .ints .u8 16 (zs (List.replicate 16 0)), .ints .u8 16 (zs (List.replicate 16 0)), .one (.fz 0 2 (gP (kpF [])))], .agg [.ints .u8 32 [5, 0, 0, 0, 0, 0, 0, 0, 0, 0, 0, 0, 0, 0, 0, 0, 0, 0, 0, 0, 0, 0, 0, 0, 0, 0, 0, 0, 0, 0, 0, 0]]] [] (.s (.bool false)) []) (hsd : Con Tryz.prog 19 [.agg [.ints .u64 4 [23, 0, 0, 0], .ints .u64 4 [11, 0, 0, 0], .ints .u64 4 [4, 0, 0, 0]], .agg [.one (.int .u8 1), .ints .u8 16 (zs (List.replicate 16 0)), .ints .u8 16 (zs (List.replicate 16 0)), .one (.fz 2 2 (gP (kpF [(61505, M), (61697, W)])))], .agg [.ints .u64 4 KL]] [] (.s (.bool true)) []) : Con Tryz.prog 6 [] [] (.s (.bool true)) [] := by
 refine con_in 97 Tryz.func6 rfl rfl (m := 0) rfl ?_
 intro E hP hn hE
 refine w_seq ?_
 refine g_reg hP hn ?_
 refine s_op k_as ?_
 refine s_nil trivial ?_
 refine n_wp ?_
 refine w_seq ?_
 refine g_reg hP hn ?_
 refine s_op k_bd ?_
 refine s_op k_al ?_
 refine s_st k_st ?_
 refine s_nil trivial ?_
 refine n_wp ?_
 refine w_seq ?_
 refine g_reg hP hn ?_
 refine s_op k_bd ?_
 refine s_op k_al ?_
 refine s_st k_st ?_
 refine s_nil trivial ?_
 refine n_wp ?_
 refine w_seq ?_
 refine g_reg hP hn ?_
 refine s_op k_ld ?_
 refine s_op k_ld ?_
 refine s_op (k_call [] (con := hm) (hargs := by exact .cons rfl (conv_agg (R := []) (.same (.same (.same (.one conv_nilz .nil))))) (.cons rfl cv .nil))) ?_
 refine s_op k_mv ?_
 refine s_op k_ex ?_
 refine s_op k_ex ?_
 refine s_op k_al ?_
 refine s_st k_st ?_
 refine s_op k_as ?_
 refine s_nil trivial ?_
 refine n_wp ?_
 refine w_seq ?_
 refine g_reg hP hn ?_
 refine s_op k_ld ?_
 refine s_op k_ld ?_
 refine s_op (k_call [] (con := hm2)) ?_
 refine s_op k_mv ?_
 refine s_op k_ex ?_
 refine s_op k_ex ?_
 refine s_op k_al ?_
 refine s_st k_st ?_
 refine s_op k_as ?_
 refine s_nil trivial ?_
 refine n_wp ?_
 refine w_seq ?_
 refine g_any hP hn ?_
 refine s_op (k_call [] (con := group_c)) ?_
 refine s_op k_ld ?_
 refine s_op k_bd ?_
 refine s_op (k_call [] (con := hs)) ?_
 refine s_op k_mv ?_
 refine s_op k_ex ?_
 refine s_op k_ex ?_
 refine s_op k_al ?_
 refine s_st k_st ?_
 refine s_op k_as ?_
 refine s_nil (by kernel_rfl) ?_
 refine n_wp ?_
 refine w_seq ?_
 refine g_reg hP hn ?_
 refine s_op (k_call [] (con := group_c)) ?_
 refine s_op k_bd ?_
 refine s_op (k_call [] (con := hk)) ?_
 refine s_op k_mv ?_
 refine s_op k_ex ?_
 refine s_op k_ex ?_
 refine s_op k_al ?_
 refine s_st k_st ?_
 refine s_op k_as ?_
 refine s_nil trivial ?_
 refine n_wp ?_
 refine w_seq ?_
 refine g_any hP hn ?_
 refine s_op k_mv ?_
 refine s_op (l_bin rfl rfl (b_eql (r := true) (by decide))) ?_
 refine s_op k_mv ?_
 refine s_on rfl rfl rfl k_fa ?_
 refine s_on rfl rfl rfl k_ld ?_
 refine s_on rfl rfl rfl k_len ?_
 refine s_on rfl rfl rfl (l_bin rfl rfl (b_eql (r := true) (by decide))) ?_
 refine s_op k_pk ?_
 refine s_op k_mv ?_
 refine s_on rfl rfl rfl k_fa ?_
 refine s_on rfl rfl rfl k_ld ?_
 refine s_on rfl rfl rfl k_ix ?_
 refine s_on rfl rfl rfl k_fa ?_
 refine s_on rfl rfl rfl (k_ld (by exact a_loadf (v := .int .u16 ((61505 : Nat) : Int)) rfl (by decide) rfl)) ?_
 refine s_on rfl rfl rfl (l_bin rfl rfl (b_eql (r := true) (by decide))) ?_
 refine s_op k_pk ?_
 refine s_op k_mv ?_
 refine s_on rfl rfl rfl k_ld ?_
 refine s_on rfl rfl rfl k_ld ?_
 refine s_on rfl rfl rfl (k_call [] (con := hh1)) ?_
 refine s_op k_pk ?_
 refine s_op k_mv ?_
 refine s_on rfl rfl rfl k_ld ?_
 refine s_on rfl rfl rfl k_ld ?_
 refine s_on rfl rfl rfl (k_call [] (con := hh0) (hargs := by exact .cons rfl (conv_agg (R := []) (.same (.same (.same (.one conv_nilz .nil))))) (.cons rfl cv .nil))) ?_
 refine s_on rfl rfl rfl k_not ?_
 refine s_op k_pk ?_
 refine s_op k_mv ?_
 refine s_on rfl rfl rfl k_mv ?_
 refine s_on rfl rfl rfl (l_bin rfl rfl (b_eql (r := true) (by decide))) ?_
 refine s_op k_pk ?_
 refine s_op k_mv ?_
 refine s_on rfl rfl rfl k_mv ?_
 refine s_on rfl rfl rfl (l_bin rfl rfl (b_eql (r := true) (by decide))) ?_
 refine s_op k_pk ?_
 refine s_op k_mv ?_
 refine s_on rfl rfl rfl k_fa ?_
 refine s_on rfl rfl rfl k_ld ?_
 refine s_on rfl rfl rfl k_len ?_
 refine s_on rfl rfl rfl (l_bin rfl rfl (b_eql (r := true) (by decide))) ?_
 refine s_op k_pk ?_
 refine s_op k_mv ?_
 refine s_on rfl rfl rfl k_fa ?_
 refine s_on rfl rfl rfl k_ld ?_
 refine s_on rfl rfl rfl k_ix ?_
 refine s_on rfl rfl rfl k_fa ?_
 refine s_on rfl rfl rfl (k_ld (by exact a_loadf (v := .int .u16 ((61697 : Nat) : Int)) rfl (by decide) rfl)) ?_
 refine s_on rfl rfl rfl (l_bin rfl rfl (b_eql (r := true) (by decide))) ?_
 refine s_op k_pk ?_
 refine s_op k_mv ?_
 refine s_on rfl rfl rfl k_mv ?_
 refine s_on rfl rfl rfl (l_bin rfl rfl (b_eql (r := true) (by decide))) ?_
 refine s_op k_pk ?_
 refine s_op k_mv ?_
 refine s_on rfl rfl rfl (k_call [] (con := group_c)) ?_
 refine s_on rfl rfl rfl k_ld ?_
 refine s_on rfl rfl rfl k_ld ?_
 refine s_on rfl rfl rfl (k_call [] (con := hsd)) ?_
 refine s_op k_pk ?_
 refine s_op k_as ?_
 refine s_nil (by kernel_rfl) ?_
 refine n_wp ?_
 refine w_ret ?_
 exact d_ret hP hn hE [] (by first | exact r_tmp Tryz.results6 | exact r_tmpa Tryz.results6)

end Go.Proofs.X
end
