/- A part of the proofs of this claim: BLane1 (BLane1). No conditions. -/
import Derived.Test.YthjccanlmhbecaaBSeal1
import Derived.Test.YthjccanlmhbecaaBWin1
import Derived.Test.YthjccanlmhbecaaBLaneT
set_option linter.unusedVariables false
set_option linter.unusedSimpArgs false
open Go Go.Bx Go.Proofs
namespace Go.Proofs.X
attribute [local irreducible] hmB streamI seal1 sealB ahB be fiB hmO tk laneB numB bodyB gN
set_option maxRecDepth 100000 in
set_option maxHeartbeats 4000000 in
theorem newout_c (M C : List Int) (l : Nat) : Con Try.prog 6 [.agg [.ints .u8 32 M, .ints .u8 16 C], .s (.int .u32 ((l : Nat) : Int))] [] (.s (.ptr 0 0 0)) [some ⟨true, OUTL M C l 0⟩] := by
 refine con_in 10 Try.func6 rfl rfl (m := 0) rfl ?_
 intro E hP hn hE
 refine w_seq ?_
 refine g_reg hP hn ?_
 refine s_op k_bx ?_
 refine s_op k_as ?_
 refine s_nil trivial ?_
 refine n_wp ?_
 refine w_seq ?_
 refine g_reg hP hn ?_
 refine s_op k_ld ?_
 refine s_op k_mv ?_
 refine s_op k_bd ?_
 refine s_op k_bd ?_
 refine s_op k_bx ?_
 refine s_op k_as ?_
 refine s_nil trivial ?_
 refine n_wp ?_
 refine w_ret ?_
 exact d_ret hP hn hE [1] (by first | exact r_tmp Try.results6 | exact r_tmpa Try.results6)

set_option maxRecDepth 100000 in
set_option maxHeartbeats 4000000 in
theorem newin_c (M C : List Int) (l : Nat) : Con Try.prog 7 [.agg [.ints .u8 32 M, .ints .u8 16 C], .s (.int .u32 ((l : Nat) : Int))] [] (.s (.ptr 0 0 0)) [some ⟨true, INL M C l 1⟩, some ⟨true, WIN (List.replicate 64 0) 0 0⟩] := by
 refine con_in 11 Try.func7 rfl rfl (m := 0) rfl ?_
 intro E hP hn hE
 refine w_seq ?_
 refine g_reg hP hn ?_
 refine s_op k_bx ?_
 refine s_op k_as ?_
 refine s_nil trivial ?_
 refine n_wp ?_
 refine w_seq ?_
 refine g_any hP hn ?_
 refine s_op k_ld ?_
 refine s_op k_mv ?_
 refine s_op k_bd ?_
 refine s_op (k_call [] (con := win_new_c) (v := .s (.ptr 1 0 0)) (hv := rfl) (H' := [some ⟨true, [.ints .u8 32 M, .ints .u8 16 C]⟩, some ⟨true, WIN (List.replicate 64 0) 0 0⟩]) (hH := rfl)) ?_
 refine s_op k_bd ?_
 refine s_op k_bx ?_
 refine s_op k_as ?_
 refine s_nil (by kernel_rfl) ?_
 refine n_wp ?_
 refine w_ret ?_
 exact d_ret hP hn hE [2, 1] (by first | exact r_tmp Try.results7 | exact r_tmpa Try.results7)

set_option maxRecDepth 100000 in
set_option maxHeartbeats 4000000 in
theorem put_full_c (M C B : List Int) (l u : Nat) (hu : 64 ≤ u) : Con Try.prog 8 [.s (.ptr 0 0 0), .s (.fzi .u8 B)] [some ⟨true, OUTL M C l u⟩] (.tup [.s .nils, .s (.int .u64 0), .s (.int .i64 6)]) [some ⟨true, OUTL M C l u⟩] := by
 refine con_in 58 Try.func8 rfl rfl (m := 1) rfl ?_
 intro E hP hn hE
 refine w_seq ?_
 refine g_reg hP hn ?_
 refine s_op k_as ?_
 refine s_op k_as ?_
 refine s_op k_as ?_
 refine s_nil trivial ?_
 refine n_wp ?_
 refine w_seq ?_
 refine w_block ?_
 refine w_seq ?_
 refine g_reg hP hn ?_
 refine s_op k_mv ?_
 refine s_op k_eql ?_
 refine s_op k_mv ?_
 first | refine s_on rfl rfl rfl k_mv ?_ | refine s_off rfl rfl rfl ?_ | refine s_opf rfl rfl (fun hB => by rw [hB]; try (have hB' := of_decide_eq_true hB); exact k_mv) ?_
 first | refine s_on rfl rfl rfl k_nc ?_ | refine s_off rfl rfl rfl ?_ | refine s_opf rfl rfl (fun hB => by rw [hB]; try (have hB' := of_decide_eq_true hB); exact k_nc) ?_
 first | refine s_on rfl rfl rfl k_fa ?_ | refine s_off rfl rfl rfl ?_ | refine s_opf rfl rfl (fun hB => by rw [hB]; try (have hB' := of_decide_eq_true hB); exact k_fa) ?_
 first | refine s_on rfl rfl rfl k_fa ?_ | refine s_off rfl rfl rfl ?_ | refine s_opf rfl rfl (fun hB => by rw [hB]; try (have hB' := of_decide_eq_true hB); exact k_fa) ?_
 first | refine s_on rfl rfl rfl k_ld ?_ | refine s_off rfl rfl rfl ?_ | refine s_opf rfl rfl (fun hB => by rw [hB]; try (have hB' := of_decide_eq_true hB); exact k_ld) ?_
 first | refine s_on rfl rfl rfl k_eql ?_ | refine s_off rfl rfl rfl ?_ | refine s_opf rfl rfl (fun hB => by rw [hB]; try (have hB' := of_decide_eq_true hB); exact k_eql) ?_
 refine s_op k_pk ?_
 refine s_op k_as ?_
 refine s_nil trivial ?_
 refine n_wp ?_
 refine w_F rfl ?_ 
 refine w_seq ?_
 refine g_reg hP hn ?_
 refine s_op k_mv ?_
 refine s_op k_nc ?_
 refine s_op k_fa ?_
 refine s_op k_ld ?_
 refine s_op k_geq ?_
 refine s_op k_as ?_
 refine s_nil trivial ?_
 refine n_wp ?_
 refine w_T rfl ?_ 
 refine w_seq ?_
 refine g_reg hP hn ?_
 refine s_op k_as ?_
 refine s_op k_as ?_
 refine s_op k_as ?_
 refine s_nil trivial ?_
 refine n_wp ?_
 refine w_ret ?_
 refine r_blo ?_
 refine r_thn ?_
 exact d_ret hP hn hE [] (ret3 Try.results8 (by first | exact ri_tmp rfl | exact ri_tmpa rfl) (by first | exact ri_tmp rfl | exact ri_tmpa rfl) (by first | exact ri_tmp rfl | exact ri_tmpa rfl))

set_option maxRecDepth 100000 in
set_option maxHeartbeats 4000000 in
theorem put_long_c (M C B : List Int) (l u : Nat) (hu : u < 64) (hB : 2019 < B.length) : Con Try.prog 8 [.s (.ptr 0 0 0), .s (.fzi .u8 B)] [some ⟨true, OUTL M C l u⟩] (.tup [.s .nils, .s (.int .u64 0), .s (.int .i64 3)]) [some ⟨true, OUTL M C l u⟩] := by
 refine con_in 58 Try.func8 rfl rfl (m := 1) rfl ?_
 intro E hP hn hE
 refine w_seq ?_
 refine g_reg hP hn ?_
 refine s_op k_as ?_
 refine s_op k_as ?_
 refine s_op k_as ?_
 refine s_nil trivial ?_
 refine n_wp ?_
 refine w_seq ?_
 refine w_block ?_
 refine w_seq ?_
 refine g_reg hP hn ?_
 refine s_op k_mv ?_
 refine s_op k_eql ?_
 refine s_op k_mv ?_
 first | refine s_on rfl rfl rfl k_mv ?_ | refine s_off rfl rfl rfl ?_ | refine s_opf rfl rfl (fun hB => by rw [hB]; try (have hB' := of_decide_eq_true hB); exact k_mv) ?_
 first | refine s_on rfl rfl rfl k_nc ?_ | refine s_off rfl rfl rfl ?_ | refine s_opf rfl rfl (fun hB => by rw [hB]; try (have hB' := of_decide_eq_true hB); exact k_nc) ?_
 first | refine s_on rfl rfl rfl k_fa ?_ | refine s_off rfl rfl rfl ?_ | refine s_opf rfl rfl (fun hB => by rw [hB]; try (have hB' := of_decide_eq_true hB); exact k_fa) ?_
 first | refine s_on rfl rfl rfl k_fa ?_ | refine s_off rfl rfl rfl ?_ | refine s_opf rfl rfl (fun hB => by rw [hB]; try (have hB' := of_decide_eq_true hB); exact k_fa) ?_
 first | refine s_on rfl rfl rfl k_ld ?_ | refine s_off rfl rfl rfl ?_ | refine s_opf rfl rfl (fun hB => by rw [hB]; try (have hB' := of_decide_eq_true hB); exact k_ld) ?_
 first | refine s_on rfl rfl rfl k_eql ?_ | refine s_off rfl rfl rfl ?_ | refine s_opf rfl rfl (fun hB => by rw [hB]; try (have hB' := of_decide_eq_true hB); exact k_eql) ?_
 refine s_op k_pk ?_
 refine s_op k_as ?_
 refine s_nil trivial ?_
 refine n_wp ?_
 refine w_F rfl ?_ 
 refine w_seq ?_
 refine g_reg hP hn ?_
 refine s_op k_mv ?_
 refine s_op k_nc ?_
 refine s_op k_fa ?_
 refine s_op k_ld ?_
 refine s_op k_geq ?_
 refine s_op k_as ?_
 refine s_nil trivial ?_
 refine n_wp ?_
 refine w_F rfl ?_ 
 refine w_skip ?_
 refine n_blo ?_
 refine n_wp ?_
 refine w_seq ?_
 refine g_reg hP hn ?_
 refine s_op k_mv ?_
 refine s_op k_nc ?_
 refine s_op k_fa ?_
 refine s_op k_ld ?_
 refine s_op k_cv ?_
 refine s_op k_add ?_
 refine s_op k_as ?_
 refine s_nil trivial ?_
 refine n_wp ?_
 refine w_seq ?_
 refine w_seq ?_
 refine g_any hP hn ?_
 refine s_op k_mv ?_
 refine s_op k_nc ?_
 refine s_op k_fa ?_
 refine s_op k_fa ?_
 refine s_op k_ld ?_
 refine s_op k_mv ?_
 refine s_op k_nc ?_
 refine s_op k_fa ?_
 refine s_op k_fa ?_
 refine s_op k_ld ?_
 refine s_op k_mv ?_
 refine s_op k_mv ?_
 refine s_op (k_call [] (con := seal_long_c M C B _ _ hB)) ?_
 refine s_op k_mv ?_
 refine s_op k_ex ?_
 refine s_op k_ex ?_
 refine s_op k_as ?_
 refine s_op k_as ?_
 refine s_nil (by kernel_rfl) ?_
 refine n_wp ?_
 refine w_seq ?_
 refine g_reg hP hn ?_
 refine s_op k_mv ?_
 refine s_op k_neq ?_
 refine s_nil trivial ?_
 refine n_wp ?_
 refine w_T rfl ?_ 
 refine w_seq ?_
 refine g_reg hP hn ?_
 refine s_op k_mv ?_
 refine s_op k_as ?_
 refine s_op k_as ?_
 refine s_op k_as ?_
 refine s_nil trivial ?_
 refine n_wp ?_
 refine w_ret ?_
 refine r_thn ?_
 exact d_ret hP hn hE [] (ret3 Try.results8 (by first | exact ri_tmp rfl | exact ri_tmpa rfl) (by first | exact ri_tmp rfl | exact ri_tmpa rfl) (by first | exact ri_tmp rfl | exact ri_tmpa rfl))

set_option maxRecDepth 100000 in
set_option maxHeartbeats 4000000 in
theorem put_ok_c (M C B : List Int) (l u : Nat) (hu : u < 64) (hB : B.length ≤ 2019) (hM : M.length = 32) (hC : C.length = 16) (hC8 : U8 C) (hl : l < 4294967296) : Con Try.prog 8 [.s (.ptr 0 0 0), .s (.fzi .u8 B)] [some ⟨true, OUTL M C l u⟩] (.tup [.s (.fzi .u8 (sealB M C l (u + 1) B)), .s (.int .u64 ((u + 1 : Nat) : Int)), .s (.int .i64 0)]) [some ⟨true, OUTL M C l (u + 1)⟩] := by
 refine con_in 58 Try.func8 rfl rfl (m := 1) rfl ?_
 intro E hP hn hE
 refine w_seq ?_
 refine g_reg hP hn ?_
 refine s_op k_as ?_
 refine s_op k_as ?_
 refine s_op k_as ?_
 refine s_nil trivial ?_
 refine n_wp ?_
 refine w_seq ?_
 refine w_block ?_
 refine w_seq ?_
 refine g_reg hP hn ?_
 refine s_op k_mv ?_
 refine s_op k_eql ?_
 refine s_op k_mv ?_
 first | refine s_on rfl rfl rfl k_mv ?_ | refine s_off rfl rfl rfl ?_ | refine s_opf rfl rfl (fun hB => by rw [hB]; try (have hB' := of_decide_eq_true hB); exact k_mv) ?_
 first | refine s_on rfl rfl rfl k_nc ?_ | refine s_off rfl rfl rfl ?_ | refine s_opf rfl rfl (fun hB => by rw [hB]; try (have hB' := of_decide_eq_true hB); exact k_nc) ?_
 first | refine s_on rfl rfl rfl k_fa ?_ | refine s_off rfl rfl rfl ?_ | refine s_opf rfl rfl (fun hB => by rw [hB]; try (have hB' := of_decide_eq_true hB); exact k_fa) ?_
 first | refine s_on rfl rfl rfl k_fa ?_ | refine s_off rfl rfl rfl ?_ | refine s_opf rfl rfl (fun hB => by rw [hB]; try (have hB' := of_decide_eq_true hB); exact k_fa) ?_
 first | refine s_on rfl rfl rfl k_ld ?_ | refine s_off rfl rfl rfl ?_ | refine s_opf rfl rfl (fun hB => by rw [hB]; try (have hB' := of_decide_eq_true hB); exact k_ld) ?_
 first | refine s_on rfl rfl rfl k_eql ?_ | refine s_off rfl rfl rfl ?_ | refine s_opf rfl rfl (fun hB => by rw [hB]; try (have hB' := of_decide_eq_true hB); exact k_eql) ?_
 refine s_op k_pk ?_
 refine s_op k_as ?_
 refine s_nil trivial ?_
 refine n_wp ?_
 refine w_F rfl ?_ 
 refine w_seq ?_
 refine g_reg hP hn ?_
 refine s_op k_mv ?_
 refine s_op k_nc ?_
 refine s_op k_fa ?_
 refine s_op k_ld ?_
 refine s_op k_geq ?_
 refine s_op k_as ?_
 refine s_nil trivial ?_
 refine n_wp ?_
 refine w_F rfl ?_ 
 refine w_skip ?_
 refine n_blo ?_
 refine n_wp ?_
 refine w_seq ?_
 refine g_reg hP hn ?_
 refine s_op k_mv ?_
 refine s_op k_nc ?_
 refine s_op k_fa ?_
 refine s_op k_ld ?_
 refine s_op k_cv ?_
 refine s_op k_add ?_
 refine s_op k_as ?_
 refine s_nil trivial ?_
 refine n_wp ?_
 refine w_seq ?_
 refine w_seq ?_
 refine g_any hP hn ?_
 refine s_op k_mv ?_
 refine s_op k_nc ?_
 refine s_op k_fa ?_
 refine s_op k_fa ?_
 refine s_op k_ld ?_
 refine s_op k_mv ?_
 refine s_op k_nc ?_
 refine s_op k_fa ?_
 refine s_op k_fa ?_
 refine s_op k_ld ?_
 refine s_op k_mv ?_
 refine s_op k_mv ?_
 refine s_op (k_call [] (con := seal_c M C B l (u + 1) hM hC hC8 hl (by omega) hB)) ?_
 refine s_op k_mv ?_
 refine s_op k_ex ?_
 refine s_op k_ex ?_
 refine s_op k_as ?_
 refine s_op k_as ?_
 refine s_nil (by kernel_rfl) ?_
 refine n_wp ?_
 refine w_seq ?_
 refine g_reg hP hn ?_
 refine s_op k_mv ?_
 refine s_op k_neq ?_
 refine s_nil trivial ?_
 refine n_wp ?_
 refine w_F rfl ?_ 
 refine w_skip ?_
 refine n_wp ?_
 refine w_seq ?_
 refine g_reg hP hn ?_
 refine s_op k_mv ?_
 refine s_op k_nc ?_
 refine s_op k_fa ?_
 refine s_op k_ld ?_
 refine s_op k_add ?_
 refine s_op k_nc ?_
 refine s_op k_fa ?_
 refine s_st k_st ?_
 refine s_nil trivial ?_
 refine n_wp ?_
 refine w_seq ?_
 refine g_reg hP hn ?_
 refine s_op k_mv ?_
 refine s_op k_mv ?_
 refine s_op k_as ?_
 refine s_op k_as ?_
 refine s_op k_as ?_
 refine s_nil trivial ?_
 refine n_wp ?_
 refine w_ret ?_
 exact d_ret hP hn hE [] (ret3 Try.results8 (by first | exact ri_tmp rfl | exact ri_tmpa rfl) (by first | exact ri_tmp rfl | exact ri_tmpa rfl) (by first | exact ri_tmp rfl | exact ri_tmpa rfl))

set_option maxRecDepth 100000 in
set_option maxHeartbeats 4000000 in
theorem used_c (M C : List Int) (l u : Nat) : Con Try.prog 12 [.s (.ptr 0 0 0)] [some ⟨true, OUTL M C l u⟩] (.s (.int .i64 ((u : Nat) : Int))) [some ⟨true, OUTL M C l u⟩] := by
 refine con_in 9 Try.func12 rfl rfl (m := 1) rfl ?_
 intro E hP hn hE
 refine w_seq ?_
 refine g_reg hP hn ?_
 refine s_op k_as ?_
 refine s_nil trivial ?_
 refine n_wp ?_
 refine w_seq ?_
 refine w_seq ?_
 refine g_reg hP hn ?_
 refine s_op k_mv ?_
 refine s_op k_eql ?_
 refine s_nil trivial ?_
 refine n_wp ?_
 refine w_F rfl ?_ 
 refine w_skip ?_
 refine n_wp ?_
 refine w_seq ?_
 refine g_reg hP hn ?_
 refine s_op k_mv ?_
 refine s_op k_nc ?_
 refine s_op k_fa ?_
 refine s_op k_ld ?_
 refine s_op k_as ?_
 refine s_nil trivial ?_
 refine n_wp ?_
 refine w_ret ?_
 exact d_ret hP hn hE [] (by first | exact r_tmp Try.results12 | exact r_tmpa Try.results12)

set_option maxRecDepth 100000 in
set_option maxHeartbeats 4000000 in
theorem take_none_c (M C B : List Int) (l : Nat) (q : List Nat) (h n : Nat) (hO : Opens M C B) (hl : laneB B ≠ l) : Con Try.prog 9 [.s (.ptr 0 0 0), .s (.fzi .u8 B)] [some ⟨true, INL M C l 1⟩, some ⟨true, WIN q h n⟩] (.tup [.s (.int .u64 0), .s .nils, .s (.int .i64 7)]) [some ⟨true, INL M C l 1⟩, some ⟨true, WIN q h n⟩] := by
 refine con_in 60 Try.func9 rfl rfl (m := 2) rfl ?_
 intro E hP hn hE
 refine w_seq ?_
 refine g_reg hP hn ?_
 refine s_op k_as ?_
 refine s_op k_as ?_
 refine s_op k_as ?_
 refine s_nil trivial ?_
 refine n_wp ?_
 refine w_seq ?_
 refine w_seq ?_
 refine g_reg hP hn ?_
 refine s_op k_mv ?_
 refine s_op k_eql ?_
 refine s_op k_mv ?_
 first | refine s_on rfl rfl rfl k_mv ?_ | refine s_off rfl rfl rfl ?_ | refine s_opf rfl rfl (fun hB => by rw [hB]; try (have hB' := of_decide_eq_true hB); exact k_mv) ?_
 first | refine s_on rfl rfl rfl k_nc ?_ | refine s_off rfl rfl rfl ?_ | refine s_opf rfl rfl (fun hB => by rw [hB]; try (have hB' := of_decide_eq_true hB); exact k_nc) ?_
 first | refine s_on rfl rfl rfl k_fa ?_ | refine s_off rfl rfl rfl ?_ | refine s_opf rfl rfl (fun hB => by rw [hB]; try (have hB' := of_decide_eq_true hB); exact k_fa) ?_
 first | refine s_on rfl rfl rfl k_fa ?_ | refine s_off rfl rfl rfl ?_ | refine s_opf rfl rfl (fun hB => by rw [hB]; try (have hB' := of_decide_eq_true hB); exact k_fa) ?_
 first | refine s_on rfl rfl rfl k_ld ?_ | refine s_off rfl rfl rfl ?_ | refine s_opf rfl rfl (fun hB => by rw [hB]; try (have hB' := of_decide_eq_true hB); exact k_ld) ?_
 first | refine s_on rfl rfl rfl k_eql ?_ | refine s_off rfl rfl rfl ?_ | refine s_opf rfl rfl (fun hB => by rw [hB]; try (have hB' := of_decide_eq_true hB); exact k_eql) ?_
 refine s_op k_pk ?_
 refine s_nil trivial ?_
 refine n_wp ?_
 refine w_F rfl ?_ 
 refine w_skip ?_
 refine n_wp ?_
 refine w_seq ?_
 refine g_reg hP hn ?_
 refine s_op k_mv ?_
 refine s_op (k_call [] (con := lane_n B hO.l hO.h hO.k hO.u8)) ?_
 refine s_op k_mv ?_
 refine s_op k_ex ?_
 refine s_op k_ex ?_
 refine s_op k_as ?_
 refine s_op k_as ?_
 refine s_nil trivial ?_
 refine n_wp ?_
 refine w_seq ?_
 refine w_block ?_
 refine w_seq ?_
 refine g_reg hP hn ?_
 refine s_op k_mv ?_
 refine s_op k_neq ?_
 refine s_op k_as ?_
 refine s_nil trivial ?_
 refine n_wp ?_
 refine w_F rfl ?_ 
 refine w_seq ?_
 refine g_reg hP hn ?_
 refine s_op k_mv ?_
 refine s_op k_mv ?_
 refine s_op k_nc ?_
 refine s_op k_fa ?_
 refine s_op k_fa ?_
 refine s_op k_ld ?_
 refine s_op k_neq ?_
 refine s_op k_as ?_
 refine s_nil trivial ?_
 refine n_wp ?_
 refine w_T rfl ?_ 
 refine w_seq ?_
 refine g_reg hP hn ?_
 refine s_op k_as ?_
 refine s_op k_as ?_
 refine s_op k_as ?_
 refine s_nil trivial ?_
 refine n_wp ?_
 refine w_ret ?_
 refine r_blo ?_
 refine r_thn ?_
 exact d_ret hP hn hE [] (ret3 Try.results9 (by first | exact ri_tmp rfl | exact ri_tmpa rfl) (by first | exact ri_tmp rfl | exact ri_tmpa rfl) (by first | exact ri_tmp rfl | exact ri_tmpa rfl))

set_option maxRecDepth 100000 in
set_option maxHeartbeats 4000000 in
theorem take_bad_c (M C B : List Int) (l : Nat) (q : List Nat) (h n : Nat) (hO : Opens M C B) (hl : laneB B = l) (hM : M.length = 32) (hC : C.length = 16) (hC8 : U8 C) (hq : q.length = 64) (hh : h < 18446744073709551616) (hf : fitsW q h (numB B) ≠ 0) : Con Try.prog 9 [.s (.ptr 0 0 0), .s (.fzi .u8 B)] [some ⟨true, INL M C l 1⟩, some ⟨true, WIN q h n⟩] (.tup [.s (.int .u64 0), .s .nils, .s (.int .i64 ((fitsW q h (numB B) : Nat) : Int))]) [some ⟨true, INL M C l 1⟩, some ⟨true, WIN q h n⟩] := by
 refine con_in 60 Try.func9 rfl rfl (m := 2) rfl ?_
 intro E hP hn hE
 refine w_seq ?_
 refine g_reg hP hn ?_
 refine s_op k_as ?_
 refine s_op k_as ?_
 refine s_op k_as ?_
 refine s_nil trivial ?_
 refine n_wp ?_
 refine w_seq ?_
 refine w_seq ?_
 refine g_reg hP hn ?_
 refine s_op k_mv ?_
 refine s_op k_eql ?_
 refine s_op k_mv ?_
 first | refine s_on rfl rfl rfl k_mv ?_ | refine s_off rfl rfl rfl ?_ | refine s_opf rfl rfl (fun hB => by rw [hB]; try (have hB' := of_decide_eq_true hB); exact k_mv) ?_
 first | refine s_on rfl rfl rfl k_nc ?_ | refine s_off rfl rfl rfl ?_ | refine s_opf rfl rfl (fun hB => by rw [hB]; try (have hB' := of_decide_eq_true hB); exact k_nc) ?_
 first | refine s_on rfl rfl rfl k_fa ?_ | refine s_off rfl rfl rfl ?_ | refine s_opf rfl rfl (fun hB => by rw [hB]; try (have hB' := of_decide_eq_true hB); exact k_fa) ?_
 first | refine s_on rfl rfl rfl k_fa ?_ | refine s_off rfl rfl rfl ?_ | refine s_opf rfl rfl (fun hB => by rw [hB]; try (have hB' := of_decide_eq_true hB); exact k_fa) ?_
 first | refine s_on rfl rfl rfl k_ld ?_ | refine s_off rfl rfl rfl ?_ | refine s_opf rfl rfl (fun hB => by rw [hB]; try (have hB' := of_decide_eq_true hB); exact k_ld) ?_
 first | refine s_on rfl rfl rfl k_eql ?_ | refine s_off rfl rfl rfl ?_ | refine s_opf rfl rfl (fun hB => by rw [hB]; try (have hB' := of_decide_eq_true hB); exact k_eql) ?_
 refine s_op k_pk ?_
 refine s_nil trivial ?_
 refine n_wp ?_
 refine w_F rfl ?_ 
 refine w_skip ?_
 refine n_wp ?_
 refine w_seq ?_
 refine g_reg hP hn ?_
 refine s_op k_mv ?_
 refine s_op (k_call [] (con := lane_n B hO.l hO.h hO.k hO.u8)) ?_
 refine s_op k_mv ?_
 refine s_op k_ex ?_
 refine s_op k_ex ?_
 refine s_op k_as ?_
 refine s_op k_as ?_
 refine s_nil trivial ?_
 refine n_wp ?_
 refine w_seq ?_
 refine w_block ?_
 refine w_seq ?_
 refine g_reg hP hn ?_
 refine s_op k_mv ?_
 refine s_op k_neq ?_
 refine s_op k_as ?_
 refine s_nil trivial ?_
 refine n_wp ?_
 refine w_F rfl ?_ 
 refine w_seq ?_
 refine g_reg hP hn ?_
 refine s_op k_mv ?_
 refine s_op k_mv ?_
 refine s_op k_nc ?_
 refine s_op k_fa ?_
 refine s_op k_fa ?_
 refine s_op k_ld ?_
 refine s_op k_neq ?_
 refine s_op k_as ?_
 refine s_nil trivial ?_
 refine n_wp ?_
 refine w_F rfl ?_ (by subst hl; simp)
 refine w_skip ?_
 refine n_blo ?_
 refine n_wp ?_
 refine w_seq ?_
 refine w_seq ?_
 refine g_reg hP hn ?_
 refine s_op k_mv ?_
 refine s_op k_nc ?_
 refine s_op k_fa ?_
 refine s_op k_fa ?_
 refine s_op k_ld ?_
 refine s_op k_mv ?_
 refine s_op (k_call [] (con := open_c M C B hM hC hC8 hO.u8 hO.l hO.h hO.k hO.mac)) ?_
 refine s_op k_mv ?_
 refine s_op k_ex ?_
 refine s_op k_ex ?_
 refine s_op k_ex ?_
 refine s_op k_ex ?_
 refine s_op k_as ?_
 refine s_op k_as ?_
 refine s_op k_as ?_
 refine s_nil trivial ?_
 refine n_wp ?_
 refine w_seq ?_
 refine g_reg hP hn ?_
 refine s_op k_mv ?_
 refine s_op k_eql ?_
 refine s_nil trivial ?_
 refine n_wp ?_
 refine w_T rfl ?_ 
 refine g_reg hP hn ?_
 refine s_op k_mv ?_
 refine s_op k_nc ?_
 refine s_op k_fa ?_
 refine s_op k_ld ?_
 refine s_op k_mv ?_
 refine s_op (k_call [1] (con := win_keep_c q h n (numB B) hq (numB_lt hO.u8) hh hf) (H' := [some ⟨true, INL M C l 1⟩, some ⟨true, WIN q h n⟩]) (hH := rfl)) ?_
 refine s_op k_as ?_
 refine s_nil trivial ?_
 refine n_wp ?_
 refine w_seq ?_
 refine w_seq ?_
 refine g_reg hP hn ?_
 refine s_op k_mv ?_
 refine s_op k_neq ?_
 refine s_nil trivial ?_
 refine n_wp ?_
 refine w_T rfl ?_ (by simpa using hf)
 refine w_seq ?_
 refine g_reg hP hn ?_
 refine s_op k_mv ?_
 refine s_op k_as ?_
 refine s_op k_as ?_
 refine s_op k_as ?_
 refine s_nil trivial ?_
 refine n_wp ?_
 refine w_ret ?_
 refine r_thn ?_
 exact d_ret hP hn hE [] (ret3 Try.results9 (by first | exact ri_tmp rfl | exact ri_tmpa rfl) (by first | exact ri_tmp rfl | exact ri_tmpa rfl) (by first | exact ri_tmp rfl | exact ri_tmpa rfl))

set_option maxRecDepth 100000 in
set_option maxHeartbeats 4000000 in
theorem take_ok_c (M C B : List Int) (l : Nat) (q : List Nat) (h n : Nat) (hO : Opens M C B) (hl : laneB B = l) (hM : M.length = 32) (hC : C.length = 16) (hC8 : U8 C) (hq : q.length = 64) (hh : h < 18446744073709551616) (hn1 : n + 1 < 18446744073709551616) (hf : fitsW q h (numB B) = 0) : Con Try.prog 9 [.s (.ptr 0 0 0), .s (.fzi .u8 B)] [some ⟨true, INL M C l 1⟩, some ⟨true, WIN q h n⟩] (.tup [.s (.int .u64 ((numB B : Nat) : Int)), .s (.fzi .u8 (streamI C (fiB B) (bodyB B))), .s (.int .i64 0)]) [some ⟨true, INL M C l 1⟩, some ⟨true, WIN (q.set (numB B % 64) (numB B)) (max h (numB B)) (n + 1)⟩] := by
 refine con_in 60 Try.func9 rfl rfl (m := 2) rfl ?_
 intro E hP hn hE
 refine w_seq ?_
 refine g_reg hP hn ?_
 refine s_op k_as ?_
 refine s_op k_as ?_
 refine s_op k_as ?_
 refine s_nil trivial ?_
 refine n_wp ?_
 refine w_seq ?_
 refine w_seq ?_
 refine g_reg hP hn ?_
 refine s_op k_mv ?_
 refine s_op k_eql ?_
 refine s_op k_mv ?_
 first | refine s_on rfl rfl rfl k_mv ?_ | refine s_off rfl rfl rfl ?_ | refine s_opf rfl rfl (fun hB => by rw [hB]; try (have hB' := of_decide_eq_true hB); exact k_mv) ?_
 first | refine s_on rfl rfl rfl k_nc ?_ | refine s_off rfl rfl rfl ?_ | refine s_opf rfl rfl (fun hB => by rw [hB]; try (have hB' := of_decide_eq_true hB); exact k_nc) ?_
 first | refine s_on rfl rfl rfl k_fa ?_ | refine s_off rfl rfl rfl ?_ | refine s_opf rfl rfl (fun hB => by rw [hB]; try (have hB' := of_decide_eq_true hB); exact k_fa) ?_
 first | refine s_on rfl rfl rfl k_fa ?_ | refine s_off rfl rfl rfl ?_ | refine s_opf rfl rfl (fun hB => by rw [hB]; try (have hB' := of_decide_eq_true hB); exact k_fa) ?_
 first | refine s_on rfl rfl rfl k_ld ?_ | refine s_off rfl rfl rfl ?_ | refine s_opf rfl rfl (fun hB => by rw [hB]; try (have hB' := of_decide_eq_true hB); exact k_ld) ?_
 first | refine s_on rfl rfl rfl k_eql ?_ | refine s_off rfl rfl rfl ?_ | refine s_opf rfl rfl (fun hB => by rw [hB]; try (have hB' := of_decide_eq_true hB); exact k_eql) ?_
 refine s_op k_pk ?_
 refine s_nil trivial ?_
 refine n_wp ?_
 refine w_F rfl ?_ 
 refine w_skip ?_
 refine n_wp ?_
 refine w_seq ?_
 refine g_reg hP hn ?_
 refine s_op k_mv ?_
 refine s_op (k_call [] (con := lane_n B hO.l hO.h hO.k hO.u8)) ?_
 refine s_op k_mv ?_
 refine s_op k_ex ?_
 refine s_op k_ex ?_
 refine s_op k_as ?_
 refine s_op k_as ?_
 refine s_nil trivial ?_
 refine n_wp ?_
 refine w_seq ?_
 refine w_block ?_
 refine w_seq ?_
 refine g_reg hP hn ?_
 refine s_op k_mv ?_
 refine s_op k_neq ?_
 refine s_op k_as ?_
 refine s_nil trivial ?_
 refine n_wp ?_
 refine w_F rfl ?_ 
 refine w_seq ?_
 refine g_reg hP hn ?_
 refine s_op k_mv ?_
 refine s_op k_mv ?_
 refine s_op k_nc ?_
 refine s_op k_fa ?_
 refine s_op k_fa ?_
 refine s_op k_ld ?_
 refine s_op k_neq ?_
 refine s_op k_as ?_
 refine s_nil trivial ?_
 refine n_wp ?_
 refine w_F rfl ?_ (by subst hl; simp)
 refine w_skip ?_
 refine n_blo ?_
 refine n_wp ?_
 refine w_seq ?_
 refine w_seq ?_
 refine g_reg hP hn ?_
 refine s_op k_mv ?_
 refine s_op k_nc ?_
 refine s_op k_fa ?_
 refine s_op k_fa ?_
 refine s_op k_ld ?_
 refine s_op k_mv ?_
 refine s_op (k_call [] (con := open_c M C B hM hC hC8 hO.u8 hO.l hO.h hO.k hO.mac)) ?_
 refine s_op k_mv ?_
 refine s_op k_ex ?_
 refine s_op k_ex ?_
 refine s_op k_ex ?_
 refine s_op k_ex ?_
 refine s_op k_as ?_
 refine s_op k_as ?_
 refine s_op k_as ?_
 refine s_nil trivial ?_
 refine n_wp ?_
 refine w_seq ?_
 refine g_reg hP hn ?_
 refine s_op k_mv ?_
 refine s_op k_eql ?_
 refine s_nil trivial ?_
 refine n_wp ?_
 refine w_T rfl ?_ 
 refine g_reg hP hn ?_
 refine s_op k_mv ?_
 refine s_op k_nc ?_
 refine s_op k_fa ?_
 refine s_op k_ld ?_
 refine s_op k_mv ?_
 refine s_op (k_call [1] (con := win_take_c q h n (numB B) hq (numB_lt hO.u8) hh hn1 hf) (H' := [some ⟨true, INL M C l 1⟩, some ⟨true, WIN (q.set (numB B % 64) (numB B)) (max h (numB B)) (n + 1)⟩]) (hH := rfl)) ?_
 refine s_op k_as ?_
 refine s_nil trivial ?_
 refine n_wp ?_
 refine w_seq ?_
 refine w_seq ?_
 refine g_reg hP hn ?_
 refine s_op k_mv ?_
 refine s_op k_neq ?_
 refine s_nil trivial ?_
 refine n_wp ?_
 refine w_F rfl ?_ (by rw [hf]; rfl)
 refine w_skip ?_
 refine n_wp ?_
 refine w_seq ?_
 refine g_reg hP hn ?_
 refine s_op k_mv ?_
 refine s_op k_mv ?_
 refine s_op k_as ?_
 refine s_op k_as ?_
 refine s_op k_as ?_
 refine s_nil trivial ?_
 refine n_wp ?_
 refine w_ret ?_
 exact d_ret hP hn hE [] (ret3 Try.results9 (by first | exact ri_tmp rfl | exact ri_tmpa rfl) (by first | exact ri_tmp rfl | exact ri_tmpa rfl) (by first | exact ri_tmp rfl | exact ri_tmpa rfl))

set_option maxRecDepth 100000 in
set_option maxHeartbeats 4000000 in
theorem came_c (M C : List Int) (l : Nat) (q : List Nat) (h n : Nat) : Con Try.prog 11 [.s (.ptr 0 0 0)] [some ⟨true, INL M C l 1⟩, some ⟨true, WIN q h n⟩] (.s (.int .u64 ((n : Nat) : Int))) [some ⟨true, INL M C l 1⟩, some ⟨true, WIN q h n⟩] := by
 refine con_in 18 Try.func11 rfl rfl (m := 2) rfl ?_
 intro E hP hn hE
 refine w_seq ?_
 refine g_reg hP hn ?_
 refine s_op k_as ?_
 refine s_nil trivial ?_
 refine n_wp ?_
 refine w_seq ?_
 refine w_seq ?_
 refine g_reg hP hn ?_
 refine s_op k_mv ?_
 refine s_op k_eql ?_
 refine s_op k_mv ?_
 first | refine s_on rfl rfl rfl k_mv ?_ | refine s_off rfl rfl rfl ?_ | refine s_opf rfl rfl (fun hB => by rw [hB]; try (have hB' := of_decide_eq_true hB); exact k_mv) ?_
 first | refine s_on rfl rfl rfl k_nc ?_ | refine s_off rfl rfl rfl ?_ | refine s_opf rfl rfl (fun hB => by rw [hB]; try (have hB' := of_decide_eq_true hB); exact k_nc) ?_
 first | refine s_on rfl rfl rfl k_fa ?_ | refine s_off rfl rfl rfl ?_ | refine s_opf rfl rfl (fun hB => by rw [hB]; try (have hB' := of_decide_eq_true hB); exact k_fa) ?_
 first | refine s_on rfl rfl rfl k_fa ?_ | refine s_off rfl rfl rfl ?_ | refine s_opf rfl rfl (fun hB => by rw [hB]; try (have hB' := of_decide_eq_true hB); exact k_fa) ?_
 first | refine s_on rfl rfl rfl k_ld ?_ | refine s_off rfl rfl rfl ?_ | refine s_opf rfl rfl (fun hB => by rw [hB]; try (have hB' := of_decide_eq_true hB); exact k_ld) ?_
 first | refine s_on rfl rfl rfl k_eql ?_ | refine s_off rfl rfl rfl ?_ | refine s_opf rfl rfl (fun hB => by rw [hB]; try (have hB' := of_decide_eq_true hB); exact k_eql) ?_
 refine s_op k_pk ?_
 refine s_nil trivial ?_
 refine n_wp ?_
 refine w_F rfl ?_ 
 refine w_skip ?_
 refine n_wp ?_
 refine w_seq ?_
 refine g_reg hP hn ?_
 refine s_op k_mv ?_
 refine s_op k_nc ?_
 refine s_op k_fa ?_
 refine s_op k_ld ?_
 refine s_op (k_call [1] (con := win_taken_c q h n) (H' := [some ⟨true, INL M C l 1⟩, some ⟨true, WIN q h n⟩]) (hH := rfl)) ?_
 refine s_op k_as ?_
 refine s_nil trivial ?_
 refine n_wp ?_
 refine w_ret ?_
 exact d_ret hP hn hE [] (by first | exact r_tmp Try.results11 | exact r_tmpa Try.results11)

set_option maxRecDepth 100000 in
set_option maxHeartbeats 4000000 in
theorem inlane_c (M C : List Int) (l : Nat) (q : List Nat) (h n : Nat) : Con Try.prog 13 [.s (.ptr 0 0 0)] [some ⟨true, INL M C l 1⟩, some ⟨true, WIN q h n⟩] (.s (.int .u32 ((l : Nat) : Int))) [some ⟨true, INL M C l 1⟩, some ⟨true, WIN q h n⟩] := by
 refine con_in 10 Try.func13 rfl rfl (m := 2) rfl ?_
 intro E hP hn hE
 refine w_seq ?_
 refine g_reg hP hn ?_
 refine s_op k_as ?_
 refine s_nil trivial ?_
 refine n_wp ?_
 refine w_seq ?_
 refine w_seq ?_
 refine g_reg hP hn ?_
 refine s_op k_mv ?_
 refine s_op k_eql ?_
 refine s_nil trivial ?_
 refine n_wp ?_
 refine w_F rfl ?_ 
 refine w_skip ?_
 refine n_wp ?_
 refine w_seq ?_
 refine g_reg hP hn ?_
 refine s_op k_mv ?_
 refine s_op k_nc ?_
 refine s_op k_fa ?_
 refine s_op k_fa ?_
 refine s_op k_ld ?_
 refine s_op k_as ?_
 refine s_nil trivial ?_
 refine n_wp ?_
 refine w_ret ?_
 exact d_ret hP hn hE [] (by first | exact r_tmp Try.results13 | exact r_tmpa Try.results13)

set_option maxRecDepth 100000 in
set_option maxHeartbeats 4000000 in
theorem sameb_c (A B : List Int) (hA : A.length ≤ 140737488355000) : Con Try.prog 10 [.s (.fzi .u8 A), .s (.fzi .u8 B)] [] (.s (.bool (decide (A = B)))) [] := by
 refine con_in 26 Try.func10 rfl rfl (m := 0) rfl ?_
 intro E hP hn hE
 refine w_seq ?_
 refine g_reg hP hn ?_
 refine s_op k_as ?_
 refine s_nil trivial ?_
 refine n_wp ?_
 refine w_seq ?_
 refine w_seq ?_
 refine g_reg hP hn ?_
 refine s_op k_mv ?_
 refine s_op k_len ?_
 refine s_op k_mv ?_
 refine s_op k_len ?_
 refine s_op k_neq ?_
 refine s_nil trivial ?_
 refine n_wp ?_
 refine w_ifn rfl (fun h_t10 => ?_) (fun h_t10 => ?_)
 · skip
   rw [decide_eq_false (fun e : A = B => h_t10 (by rw [e]))]
   refine w_seq ?_
   refine g_reg hP hn ?_
   refine s_op k_as ?_
   refine s_nil trivial ?_
   refine n_wp ?_
   refine w_ret ?_
   refine r_thn ?_
   exact d_ret hP hn hE [] (by first | exact r_tmp Try.results10 | exact r_tmpa Try.results10)
 · skip
   refine w_skip ?_
   refine n_wp ?_
   refine w_seq ?_
   refine w_seq ?_
   refine g_reg hP hn ?_
   refine s_op k_as ?_
   refine s_nil trivial ?_
   refine n_wp ?_
   refine w_block ?_
   refine c_loop (fun m T H => ∃ i, i ≤ A.length ∧ m = A.length - i ∧ AlikeTo A B i ∧ T = [(0, .s (.fzi .u8 A)), (1, .s (.fzi .u8 B)), (5, .s (.int .i64 ((i : Nat) : Int)))] ∧ H = []) (A.length) ⟨0, by omega, rfl, fun k hk => absurd hk (Nat.not_lt_zero k), rfl, rfl⟩ (wk hE []) ?_
   rintro n_ T_ H_ ⟨i, hi, rfl, hal, rfl, rfl⟩
   refine w_seq ?_
   refine w_seq ?_
   refine g_reg hP hn ?_
   refine s_op k_mv ?_
   refine s_op k_mv ?_
   refine s_op k_len ?_
   refine s_op k_lss ?_
   refine s_nil trivial ?_
   refine n_wp ?_
   refine w_if rfl (fun h_t14 => ?_) (fun h_t14 => ?_)
   · skip
     refine w_skip ?_
     refine n_wp ?_
     refine w_seq ?_
     refine w_block ?_
     refine w_seq ?_
     refine g_any hP hn ?_
     refine s_op k_mv ?_
     refine s_op k_mv ?_
     refine s_op k_ix ?_
     refine s_op k_ld ?_
     refine s_op k_mv ?_
     refine s_op k_mv ?_
     refine s_op k_ix ?_
     refine s_op k_ld ?_
     refine s_op k_neq ?_
     refine s_nil (by kernel_rfl) ?_
     refine n_wp ?_
     refine w_if rfl (fun h_t25 => ?_) (fun h_t25 => ?_)
     · skip
       rw [decide_eq_false (alike_not h_t25)]
       refine w_seq ?_
       refine g_reg hP hn ?_
       refine s_op k_as ?_
       refine s_nil trivial ?_
       refine n_wp ?_
       refine w_ret ?_
       refine r_blo ?_
       refine r_thn ?_
       refine r_thn ?_
       refine r_blo ?_
       refine r_thn ?_
       exact d_ret hP hn hE [] (by first | exact r_tmp Try.results10 | exact r_tmpa Try.results10)
     · skip
       have hnext := hal.next (Decidable.of_not_not h_t25)
       refine w_skip ?_
       refine n_blo ?_
       refine n_wp ?_
       refine g_reg hP hn ?_
       refine s_op k_mv ?_
       refine s_op k_add ?_
       refine s_op k_as ?_
       refine s_nil trivial ?_
       exact n_round (A.length - (i + 1)) (by omega) ⟨i + 1, by omega, rfl, hnext, rfl, rfl⟩ (wk hE [])
   · skip
     rw [decide_eq_true (AlikeTo.all h_t10 (by rw [show i = A.length by omega] at hal; exact hal))]
     refine w_exit ?_
     refine x_thn ?_
     refine x_thn ?_
     refine x_eq ?_
     refine n_wp ?_
     refine w_seq ?_
     refine g_reg hP hn ?_
     refine s_op k_as ?_
     refine s_nil trivial ?_
     refine n_wp ?_
     refine w_ret ?_
     exact d_ret hP hn hE [] (by first | exact r_tmp Try.results10 | exact r_tmpa Try.results10)

end Go.Proofs.X
