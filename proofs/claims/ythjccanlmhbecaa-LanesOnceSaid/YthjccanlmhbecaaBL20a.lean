/- A part of the proofs of this claim: BL20a (BL20a). No conditions. -/
import Derived.Test.YthjccanlmhbecaaBLane1
import Derived.Test.YthjccanlmhbecaaBL20T
set_option linter.unusedVariables false
set_option linter.unusedSimpArgs false
open Go Go.Bx Go.Proofs
namespace Go.Proofs.X
attribute [local irreducible] hmB streamI seal1 sealB ahB be fiB hmO tk laneB numB bodyB gN M20 C20
set_option maxRecDepth 100000 in
set_option maxHeartbeats 4000000 in
theorem alive20_c  : Con Try.prog 4 [] [] (.s (.bool true)) [] := by
 refine con_in 95 Try.func4 rfl rfl (m := 0) rfl ?_
 intro E hP hn hE
 have hM := M20_len
 have hC := C20_len
 have hC8 := C20_U8
 have hU : U8' [97, 98] := fun i => by match i with | 0 => exact ⟨by decide, by decide⟩ | 1 => exact ⟨by decide, by decide⟩ | i + 2 => simp
 obtain ⟨X, hX⟩ : ∃ X, sealB M20 C20 7 (0 + 1) [97, 98] = X := ⟨_, rfl⟩
 have hO : Opens M20 C20 X := by rw [← hX]; exact opens_seal _ _ _ _ _ (by decide)
 have hln : laneB X = 7 := by rw [← hX]; exact lane_seal _ _ _ _ _ (by decide)
 have hnm : numB X = 1 := by rw [← hX]; exact num_seal _ _ _ _ _ (by decide)
 have hop : streamI C20 (fiB X) (bodyB X) = [97, 98] := by rw [← hX]; exact open_seal _ _ _ _ _ hU
 have take1 := take_ok_c M20 C20 X 7 (List.replicate 64 0) 0 0 hO hln hM hC hC8 rfl (by omega) (by omega) (by rw [hnm]; rfl)
 have take2 := take_bad_c M20 C20 X 7 ((List.replicate 64 0).set (1 % 64) 1) (max 0 1) (0 + 1) hO hln hM hC hC8 rfl (by omega) (by rw [hnm]; decide)
 rw [hnm, hop] at take1
 rw [hnm, show fitsW ((List.replicate 64 0).set (1 % 64) 1) (max 0 1) 1 = 8 from rfl] at take2
 refine w_seq ?_
 refine g_reg hP hn ?_
 refine s_op k_as ?_
 refine s_nil trivial ?_
 refine n_wp ?_
 refine w_seq ?_
 refine g_reg hP hn ?_
 refine s_op (k_bd (by exact a_buildK (n := 32) M20 (by kernel_rfl) (by kernel_rfl) hM)) ?_
 refine s_op (k_bd (by exact a_buildK (n := 16) C20 (by kernel_rfl) (by kernel_rfl) hC)) ?_
 refine s_op k_bd ?_
 refine s_op k_al ?_
 refine s_st k_st ?_
 refine s_nil trivial ?_
 refine n_wp ?_
 refine w_seq ?_
 refine g_reg hP hn ?_
 refine s_op k_ld ?_
 refine s_op (k_call [] (con := newout_c M20 C20 7) (v := .s (.ptr 1 0 0)) (hv := rfl) (H' := [some ⟨true, [.ints .u8 32 M20, .ints .u8 16 C20]⟩, some ⟨true, OUTL M20 C20 7 0⟩]) (hH := rfl)) ?_
 refine s_op k_as ?_
 refine s_nil trivial ?_
 refine n_wp ?_
 refine w_seq ?_
 refine g_reg hP hn ?_
 refine s_op k_ld ?_
 refine s_op (k_call [] (con := newin_c M20 C20 7) (v := .s (.ptr 2 0 0)) (hv := rfl) (H' := [some ⟨true, [.ints .u8 32 M20, .ints .u8 16 C20]⟩, some ⟨true, OUTL M20 C20 7 0⟩, some ⟨true, INL M20 C20 7 3⟩, some ⟨true, WIN (List.replicate 64 0) 0 0⟩]) (hH := rfl)) ?_
 refine s_op k_as ?_
 refine s_nil trivial ?_
 refine n_wp ?_
 refine w_seq ?_
 refine g_reg hP hn ?_
 refine s_op k_mv ?_
 refine s_op (k_bsK [97, 98]) ?_
 refine s_op k_mark ?_
 refine s_op (k_call [1] (con := put_ok_c M20 C20 [97, 98] 7 0 (by omega) (by decide) hM hC hC8 (by omega)) (H' := [some ⟨true, [.ints .u8 32 M20, .ints .u8 16 C20]⟩, some ⟨true, OUTL M20 C20 7 (0 + 1)⟩, some ⟨true, INL M20 C20 7 3⟩, some ⟨true, WIN (List.replicate 64 0) 0 0⟩, none]) (hH := rfl)) ?_
 refine s_op k_mv ?_
 refine s_op k_ex ?_
 refine s_op k_ex ?_
 refine s_op k_ex ?_
 refine s_op k_as ?_
 refine s_op k_as ?_
 refine s_op k_as ?_
 refine s_nil trivial ?_
 refine n_wp ?_
 refine w_seq ?_
 rw [hX]
 refine g_reg hP hn ?_
 refine s_op k_mv ?_
 refine s_op k_mv ?_
 refine s_op (k_call [2, 3] (con := take1) (H' := [some ⟨true, [.ints .u8 32 M20, .ints .u8 16 C20]⟩, some ⟨true, OUTL M20 C20 7 (0 + 1)⟩, some ⟨true, INL M20 C20 7 3⟩, some ⟨true, WIN ((List.replicate 64 0).set (1 % 64) 1) (max 0 1) (0 + 1)⟩, none]) (hH := rfl)) ?_
 refine s_op k_mv ?_
 refine s_op k_ex ?_
 refine s_op k_ex ?_
 refine s_op k_ex ?_
 refine s_op k_as ?_
 refine s_op k_as ?_
 refine s_op k_as ?_
 refine s_nil trivial ?_
 refine n_wp ?_
 refine w_seq ?_
 refine g_reg hP hn ?_
 refine s_op k_mv ?_
 refine s_op k_mv ?_
 refine s_op (k_call [2, 3] (con := take2) (H' := [some ⟨true, [.ints .u8 32 M20, .ints .u8 16 C20]⟩, some ⟨true, OUTL M20 C20 7 (0 + 1)⟩, some ⟨true, INL M20 C20 7 3⟩, some ⟨true, WIN ((List.replicate 64 0).set (1 % 64) 1) (max 0 1) (0 + 1)⟩, none]) (hH := rfl)) ?_
 refine s_op k_mv ?_
 refine s_op k_ex ?_
 refine s_op k_ex ?_
 refine s_op k_ex ?_
 refine s_op k_as ?_
 refine s_op k_as ?_
 refine s_op k_as ?_
 refine s_nil trivial ?_
 refine n_wp ?_
 refine w_seq ?_
 refine g_reg hP hn ?_
 refine s_op k_ld ?_
 refine s_op (k_call [] (con := newin_c M20 C20 8) (v := .s (.ptr 5 0 0)) (hv := rfl) (H' := [some ⟨true, [.ints .u8 32 M20, .ints .u8 16 C20]⟩, some ⟨true, OUTL M20 C20 7 (0 + 1)⟩, some ⟨true, INL M20 C20 7 3⟩, some ⟨true, WIN ((List.replicate 64 0).set (1 % 64) 1) (max 0 1) (0 + 1)⟩, none, some ⟨true, INL M20 C20 8 6⟩, some ⟨true, WIN (List.replicate 64 0) 0 0⟩]) (hH := rfl)) ?_
 refine s_op k_mv ?_
 refine s_op (k_call [5, 6] (con := take_none_c M20 C20 X 8 _ _ _ hO (by rw [hln]; decide)) (H' := [some ⟨true, [.ints .u8 32 M20, .ints .u8 16 C20]⟩, some ⟨true, OUTL M20 C20 7 (0 + 1)⟩, some ⟨true, INL M20 C20 7 3⟩, some ⟨true, WIN ((List.replicate 64 0).set (1 % 64) 1) (max 0 1) (0 + 1)⟩, none, some ⟨true, INL M20 C20 8 6⟩, some ⟨true, WIN (List.replicate 64 0) 0 0⟩]) (hH := rfl)) ?_
 refine s_op k_mv ?_
 refine s_op k_ex ?_
 refine s_op k_ex ?_
 refine s_op k_ex ?_
 refine s_op k_as ?_
 refine s_op k_as ?_
 refine s_op k_as ?_
 refine s_nil trivial ?_
 refine n_wp ?_
 refine w_seq ?_
 refine g_reg hP hn ?_
 refine s_op k_mv ?_
 refine s_op k_eql ?_
 refine s_op k_mv ?_
 first | refine s_on rfl rfl rfl k_mv ?_ | refine s_off rfl rfl rfl ?_ | refine s_opt rfl rfl (fun hB => by rw [hB]; try simp only [Bool.or_eq_true, Bool.or_eq_false_iff, Bool.and_eq_true, Bool.not_eq_true', Bool.not_eq_false', decide_eq_true_eq, decide_eq_false_iff_not] at hB; exact k_mv) ?_
 first | refine s_on rfl rfl rfl k_eql ?_ | refine s_off rfl rfl rfl ?_ | refine s_opt rfl rfl (fun hB => by rw [hB]; try simp only [Bool.or_eq_true, Bool.or_eq_false_iff, Bool.and_eq_true, Bool.not_eq_true', Bool.not_eq_false', decide_eq_true_eq, decide_eq_false_iff_not] at hB; exact k_eql) ?_
 refine s_op k_pk ?_
 refine s_op k_mv ?_
 first | refine s_on rfl rfl rfl k_mv ?_ | refine s_off rfl rfl rfl ?_ | refine s_opt rfl rfl (fun hB => by rw [hB]; try simp only [Bool.or_eq_true, Bool.or_eq_false_iff, Bool.and_eq_true, Bool.not_eq_true', Bool.not_eq_false', decide_eq_true_eq, decide_eq_false_iff_not] at hB; exact k_mv) ?_
 first | refine s_on rfl rfl rfl k_eql ?_ | refine s_off rfl rfl rfl ?_ | refine s_opt rfl rfl (fun hB => by rw [hB]; try simp only [Bool.or_eq_true, Bool.or_eq_false_iff, Bool.and_eq_true, Bool.not_eq_true', Bool.not_eq_false', decide_eq_true_eq, decide_eq_false_iff_not] at hB; exact k_eql) ?_
 refine s_op k_pk ?_
 refine s_op k_mv ?_
 first | refine s_on rfl rfl rfl k_mv ?_ | refine s_off rfl rfl rfl ?_ | refine s_opt rfl rfl (fun hB => by rw [hB]; try simp only [Bool.or_eq_true, Bool.or_eq_false_iff, Bool.and_eq_true, Bool.not_eq_true', Bool.not_eq_false', decide_eq_true_eq, decide_eq_false_iff_not] at hB; exact k_mv) ?_
 first | refine s_on rfl rfl rfl k_eql ?_ | refine s_off rfl rfl rfl ?_ | refine s_opt rfl rfl (fun hB => by rw [hB]; try simp only [Bool.or_eq_true, Bool.or_eq_false_iff, Bool.and_eq_true, Bool.not_eq_true', Bool.not_eq_false', decide_eq_true_eq, decide_eq_false_iff_not] at hB; exact k_eql) ?_
 refine s_op k_pk ?_
 refine s_op k_mv ?_
 first | refine s_on rfl rfl rfl k_mv ?_ | refine s_off rfl rfl rfl ?_ | refine s_opt rfl rfl (fun hB => by rw [hB]; try simp only [Bool.or_eq_true, Bool.or_eq_false_iff, Bool.and_eq_true, Bool.not_eq_true', Bool.not_eq_false', decide_eq_true_eq, decide_eq_false_iff_not] at hB; exact k_mv) ?_
 first | refine s_on rfl rfl rfl k_str ?_ | refine s_off rfl rfl rfl ?_ | refine s_opt rfl rfl (fun hB => by rw [hB]; try simp only [Bool.or_eq_true, Bool.or_eq_false_iff, Bool.and_eq_true, Bool.not_eq_true', Bool.not_eq_false', decide_eq_true_eq, decide_eq_false_iff_not] at hB; exact k_str) ?_
 first | refine s_on rfl rfl rfl (by exact l_seql (r := true) rfl rfl (by kernel_rfl)) ?_ | refine s_off rfl rfl rfl ?_ | refine s_opt rfl rfl (fun hB => by rw [hB]; try simp only [Bool.or_eq_true, Bool.or_eq_false_iff, Bool.and_eq_true, Bool.not_eq_true', Bool.not_eq_false', decide_eq_true_eq, decide_eq_false_iff_not] at hB; exact by exact l_seql (r := true) rfl rfl (by kernel_rfl)) ?_
 refine s_op k_pk ?_
 refine s_op k_mv ?_
 first | refine s_on rfl rfl rfl k_mv ?_ | refine s_off rfl rfl rfl ?_ | refine s_opt rfl rfl (fun hB => by rw [hB]; try simp only [Bool.or_eq_true, Bool.or_eq_false_iff, Bool.and_eq_true, Bool.not_eq_true', Bool.not_eq_false', decide_eq_true_eq, decide_eq_false_iff_not] at hB; exact k_mv) ?_
 first | refine s_on rfl rfl rfl k_eql ?_ | refine s_off rfl rfl rfl ?_ | refine s_opt rfl rfl (fun hB => by rw [hB]; try simp only [Bool.or_eq_true, Bool.or_eq_false_iff, Bool.and_eq_true, Bool.not_eq_true', Bool.not_eq_false', decide_eq_true_eq, decide_eq_false_iff_not] at hB; exact k_eql) ?_
 refine s_op k_pk ?_
 refine s_op k_mv ?_
 first | refine s_on rfl rfl rfl k_mv ?_ | refine s_off rfl rfl rfl ?_ | refine s_opt rfl rfl (fun hB => by rw [hB]; try simp only [Bool.or_eq_true, Bool.or_eq_false_iff, Bool.and_eq_true, Bool.not_eq_true', Bool.not_eq_false', decide_eq_true_eq, decide_eq_false_iff_not] at hB; exact k_mv) ?_
 first | refine s_on rfl rfl rfl k_eql ?_ | refine s_off rfl rfl rfl ?_ | refine s_opt rfl rfl (fun hB => by rw [hB]; try simp only [Bool.or_eq_true, Bool.or_eq_false_iff, Bool.and_eq_true, Bool.not_eq_true', Bool.not_eq_false', decide_eq_true_eq, decide_eq_false_iff_not] at hB; exact k_eql) ?_
 refine s_op k_pk ?_
 refine s_op k_mv ?_
 first | refine s_on rfl rfl rfl k_mv ?_ | refine s_off rfl rfl rfl ?_ | refine s_opt rfl rfl (fun hB => by rw [hB]; try simp only [Bool.or_eq_true, Bool.or_eq_false_iff, Bool.and_eq_true, Bool.not_eq_true', Bool.not_eq_false', decide_eq_true_eq, decide_eq_false_iff_not] at hB; exact k_mv) ?_
 first | refine s_on rfl rfl rfl (k_call [1] (con := used_c M20 C20 7 (0 + 1)) (H' := [some ⟨true, [.ints .u8 32 M20, .ints .u8 16 C20]⟩, some ⟨true, OUTL M20 C20 7 (0 + 1)⟩, some ⟨true, INL M20 C20 7 3⟩, some ⟨true, WIN ((List.replicate 64 0).set (1 % 64) 1) (max 0 1) (0 + 1)⟩, none, some ⟨true, INL M20 C20 8 6⟩, some ⟨true, WIN (List.replicate 64 0) 0 0⟩]) (hH := rfl)) ?_ | refine s_off rfl rfl rfl ?_ | refine s_opt rfl rfl (fun hB => by rw [hB]; try simp only [Bool.or_eq_true, Bool.or_eq_false_iff, Bool.and_eq_true, Bool.not_eq_true', Bool.not_eq_false', decide_eq_true_eq, decide_eq_false_iff_not] at hB; exact k_call [1] (con := used_c M20 C20 7 (0 + 1)) (H' := [some ⟨true, [.ints .u8 32 M20, .ints .u8 16 C20]⟩, some ⟨true, OUTL M20 C20 7 (0 + 1)⟩, some ⟨true, INL M20 C20 7 3⟩, some ⟨true, WIN ((List.replicate 64 0).set (1 % 64) 1) (max 0 1) (0 + 1)⟩, none, some ⟨true, INL M20 C20 8 6⟩, some ⟨true, WIN (List.replicate 64 0) 0 0⟩]) (hH := rfl)) ?_
 first | refine s_on rfl rfl rfl k_eql ?_ | refine s_off rfl rfl rfl ?_ | refine s_opt rfl rfl (fun hB => by rw [hB]; try simp only [Bool.or_eq_true, Bool.or_eq_false_iff, Bool.and_eq_true, Bool.not_eq_true', Bool.not_eq_false', decide_eq_true_eq, decide_eq_false_iff_not] at hB; exact k_eql) ?_
 refine s_op k_pk ?_
 refine s_op k_mv ?_
 first | refine s_on rfl rfl rfl k_mv ?_ | refine s_off rfl rfl rfl ?_ | refine s_opt rfl rfl (fun hB => by rw [hB]; try simp only [Bool.or_eq_true, Bool.or_eq_false_iff, Bool.and_eq_true, Bool.not_eq_true', Bool.not_eq_false', decide_eq_true_eq, decide_eq_false_iff_not] at hB; exact k_mv) ?_
 first | refine s_on rfl rfl rfl (k_call [2, 3] (con := came_c M20 C20 7 _ _ (0 + 1)) (H' := [some ⟨true, [.ints .u8 32 M20, .ints .u8 16 C20]⟩, some ⟨true, OUTL M20 C20 7 (0 + 1)⟩, some ⟨true, INL M20 C20 7 3⟩, some ⟨true, WIN ((List.replicate 64 0).set (1 % 64) 1) (max 0 1) (0 + 1)⟩, none, some ⟨true, INL M20 C20 8 6⟩, some ⟨true, WIN (List.replicate 64 0) 0 0⟩]) (hH := rfl)) ?_ | refine s_off rfl rfl rfl ?_ | refine s_opt rfl rfl (fun hB => by rw [hB]; try simp only [Bool.or_eq_true, Bool.or_eq_false_iff, Bool.and_eq_true, Bool.not_eq_true', Bool.not_eq_false', decide_eq_true_eq, decide_eq_false_iff_not] at hB; exact k_call [2, 3] (con := came_c M20 C20 7 _ _ (0 + 1)) (H' := [some ⟨true, [.ints .u8 32 M20, .ints .u8 16 C20]⟩, some ⟨true, OUTL M20 C20 7 (0 + 1)⟩, some ⟨true, INL M20 C20 7 3⟩, some ⟨true, WIN ((List.replicate 64 0).set (1 % 64) 1) (max 0 1) (0 + 1)⟩, none, some ⟨true, INL M20 C20 8 6⟩, some ⟨true, WIN (List.replicate 64 0) 0 0⟩]) (hH := rfl)) ?_
 first | refine s_on rfl rfl rfl k_eql ?_ | refine s_off rfl rfl rfl ?_ | refine s_opt rfl rfl (fun hB => by rw [hB]; try simp only [Bool.or_eq_true, Bool.or_eq_false_iff, Bool.and_eq_true, Bool.not_eq_true', Bool.not_eq_false', decide_eq_true_eq, decide_eq_false_iff_not] at hB; exact k_eql) ?_
 refine s_op k_pk ?_
 refine s_op k_mv ?_
 first | refine s_on rfl rfl rfl k_mv ?_ | refine s_off rfl rfl rfl ?_ | refine s_opt rfl rfl (fun hB => by rw [hB]; try simp only [Bool.or_eq_true, Bool.or_eq_false_iff, Bool.and_eq_true, Bool.not_eq_true', Bool.not_eq_false', decide_eq_true_eq, decide_eq_false_iff_not] at hB; exact k_mv) ?_
 first | refine s_on rfl rfl rfl (k_call [2, 3] (con := inlane_c M20 C20 7 _ _ _) (H' := [some ⟨true, [.ints .u8 32 M20, .ints .u8 16 C20]⟩, some ⟨true, OUTL M20 C20 7 (0 + 1)⟩, some ⟨true, INL M20 C20 7 3⟩, some ⟨true, WIN ((List.replicate 64 0).set (1 % 64) 1) (max 0 1) (0 + 1)⟩, none, some ⟨true, INL M20 C20 8 6⟩, some ⟨true, WIN (List.replicate 64 0) 0 0⟩]) (hH := rfl)) ?_ | refine s_off rfl rfl rfl ?_ | refine s_opt rfl rfl (fun hB => by rw [hB]; try simp only [Bool.or_eq_true, Bool.or_eq_false_iff, Bool.and_eq_true, Bool.not_eq_true', Bool.not_eq_false', decide_eq_true_eq, decide_eq_false_iff_not] at hB; exact k_call [2, 3] (con := inlane_c M20 C20 7 _ _ _) (H' := [some ⟨true, [.ints .u8 32 M20, .ints .u8 16 C20]⟩, some ⟨true, OUTL M20 C20 7 (0 + 1)⟩, some ⟨true, INL M20 C20 7 3⟩, some ⟨true, WIN ((List.replicate 64 0).set (1 % 64) 1) (max 0 1) (0 + 1)⟩, none, some ⟨true, INL M20 C20 8 6⟩, some ⟨true, WIN (List.replicate 64 0) 0 0⟩]) (hH := rfl)) ?_
 first | refine s_on rfl rfl rfl k_eql ?_ | refine s_off rfl rfl rfl ?_ | refine s_opt rfl rfl (fun hB => by rw [hB]; try simp only [Bool.or_eq_true, Bool.or_eq_false_iff, Bool.and_eq_true, Bool.not_eq_true', Bool.not_eq_false', decide_eq_true_eq, decide_eq_false_iff_not] at hB; exact k_eql) ?_
 refine s_op k_pk ?_
 refine s_op k_as ?_
 refine s_nil trivial ?_
 refine n_wp ?_
 refine w_ret ?_
 exact d_ret hP hn hE [] (by first | exact r_tmp Try.results4 | exact r_tmpa Try.results4)

end Go.Proofs.X
