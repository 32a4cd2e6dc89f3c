/- A part of the proofs of this claim: BBok4, BStr4. No conditions. -/
import Derived.Test.YtokgpammicpahaaGreatDoorA7
import Derived.Test.YtokgpammicpahaaGreatDoorA6
set_option linter.unusedVariables false
set_option linter.unusedSimpArgs false
section
open Go Go.Bx Go.Proofs
namespace Go.Proofs.X
set_option maxRecDepth 100000
set_option maxHeartbeats 4000000
theorem bk_J {n : Int} {u : SV} (j : Nat) (h0 : 0 < j) (h1 : j < 15) : ∀ i x, i < 16 → atS [.one (.int .i64 n), .one u, .one .nils, .one .nils, .one .nils, .one .nils, .one .nils, .one .nils, .one .nils, .one .nils, .one .nils, .one .nils, .one .nils, .one .nils, .one .nils, .one .nils] i = some x → (fun k => if k = j + 1 then SV.nils else SV.junk) i = .junk ∨ ((fun k => if k = j + 1 then SV.nils else SV.junk) i = x ∧ x.idB (fun _ => false) = true) := by
  intro i x hi hx
  by_cases h : i = j + 1
  · subst h
    right
    have e : x = .nils := by
      rcases j with _|_|_|_|_|_|_|_|_|_|_|_|_|_|_|j
      · omega
      all_goals first | omega | (have := Option.some.inj hx; exact this.symm)
    subst e
    simp [SV.idB]
  · left; simp [h]

theorem apart_AB (X0 : List Int) (hX0 : X0.length ≤ 100000) (X1 : List Int) (hX1 : X1.length ≤ 100000) : Con Tryz.prog 14 [.s (.ptr 0 0 0)] [some ⟨true, [.one (.int .i64 ((2 : Nat) : Int)), .one (.gro 3 3 2), .one .nils, .one .nils, .one .nils, .one .nils, .one .nils, .one .nils, .one .nils, .one .nils, .one .nils, .one .nils, .one .nils, .one .nils, .one .nils, .one .nils]⟩, some ⟨true, [.ints .u8 (X0.length + 1) (X0 ++ [77])]⟩, some ⟨true, [.ints .u8 X1.length X1]⟩, some ⟨true, [.one (.slice 1 0 0 X0.length (X0.length + 1)), .one .nils, .one (.int .i64 ((1 : Nat) : Int)), .one (.slice 2 0 0 X1.length X1.length), .one .nils, .one (.int .i64 ((2 : Nat) : Int))]⟩] (.s (.bool true)) [some ⟨true, [.one (.int .i64 ((2 : Nat) : Int)), .one (.gro 3 3 2), .one .nils, .one .nils, .one .nils, .one .nils, .one .nils, .one .nils, .one .nils, .one .nils, .one .nils, .one .nils, .one .nils, .one .nils, .one .nils, .one .nils]⟩, some ⟨true, [.ints .u8 (X0.length + 1) (List.replicate (X0.length + 1) 1)]⟩, some ⟨true, [.ints .u8 X1.length (List.replicate X1.length 2)]⟩, some ⟨true, [.one (.slice 1 0 0 X0.length (X0.length + 1)), .one (.gro 4 1 (X0.length + 40)), .one (.int .i64 ((1 : Nat) : Int)), .one (.slice 2 0 0 X1.length X1.length), .one (.gro 5 1 (X1.length + 40)), .one (.int .i64 ((2 : Nat) : Int))]⟩, some ⟨true, [.ints .u8 (X0.length + 40) (List.replicate (X0.length + 40) 1)]⟩, some ⟨true, [.ints .u8 (X1.length + 40) (List.replicate (X1.length + 40) 2)]⟩] := by
 refine con_in 121 Tryz.func14 rfl rfl (m := 4) rfl ?_
 intro E hP hn hE
 refine w_seq ?_
 refine g_reg hP hn ?_
 refine s_op k_as ?_
 refine s_nil trivial ?_
 refine n_wp ?_
 refine w_seq ?_
 refine g_reg hP hn ?_
 refine s_op k_mv ?_
 refine s_op (k_call [0, 1, 2, 3] (con := fill_AB X0 hX0 X1 hX1) (H' := [some ⟨true, [.one (.int .i64 ((2 : Nat) : Int)), .one (.gro 3 3 2), .one .nils, .one .nils, .one .nils, .one .nils, .one .nils, .one .nils, .one .nils, .one .nils, .one .nils, .one .nils, .one .nils, .one .nils, .one .nils, .one .nils]⟩, some ⟨true, [.ints .u8 (X0.length + 1) (List.replicate X0.length 1 ++ [77])]⟩, some ⟨true, [.ints .u8 X1.length (List.replicate X1.length 2)]⟩, some ⟨true, [.one (.slice 1 0 0 X0.length (X0.length + 1)), .one .nils, .one (.int .i64 ((1 : Nat) : Int)), .one (.slice 2 0 0 X1.length X1.length), .one .nils, .one (.int .i64 ((2 : Nat) : Int))]⟩]) (hH := by kernel_rfl)) ?_
 refine s_nil trivial ?_
 refine n_wp ?_
 refine w_seq ?_
 refine g_reg hP hn ?_
 refine s_op k_mv ?_
 refine s_op (k_tmp 0 (h := k_call [] (con := fillInt_0) (hargs := by exact .cons rfl (conv_ptrJ (by rfl) rfl rfl (bk_J 1 (by decide) (by decide))) .nil))) ?_
 refine s_nil trivial ?_
 refine n_wp ?_
 refine w_seq ?_
 refine g_reg hP hn ?_
 refine s_op k_mv ?_
 refine s_op (k_tmp 0 (h := k_call [] (con := fillText_0) (hargs := by exact .cons rfl (conv_ptrJ (by rfl) rfl rfl (bk_J 2 (by decide) (by decide))) .nil))) ?_
 refine s_nil trivial ?_
 refine n_wp ?_
 refine w_seq ?_
 refine g_reg hP hn ?_
 refine s_op k_mv ?_
 refine s_op (k_tmp 0 (h := k_call [] (con := fillNum_0) (hargs := by exact .cons rfl (conv_ptrJ (by rfl) rfl rfl (bk_J 3 (by decide) (by decide))) .nil))) ?_
 refine s_nil trivial ?_
 refine n_wp ?_
 refine w_seq ?_
 refine g_reg hP hn ?_
 refine s_op k_mv ?_
 refine s_op (k_tmp 0 (h := k_call [] (con := fillSum_0) (hargs := by exact .cons rfl (conv_ptrJ (by rfl) rfl rfl (bk_J 4 (by decide) (by decide))) .nil))) ?_
 refine s_nil trivial ?_
 refine n_wp ?_
 refine w_seq ?_
 refine w_weak (weak_tm (T' := [(0, .s (.ptr 0 0 0))])) ?_
 refine g_reg hP hn ?_
 refine s_op k_mv ?_
 refine s_op (k_tmp 0 (h := k_call [] (con := fillTag_0) (hargs := by exact .cons rfl (conv_ptrJ (by rfl) rfl rfl (bk_J 5 (by decide) (by decide))) .nil))) ?_
 refine s_nil trivial ?_
 refine n_wp ?_
 refine w_seq ?_
 refine g_reg hP hn ?_
 refine s_op k_mv ?_
 refine s_op (k_tmp 0 (h := k_call [] (con := fillSpot_0) (hargs := by exact .cons rfl (conv_ptrJ (by rfl) rfl rfl (bk_J 6 (by decide) (by decide))) .nil))) ?_
 refine s_nil trivial ?_
 refine n_wp ?_
 refine w_seq ?_
 refine g_reg hP hn ?_
 refine s_op k_mv ?_
 refine s_op (k_tmp 0 (h := k_call [] (con := fillGen_0) (hargs := by exact .cons rfl (conv_ptrJ (by rfl) rfl rfl (bk_J 7 (by decide) (by decide))) .nil))) ?_
 refine s_nil trivial ?_
 refine n_wp ?_
 refine w_seq ?_
 refine g_reg hP hn ?_
 refine s_op k_mv ?_
 refine s_op (k_tmp 0 (h := k_call [] (con := fillLane_0) (hargs := by exact .cons rfl (conv_ptrJ (by rfl) rfl rfl (bk_J 8 (by decide) (by decide))) .nil))) ?_
 refine s_nil trivial ?_
 refine n_wp ?_
 refine w_seq ?_
 refine g_reg hP hn ?_
 refine s_op k_mv ?_
 refine s_op (k_tmp 0 (h := k_call [] (con := fillParam_0) (hargs := by exact .cons rfl (conv_ptrJ (by rfl) rfl rfl (bk_J 9 (by decide) (by decide))) .nil))) ?_
 refine s_nil trivial ?_
 refine n_wp ?_
 refine w_seq ?_
 refine w_weak (weak_tm (T' := [(0, .s (.ptr 0 0 0))])) ?_
 refine g_reg hP hn ?_
 refine s_op k_mv ?_
 refine s_op (k_tmp 0 (h := k_call [] (con := fillPacket_0) (hargs := by exact .cons rfl (conv_ptrJ (by rfl) rfl rfl (bk_J 10 (by decide) (by decide))) .nil))) ?_
 refine s_nil trivial ?_
 refine n_wp ?_
 refine w_seq ?_
 refine g_reg hP hn ?_
 refine s_op k_mv ?_
 refine s_op (k_tmp 0 (h := k_call [] (con := fillFrame_0) (hargs := by exact .cons rfl (conv_ptrJ (by rfl) rfl rfl (bk_J 11 (by decide) (by decide))) .nil))) ?_
 refine s_nil trivial ?_
 refine n_wp ?_
 refine w_seq ?_
 refine g_reg hP hn ?_
 refine s_op k_mv ?_
 refine s_op (k_tmp 0 (h := k_call [] (con := fillMail_0) (hargs := by exact .cons rfl (conv_ptrJ (by rfl) rfl rfl (bk_J 12 (by decide) (by decide))) .nil))) ?_
 refine s_nil trivial ?_
 refine n_wp ?_
 refine w_seq ?_
 refine g_reg hP hn ?_
 refine s_op k_mv ?_
 refine s_op (k_tmp 0 (h := k_call [] (con := fillSession_0) (hargs := by exact .cons rfl (conv_ptrJ (by rfl) rfl rfl (bk_J 13 (by decide) (by decide))) .nil))) ?_
 refine s_nil trivial ?_
 refine n_wp ?_
 refine w_seq ?_
 refine g_reg hP hn ?_
 refine s_op k_mv ?_
 refine s_op (k_tmp 0 (h := k_call [] (con := fillRecord_0) (hargs := by exact .cons rfl (conv_ptrJ (by rfl) rfl rfl (bk_J 14 (by decide) (by decide))) .nil))) ?_
 refine s_nil trivial ?_
 refine n_wp ?_
 refine w_seq ?_
 refine w_weak (weak_tm (T' := [(0, .s (.ptr 0 0 0))])) ?_
 refine g_reg hP hn ?_
 refine s_op k_mv ?_
 refine s_op (k_call [0, 1, 2, 3] (con := grow_AB X0 hX0 X1 hX1) (H' := [some ⟨true, [.one (.int .i64 ((2 : Nat) : Int)), .one (.gro 3 3 2), .one .nils, .one .nils, .one .nils, .one .nils, .one .nils, .one .nils, .one .nils, .one .nils, .one .nils, .one .nils, .one .nils, .one .nils, .one .nils, .one .nils]⟩, some ⟨true, [.ints .u8 (X0.length + 1) (List.replicate (X0.length + 1) 1)]⟩, some ⟨true, [.ints .u8 X1.length (List.replicate X1.length 2)]⟩, some ⟨true, [.one (.slice 1 0 0 X0.length (X0.length + 1)), .one (.gro 4 1 (X0.length + 40)), .one (.int .i64 ((1 : Nat) : Int)), .one (.slice 2 0 0 X1.length X1.length), .one (.gro 5 1 (X1.length + 40)), .one (.int .i64 ((2 : Nat) : Int))]⟩, some ⟨true, [.ints .u8 (X0.length + 40) (List.replicate (X0.length + 40) 1)]⟩, some ⟨true, [.ints .u8 (X1.length + 40) (List.replicate (X1.length + 40) 2)]⟩]) (hH := by kernel_rfl)) ?_
 refine s_nil trivial ?_
 refine n_wp ?_
 refine w_seq ?_
 refine g_reg hP hn ?_
 refine s_op k_mv ?_
 refine s_op (k_tmp 0 (h := k_call [] (con := growInt_0) (hargs := by exact .cons rfl (conv_ptrJ (by rfl) rfl rfl (bk_J 1 (by decide) (by decide))) .nil))) ?_
 refine s_nil trivial ?_
 refine n_wp ?_
 refine w_seq ?_
 refine g_reg hP hn ?_
 refine s_op k_mv ?_
 refine s_op (k_tmp 0 (h := k_call [] (con := growText_0) (hargs := by exact .cons rfl (conv_ptrJ (by rfl) rfl rfl (bk_J 2 (by decide) (by decide))) .nil))) ?_
 refine s_nil trivial ?_
 refine n_wp ?_
 refine w_seq ?_
 refine g_reg hP hn ?_
 refine s_op k_mv ?_
 refine s_op (k_tmp 0 (h := k_call [] (con := growNum_0) (hargs := by exact .cons rfl (conv_ptrJ (by rfl) rfl rfl (bk_J 3 (by decide) (by decide))) .nil))) ?_
 refine s_nil trivial ?_
 refine n_wp ?_
 refine w_seq ?_
 refine g_reg hP hn ?_
 refine s_op k_mv ?_
 refine s_op (k_tmp 0 (h := k_call [] (con := growSum_0) (hargs := by exact .cons rfl (conv_ptrJ (by rfl) rfl rfl (bk_J 4 (by decide) (by decide))) .nil))) ?_
 refine s_nil trivial ?_
 refine n_wp ?_
 refine w_seq ?_
 refine w_weak (weak_tm (T' := [(0, .s (.ptr 0 0 0))])) ?_
 refine g_reg hP hn ?_
 refine s_op k_mv ?_
 refine s_op (k_tmp 0 (h := k_call [] (con := growTag_0) (hargs := by exact .cons rfl (conv_ptrJ (by rfl) rfl rfl (bk_J 5 (by decide) (by decide))) .nil))) ?_
 refine s_nil trivial ?_
 refine n_wp ?_
 refine w_seq ?_
 refine g_reg hP hn ?_
 refine s_op k_mv ?_
 refine s_op (k_tmp 0 (h := k_call [] (con := growSpot_0) (hargs := by exact .cons rfl (conv_ptrJ (by rfl) rfl rfl (bk_J 6 (by decide) (by decide))) .nil))) ?_
 refine s_nil trivial ?_
 refine n_wp ?_
 refine w_seq ?_
 refine g_reg hP hn ?_
 refine s_op k_mv ?_
 refine s_op (k_tmp 0 (h := k_call [] (con := growGen_0) (hargs := by exact .cons rfl (conv_ptrJ (by rfl) rfl rfl (bk_J 7 (by decide) (by decide))) .nil))) ?_
 refine s_nil trivial ?_
 refine n_wp ?_
 refine w_seq ?_
 refine g_reg hP hn ?_
 refine s_op k_mv ?_
 refine s_op (k_tmp 0 (h := k_call [] (con := growLane_0) (hargs := by exact .cons rfl (conv_ptrJ (by rfl) rfl rfl (bk_J 8 (by decide) (by decide))) .nil))) ?_
 refine s_nil trivial ?_
 refine n_wp ?_
 refine w_seq ?_
 refine g_reg hP hn ?_
 refine s_op k_mv ?_
 refine s_op (k_tmp 0 (h := k_call [] (con := growParam_0) (hargs := by exact .cons rfl (conv_ptrJ (by rfl) rfl rfl (bk_J 9 (by decide) (by decide))) .nil))) ?_
 refine s_nil trivial ?_
 refine n_wp ?_
 refine w_seq ?_
 refine w_weak (weak_tm (T' := [(0, .s (.ptr 0 0 0))])) ?_
 refine g_reg hP hn ?_
 refine s_op k_mv ?_
 refine s_op (k_tmp 0 (h := k_call [] (con := growPacket_0) (hargs := by exact .cons rfl (conv_ptrJ (by rfl) rfl rfl (bk_J 10 (by decide) (by decide))) .nil))) ?_
 refine s_nil trivial ?_
 refine n_wp ?_
 refine w_seq ?_
 refine g_reg hP hn ?_
 refine s_op k_mv ?_
 refine s_op (k_tmp 0 (h := k_call [] (con := growFrame_0) (hargs := by exact .cons rfl (conv_ptrJ (by rfl) rfl rfl (bk_J 11 (by decide) (by decide))) .nil))) ?_
 refine s_nil trivial ?_
 refine n_wp ?_
 refine w_seq ?_
 refine g_reg hP hn ?_
 refine s_op k_mv ?_
 refine s_op (k_tmp 0 (h := k_call [] (con := growMail_0) (hargs := by exact .cons rfl (conv_ptrJ (by rfl) rfl rfl (bk_J 12 (by decide) (by decide))) .nil))) ?_
 refine s_nil trivial ?_
 refine n_wp ?_
 refine w_seq ?_
 refine g_reg hP hn ?_
 refine s_op k_mv ?_
 refine s_op (k_tmp 0 (h := k_call [] (con := growSession_0) (hargs := by exact .cons rfl (conv_ptrJ (by rfl) rfl rfl (bk_J 13 (by decide) (by decide))) .nil))) ?_
 refine s_nil trivial ?_
 refine n_wp ?_
 refine w_seq ?_
 refine g_reg hP hn ?_
 refine s_op k_mv ?_
 refine s_op (k_tmp 0 (h := k_call [] (con := growRecord_0) (hargs := by exact .cons rfl (conv_ptrJ (by rfl) rfl rfl (bk_J 14 (by decide) (by decide))) .nil))) ?_
 refine s_nil trivial ?_
 refine n_wp ?_
 refine w_seq ?_
 refine w_weak (weak_tm (T' := [(0, .s (.ptr 0 0 0))])) ?_
 refine g_reg hP hn ?_
 refine s_op k_mv ?_
 refine s_op (k_call [0, 1, 2, 3, 4, 5] (con := look_AB X0 hX0 X1 hX1)) ?_
 refine s_op k_mv ?_
 refine s_on rfl rfl rfl k_mv ?_
 refine s_on rfl rfl rfl (k_tmp 0 (h := k_call [] (con := lookInt_0) (hargs := by exact .cons rfl (conv_ptrJ (by rfl) rfl rfl (bk_J 1 (by decide) (by decide))) .nil))) ?_
 refine s_op k_pk ?_
 refine s_op k_mv ?_
 refine s_on rfl rfl rfl k_mv ?_
 refine s_on rfl rfl rfl (k_tmp 0 (h := k_call [] (con := lookText_0) (hargs := by exact .cons rfl (conv_ptrJ (by rfl) rfl rfl (bk_J 2 (by decide) (by decide))) .nil))) ?_
 refine s_op k_pk ?_
 refine s_op k_mv ?_
 refine s_on rfl rfl rfl k_mv ?_
 refine s_on rfl rfl rfl (k_tmp 0 (h := k_call [] (con := lookNum_0) (hargs := by exact .cons rfl (conv_ptrJ (by rfl) rfl rfl (bk_J 3 (by decide) (by decide))) .nil))) ?_
 refine s_op k_pk ?_
 refine s_op k_mv ?_
 refine s_on rfl rfl rfl k_mv ?_
 refine s_on rfl rfl rfl (k_tmp 0 (h := k_call [] (con := lookSum_0) (hargs := by exact .cons rfl (conv_ptrJ (by rfl) rfl rfl (bk_J 4 (by decide) (by decide))) .nil))) ?_
 refine s_op k_pk ?_
 refine s_op k_mv ?_
 refine s_on rfl rfl rfl k_mv ?_
 refine s_on rfl rfl rfl (k_tmp 0 (h := k_call [] (con := lookTag_0) (hargs := by exact .cons rfl (conv_ptrJ (by rfl) rfl rfl (bk_J 5 (by decide) (by decide))) .nil))) ?_
 refine s_op k_pk ?_
 refine s_op k_mv ?_
 refine s_on rfl rfl rfl k_mv ?_
 refine s_on rfl rfl rfl (k_tmp 0 (h := k_call [] (con := lookSpot_0) (hargs := by exact .cons rfl (conv_ptrJ (by rfl) rfl rfl (bk_J 6 (by decide) (by decide))) .nil))) ?_
 refine s_op k_pk ?_
 refine s_op k_mv ?_
 refine s_on rfl rfl rfl k_mv ?_
 refine s_on rfl rfl rfl (k_tmp 0 (h := k_call [] (con := lookGen_0) (hargs := by exact .cons rfl (conv_ptrJ (by rfl) rfl rfl (bk_J 7 (by decide) (by decide))) .nil))) ?_
 refine s_op k_pk ?_
 refine s_op k_mv ?_
 refine s_on rfl rfl rfl k_mv ?_
 refine s_on rfl rfl rfl (k_tmp 0 (h := k_call [] (con := lookLane_0) (hargs := by exact .cons rfl (conv_ptrJ (by rfl) rfl rfl (bk_J 8 (by decide) (by decide))) .nil))) ?_
 refine s_op k_pk ?_
 refine s_op k_mv ?_
 refine s_on rfl rfl rfl k_mv ?_
 refine s_on rfl rfl rfl (k_tmp 0 (h := k_call [] (con := lookParam_0) (hargs := by exact .cons rfl (conv_ptrJ (by rfl) rfl rfl (bk_J 9 (by decide) (by decide))) .nil))) ?_
 refine s_op k_pk ?_
 refine s_op k_mv ?_
 refine s_on rfl rfl rfl k_mv ?_
 refine s_on rfl rfl rfl (k_tmp 0 (h := k_call [] (con := lookPacket_0) (hargs := by exact .cons rfl (conv_ptrJ (by rfl) rfl rfl (bk_J 10 (by decide) (by decide))) .nil))) ?_
 refine s_op k_pk ?_
 refine s_op k_mv ?_
 refine s_on rfl rfl rfl k_mv ?_
 refine s_on rfl rfl rfl (k_tmp 0 (h := k_call [] (con := lookFrame_0) (hargs := by exact .cons rfl (conv_ptrJ (by rfl) rfl rfl (bk_J 11 (by decide) (by decide))) .nil))) ?_
 refine s_op k_pk ?_
 refine s_op k_mv ?_
 refine s_on rfl rfl rfl k_mv ?_
 refine s_on rfl rfl rfl (k_tmp 0 (h := k_call [] (con := lookMail_0) (hargs := by exact .cons rfl (conv_ptrJ (by rfl) rfl rfl (bk_J 12 (by decide) (by decide))) .nil))) ?_
 refine s_op k_pk ?_
 refine s_op k_mv ?_
 refine s_on rfl rfl rfl k_mv ?_
 refine s_on rfl rfl rfl (k_tmp 0 (h := k_call [] (con := lookSession_0) (hargs := by exact .cons rfl (conv_ptrJ (by rfl) rfl rfl (bk_J 13 (by decide) (by decide))) .nil))) ?_
 refine s_op k_pk ?_
 refine s_op k_mv ?_
 refine s_on rfl rfl rfl k_mv ?_
 refine s_on rfl rfl rfl (k_tmp 0 (h := k_call [] (con := lookRecord_0) (hargs := by exact .cons rfl (conv_ptrJ (by rfl) rfl rfl (bk_J 14 (by decide) (by decide))) .nil))) ?_
 refine s_op k_pk ?_
 refine s_op k_as ?_
 refine s_nil trivial ?_
 refine n_wp ?_
 refine w_ret ?_
 exact d_ret hP hn hE [0, 1, 2, 3, 4, 5] (by first | exact r_tmp Tryz.results14 | exact r_tmpa Tryz.results14)

theorem apart_AC (X0 : List Int) (hX0 : X0.length ≤ 100000) : Con Tryz.prog 14 [.s (.ptr 0 0 0)] [some ⟨true, [.one (.int .i64 ((2 : Nat) : Int)), .one (.gro 2 3 2), .one .nils, .one .nils, .one .nils, .one .nils, .one .nils, .one .nils, .one .nils, .one .nils, .one .nils, .one .nils, .one .nils, .one .nils, .one .nils, .one .nils]⟩, some ⟨true, [.ints .u8 (X0.length + 1) (X0 ++ [77])]⟩, some ⟨true, [.one (.slice 1 0 0 X0.length (X0.length + 1)), .one .nils, .one (.int .i64 ((1 : Nat) : Int)), .one .nils, .one .nils, .one (.int .i64 ((2 : Nat) : Int))]⟩] (.s (.bool true)) [some ⟨true, [.one (.int .i64 ((2 : Nat) : Int)), .one (.gro 2 3 2), .one .nils, .one .nils, .one .nils, .one .nils, .one .nils, .one .nils, .one .nils, .one .nils, .one .nils, .one .nils, .one .nils, .one .nils, .one .nils, .one .nils]⟩, some ⟨true, [.ints .u8 (X0.length + 1) (List.replicate (X0.length + 1) 1)]⟩, some ⟨true, [.one (.slice 1 0 0 X0.length (X0.length + 1)), .one (.gro 3 1 (X0.length + 40)), .one (.int .i64 ((1 : Nat) : Int)), .one .nils, .one (.gro 4 1 (0 + 40)), .one (.int .i64 ((2 : Nat) : Int))]⟩, some ⟨true, [.ints .u8 (X0.length + 40) (List.replicate (X0.length + 40) 1)]⟩, some ⟨true, [.ints .u8 (0 + 40) (List.replicate (0 + 40) 2)]⟩] := by
 refine con_in 121 Tryz.func14 rfl rfl (m := 3) rfl ?_
 intro E hP hn hE
 refine w_seq ?_
 refine g_reg hP hn ?_
 refine s_op k_as ?_
 refine s_nil trivial ?_
 refine n_wp ?_
 refine w_seq ?_
 refine g_reg hP hn ?_
 refine s_op k_mv ?_
 refine s_op (k_call [0, 1, 2] (con := fill_AC X0 hX0) (H' := [some ⟨true, [.one (.int .i64 ((2 : Nat) : Int)), .one (.gro 2 3 2), .one .nils, .one .nils, .one .nils, .one .nils, .one .nils, .one .nils, .one .nils, .one .nils, .one .nils, .one .nils, .one .nils, .one .nils, .one .nils, .one .nils]⟩, some ⟨true, [.ints .u8 (X0.length + 1) (List.replicate X0.length 1 ++ [77])]⟩, some ⟨true, [.one (.slice 1 0 0 X0.length (X0.length + 1)), .one .nils, .one (.int .i64 ((1 : Nat) : Int)), .one .nils, .one .nils, .one (.int .i64 ((2 : Nat) : Int))]⟩]) (hH := by kernel_rfl)) ?_
 refine s_nil trivial ?_
 refine n_wp ?_
 refine w_seq ?_
 refine g_reg hP hn ?_
 refine s_op k_mv ?_
 refine s_op (k_tmp 0 (h := k_call [] (con := fillInt_0) (hargs := by exact .cons rfl (conv_ptrJ (by rfl) rfl rfl (bk_J 1 (by decide) (by decide))) .nil))) ?_
 refine s_nil trivial ?_
 refine n_wp ?_
 refine w_seq ?_
 refine g_reg hP hn ?_
 refine s_op k_mv ?_
 refine s_op (k_tmp 0 (h := k_call [] (con := fillText_0) (hargs := by exact .cons rfl (conv_ptrJ (by rfl) rfl rfl (bk_J 2 (by decide) (by decide))) .nil))) ?_
 refine s_nil trivial ?_
 refine n_wp ?_
 refine w_seq ?_
 refine g_reg hP hn ?_
 refine s_op k_mv ?_
 refine s_op (k_tmp 0 (h := k_call [] (con := fillNum_0) (hargs := by exact .cons rfl (conv_ptrJ (by rfl) rfl rfl (bk_J 3 (by decide) (by decide))) .nil))) ?_
 refine s_nil trivial ?_
 refine n_wp ?_
 refine w_seq ?_
 refine g_reg hP hn ?_
 refine s_op k_mv ?_
 refine s_op (k_tmp 0 (h := k_call [] (con := fillSum_0) (hargs := by exact .cons rfl (conv_ptrJ (by rfl) rfl rfl (bk_J 4 (by decide) (by decide))) .nil))) ?_
 refine s_nil trivial ?_
 refine n_wp ?_
 refine w_seq ?_
 refine w_weak (weak_tm (T' := [(0, .s (.ptr 0 0 0))])) ?_
 refine g_reg hP hn ?_
 refine s_op k_mv ?_
 refine s_op (k_tmp 0 (h := k_call [] (con := fillTag_0) (hargs := by exact .cons rfl (conv_ptrJ (by rfl) rfl rfl (bk_J 5 (by decide) (by decide))) .nil))) ?_
 refine s_nil trivial ?_
 refine n_wp ?_
 refine w_seq ?_
 refine g_reg hP hn ?_
 refine s_op k_mv ?_
 refine s_op (k_tmp 0 (h := k_call [] (con := fillSpot_0) (hargs := by exact .cons rfl (conv_ptrJ (by rfl) rfl rfl (bk_J 6 (by decide) (by decide))) .nil))) ?_
 refine s_nil trivial ?_
 refine n_wp ?_
 refine w_seq ?_
 refine g_reg hP hn ?_
 refine s_op k_mv ?_
 refine s_op (k_tmp 0 (h := k_call [] (con := fillGen_0) (hargs := by exact .cons rfl (conv_ptrJ (by rfl) rfl rfl (bk_J 7 (by decide) (by decide))) .nil))) ?_
 refine s_nil trivial ?_
 refine n_wp ?_
 refine w_seq ?_
 refine g_reg hP hn ?_
 refine s_op k_mv ?_
 refine s_op (k_tmp 0 (h := k_call [] (con := fillLane_0) (hargs := by exact .cons rfl (conv_ptrJ (by rfl) rfl rfl (bk_J 8 (by decide) (by decide))) .nil))) ?_
 refine s_nil trivial ?_
 refine n_wp ?_
 refine w_seq ?_
 refine g_reg hP hn ?_
 refine s_op k_mv ?_
 refine s_op (k_tmp 0 (h := k_call [] (con := fillParam_0) (hargs := by exact .cons rfl (conv_ptrJ (by rfl) rfl rfl (bk_J 9 (by decide) (by decide))) .nil))) ?_
 refine s_nil trivial ?_
 refine n_wp ?_
 refine w_seq ?_
 refine w_weak (weak_tm (T' := [(0, .s (.ptr 0 0 0))])) ?_
 refine g_reg hP hn ?_
 refine s_op k_mv ?_
 refine s_op (k_tmp 0 (h := k_call [] (con := fillPacket_0) (hargs := by exact .cons rfl (conv_ptrJ (by rfl) rfl rfl (bk_J 10 (by decide) (by decide))) .nil))) ?_
 refine s_nil trivial ?_
 refine n_wp ?_
 refine w_seq ?_
 refine g_reg hP hn ?_
 refine s_op k_mv ?_
 refine s_op (k_tmp 0 (h := k_call [] (con := fillFrame_0) (hargs := by exact .cons rfl (conv_ptrJ (by rfl) rfl rfl (bk_J 11 (by decide) (by decide))) .nil))) ?_
 refine s_nil trivial ?_
 refine n_wp ?_
 refine w_seq ?_
 refine g_reg hP hn ?_
 refine s_op k_mv ?_
 refine s_op (k_tmp 0 (h := k_call [] (con := fillMail_0) (hargs := by exact .cons rfl (conv_ptrJ (by rfl) rfl rfl (bk_J 12 (by decide) (by decide))) .nil))) ?_
 refine s_nil trivial ?_
 refine n_wp ?_
 refine w_seq ?_
 refine g_reg hP hn ?_
 refine s_op k_mv ?_
 refine s_op (k_tmp 0 (h := k_call [] (con := fillSession_0) (hargs := by exact .cons rfl (conv_ptrJ (by rfl) rfl rfl (bk_J 13 (by decide) (by decide))) .nil))) ?_
 refine s_nil trivial ?_
 refine n_wp ?_
 refine w_seq ?_
 refine g_reg hP hn ?_
 refine s_op k_mv ?_
 refine s_op (k_tmp 0 (h := k_call [] (con := fillRecord_0) (hargs := by exact .cons rfl (conv_ptrJ (by rfl) rfl rfl (bk_J 14 (by decide) (by decide))) .nil))) ?_
 refine s_nil trivial ?_
 refine n_wp ?_
 refine w_seq ?_
 refine w_weak (weak_tm (T' := [(0, .s (.ptr 0 0 0))])) ?_
 refine g_reg hP hn ?_
 refine s_op k_mv ?_
 refine s_op (k_call [0, 1, 2] (con := grow_AC X0 hX0) (H' := [some ⟨true, [.one (.int .i64 ((2 : Nat) : Int)), .one (.gro 2 3 2), .one .nils, .one .nils, .one .nils, .one .nils, .one .nils, .one .nils, .one .nils, .one .nils, .one .nils, .one .nils, .one .nils, .one .nils, .one .nils, .one .nils]⟩, some ⟨true, [.ints .u8 (X0.length + 1) (List.replicate (X0.length + 1) 1)]⟩, some ⟨true, [.one (.slice 1 0 0 X0.length (X0.length + 1)), .one (.gro 3 1 (X0.length + 40)), .one (.int .i64 ((1 : Nat) : Int)), .one .nils, .one (.gro 4 1 (0 + 40)), .one (.int .i64 ((2 : Nat) : Int))]⟩, some ⟨true, [.ints .u8 (X0.length + 40) (List.replicate (X0.length + 40) 1)]⟩, some ⟨true, [.ints .u8 (0 + 40) (List.replicate (0 + 40) 2)]⟩]) (hH := by kernel_rfl)) ?_
 refine s_nil trivial ?_
 refine n_wp ?_
 refine w_seq ?_
 refine g_reg hP hn ?_
 refine s_op k_mv ?_
 refine s_op (k_tmp 0 (h := k_call [] (con := growInt_0) (hargs := by exact .cons rfl (conv_ptrJ (by rfl) rfl rfl (bk_J 1 (by decide) (by decide))) .nil))) ?_
 refine s_nil trivial ?_
 refine n_wp ?_
 refine w_seq ?_
 refine g_reg hP hn ?_
 refine s_op k_mv ?_
 refine s_op (k_tmp 0 (h := k_call [] (con := growText_0) (hargs := by exact .cons rfl (conv_ptrJ (by rfl) rfl rfl (bk_J 2 (by decide) (by decide))) .nil))) ?_
 refine s_nil trivial ?_
 refine n_wp ?_
 refine w_seq ?_
 refine g_reg hP hn ?_
 refine s_op k_mv ?_
 refine s_op (k_tmp 0 (h := k_call [] (con := growNum_0) (hargs := by exact .cons rfl (conv_ptrJ (by rfl) rfl rfl (bk_J 3 (by decide) (by decide))) .nil))) ?_
 refine s_nil trivial ?_
 refine n_wp ?_
 refine w_seq ?_
 refine g_reg hP hn ?_
 refine s_op k_mv ?_
 refine s_op (k_tmp 0 (h := k_call [] (con := growSum_0) (hargs := by exact .cons rfl (conv_ptrJ (by rfl) rfl rfl (bk_J 4 (by decide) (by decide))) .nil))) ?_
 refine s_nil trivial ?_
 refine n_wp ?_
 refine w_seq ?_
 refine w_weak (weak_tm (T' := [(0, .s (.ptr 0 0 0))])) ?_
 refine g_reg hP hn ?_
 refine s_op k_mv ?_
 refine s_op (k_tmp 0 (h := k_call [] (con := growTag_0) (hargs := by exact .cons rfl (conv_ptrJ (by rfl) rfl rfl (bk_J 5 (by decide) (by decide))) .nil))) ?_
 refine s_nil trivial ?_
 refine n_wp ?_
 refine w_seq ?_
 refine g_reg hP hn ?_
 refine s_op k_mv ?_
 refine s_op (k_tmp 0 (h := k_call [] (con := growSpot_0) (hargs := by exact .cons rfl (conv_ptrJ (by rfl) rfl rfl (bk_J 6 (by decide) (by decide))) .nil))) ?_
 refine s_nil trivial ?_
 refine n_wp ?_
 refine w_seq ?_
 refine g_reg hP hn ?_
 refine s_op k_mv ?_
 refine s_op (k_tmp 0 (h := k_call [] (con := growGen_0) (hargs := by exact .cons rfl (conv_ptrJ (by rfl) rfl rfl (bk_J 7 (by decide) (by decide))) .nil))) ?_
 refine s_nil trivial ?_
 refine n_wp ?_
 refine w_seq ?_
 refine g_reg hP hn ?_
 refine s_op k_mv ?_
 refine s_op (k_tmp 0 (h := k_call [] (con := growLane_0) (hargs := by exact .cons rfl (conv_ptrJ (by rfl) rfl rfl (bk_J 8 (by decide) (by decide))) .nil))) ?_
 refine s_nil trivial ?_
 refine n_wp ?_
 refine w_seq ?_
 refine g_reg hP hn ?_
 refine s_op k_mv ?_
 refine s_op (k_tmp 0 (h := k_call [] (con := growParam_0) (hargs := by exact .cons rfl (conv_ptrJ (by rfl) rfl rfl (bk_J 9 (by decide) (by decide))) .nil))) ?_
 refine s_nil trivial ?_
 refine n_wp ?_
 refine w_seq ?_
 refine w_weak (weak_tm (T' := [(0, .s (.ptr 0 0 0))])) ?_
 refine g_reg hP hn ?_
 refine s_op k_mv ?_
 refine s_op (k_tmp 0 (h := k_call [] (con := growPacket_0) (hargs := by exact .cons rfl (conv_ptrJ (by rfl) rfl rfl (bk_J 10 (by decide) (by decide))) .nil))) ?_
 refine s_nil trivial ?_
 refine n_wp ?_
 refine w_seq ?_
 refine g_reg hP hn ?_
 refine s_op k_mv ?_
 refine s_op (k_tmp 0 (h := k_call [] (con := growFrame_0) (hargs := by exact .cons rfl (conv_ptrJ (by rfl) rfl rfl (bk_J 11 (by decide) (by decide))) .nil))) ?_
 refine s_nil trivial ?_
 refine n_wp ?_
 refine w_seq ?_
 refine g_reg hP hn ?_
 refine s_op k_mv ?_
 refine s_op (k_tmp 0 (h := k_call [] (con := growMail_0) (hargs := by exact .cons rfl (conv_ptrJ (by rfl) rfl rfl (bk_J 12 (by decide) (by decide))) .nil))) ?_
 refine s_nil trivial ?_
 refine n_wp ?_
 refine w_seq ?_
 refine g_reg hP hn ?_
 refine s_op k_mv ?_
 refine s_op (k_tmp 0 (h := k_call [] (con := growSession_0) (hargs := by exact .cons rfl (conv_ptrJ (by rfl) rfl rfl (bk_J 13 (by decide) (by decide))) .nil))) ?_
 refine s_nil trivial ?_
 refine n_wp ?_
 refine w_seq ?_
 refine g_reg hP hn ?_
 refine s_op k_mv ?_
 refine s_op (k_tmp 0 (h := k_call [] (con := growRecord_0) (hargs := by exact .cons rfl (conv_ptrJ (by rfl) rfl rfl (bk_J 14 (by decide) (by decide))) .nil))) ?_
 refine s_nil trivial ?_
 refine n_wp ?_
 refine w_seq ?_
 refine w_weak (weak_tm (T' := [(0, .s (.ptr 0 0 0))])) ?_
 refine g_reg hP hn ?_
 refine s_op k_mv ?_
 refine s_op (k_call [0, 1, 2, 3, 4] (con := look_AC X0 hX0)) ?_
 refine s_op k_mv ?_
 refine s_on rfl rfl rfl k_mv ?_
 refine s_on rfl rfl rfl (k_tmp 0 (h := k_call [] (con := lookInt_0) (hargs := by exact .cons rfl (conv_ptrJ (by rfl) rfl rfl (bk_J 1 (by decide) (by decide))) .nil))) ?_
 refine s_op k_pk ?_
 refine s_op k_mv ?_
 refine s_on rfl rfl rfl k_mv ?_
 refine s_on rfl rfl rfl (k_tmp 0 (h := k_call [] (con := lookText_0) (hargs := by exact .cons rfl (conv_ptrJ (by rfl) rfl rfl (bk_J 2 (by decide) (by decide))) .nil))) ?_
 refine s_op k_pk ?_
 refine s_op k_mv ?_
 refine s_on rfl rfl rfl k_mv ?_
 refine s_on rfl rfl rfl (k_tmp 0 (h := k_call [] (con := lookNum_0) (hargs := by exact .cons rfl (conv_ptrJ (by rfl) rfl rfl (bk_J 3 (by decide) (by decide))) .nil))) ?_
 refine s_op k_pk ?_
 refine s_op k_mv ?_
 refine s_on rfl rfl rfl k_mv ?_
 refine s_on rfl rfl rfl (k_tmp 0 (h := k_call [] (con := lookSum_0) (hargs := by exact .cons rfl (conv_ptrJ (by rfl) rfl rfl (bk_J 4 (by decide) (by decide))) .nil))) ?_
 refine s_op k_pk ?_
 refine s_op k_mv ?_
 refine s_on rfl rfl rfl k_mv ?_
 refine s_on rfl rfl rfl (k_tmp 0 (h := k_call [] (con := lookTag_0) (hargs := by exact .cons rfl (conv_ptrJ (by rfl) rfl rfl (bk_J 5 (by decide) (by decide))) .nil))) ?_
 refine s_op k_pk ?_
 refine s_op k_mv ?_
 refine s_on rfl rfl rfl k_mv ?_
 refine s_on rfl rfl rfl (k_tmp 0 (h := k_call [] (con := lookSpot_0) (hargs := by exact .cons rfl (conv_ptrJ (by rfl) rfl rfl (bk_J 6 (by decide) (by decide))) .nil))) ?_
 refine s_op k_pk ?_
 refine s_op k_mv ?_
 refine s_on rfl rfl rfl k_mv ?_
 refine s_on rfl rfl rfl (k_tmp 0 (h := k_call [] (con := lookGen_0) (hargs := by exact .cons rfl (conv_ptrJ (by rfl) rfl rfl (bk_J 7 (by decide) (by decide))) .nil))) ?_
 refine s_op k_pk ?_
 refine s_op k_mv ?_
 refine s_on rfl rfl rfl k_mv ?_
 refine s_on rfl rfl rfl (k_tmp 0 (h := k_call [] (con := lookLane_0) (hargs := by exact .cons rfl (conv_ptrJ (by rfl) rfl rfl (bk_J 8 (by decide) (by decide))) .nil))) ?_
 refine s_op k_pk ?_
 refine s_op k_mv ?_
 refine s_on rfl rfl rfl k_mv ?_
 refine s_on rfl rfl rfl (k_tmp 0 (h := k_call [] (con := lookParam_0) (hargs := by exact .cons rfl (conv_ptrJ (by rfl) rfl rfl (bk_J 9 (by decide) (by decide))) .nil))) ?_
 refine s_op k_pk ?_
 refine s_op k_mv ?_
 refine s_on rfl rfl rfl k_mv ?_
 refine s_on rfl rfl rfl (k_tmp 0 (h := k_call [] (con := lookPacket_0) (hargs := by exact .cons rfl (conv_ptrJ (by rfl) rfl rfl (bk_J 10 (by decide) (by decide))) .nil))) ?_
 refine s_op k_pk ?_
 refine s_op k_mv ?_
 refine s_on rfl rfl rfl k_mv ?_
 refine s_on rfl rfl rfl (k_tmp 0 (h := k_call [] (con := lookFrame_0) (hargs := by exact .cons rfl (conv_ptrJ (by rfl) rfl rfl (bk_J 11 (by decide) (by decide))) .nil))) ?_
 refine s_op k_pk ?_
 refine s_op k_mv ?_
 refine s_on rfl rfl rfl k_mv ?_
 refine s_on rfl rfl rfl (k_tmp 0 (h := k_call [] (con := lookMail_0) (hargs := by exact .cons rfl (conv_ptrJ (by rfl) rfl rfl (bk_J 12 (by decide) (by decide))) .nil))) ?_
 refine s_op k_pk ?_
 refine s_op k_mv ?_
 refine s_on rfl rfl rfl k_mv ?_
 refine s_on rfl rfl rfl (k_tmp 0 (h := k_call [] (con := lookSession_0) (hargs := by exact .cons rfl (conv_ptrJ (by rfl) rfl rfl (bk_J 13 (by decide) (by decide))) .nil))) ?_
 refine s_op k_pk ?_
 refine s_op k_mv ?_
 refine s_on rfl rfl rfl k_mv ?_
 refine s_on rfl rfl rfl (k_tmp 0 (h := k_call [] (con := lookRecord_0) (hargs := by exact .cons rfl (conv_ptrJ (by rfl) rfl rfl (bk_J 14 (by decide) (by decide))) .nil))) ?_
 refine s_op k_pk ?_
 refine s_op k_as ?_
 refine s_nil trivial ?_
 refine n_wp ?_
 refine w_ret ?_
 exact d_ret hP hn hE [0, 1, 2, 3, 4] (by first | exact r_tmp Tryz.results14 | exact r_tmpa Tryz.results14)

end Go.Proofs.X
end

section
open Go Go.Bx Go.Proofs
namespace Go.Proofs.X
set_option maxRecDepth 100000
set_option maxHeartbeats 4000000
attribute [local irreducible] SB BK ks
theorem law9_z (key first B : List Int) (hk : key.length = 16) (hk8 : U8 key) (hf : first.length = 16) (hf8 : U8 first) (hz : 2000 < B.length) : Con Tryz.prog 3 [.agg [.ints .u8 16 key], .agg [.ints .u8 16 first], .s (.fzi .u8 B)] [] (.s (.bool true)) [] := by
 refine con_in 41 Tryz.func3 rfl rfl (m := 0) rfl ?_
 intro E hP hn hE
 refine w_seq ?_
 refine g_reg hP hn ?_
 refine s_op k_bx ?_
 refine s_op k_bx ?_
 refine s_op k_as ?_
 refine s_nil trivial ?_
 refine n_wp ?_
 refine w_seq ?_
 refine w_seq ?_
 refine g_reg hP hn ?_
 refine s_op k_mv ?_
 refine s_op k_len ?_
 refine s_op k_gtr ?_
 refine s_nil trivial ?_
 refine n_wp ?_
 refine w_T rfl ?_ (decide_eq_true (by omega))
 refine w_seq ?_
 refine g_reg hP hn ?_
 refine s_op (k_call [] (con := lives_c)) ?_
 refine s_op k_as ?_
 refine s_nil trivial ?_
 refine n_wp ?_
 refine w_ret ?_
 refine r_thn ?_
 exact d_ret hP hn hE [] (by first | exact r_tmp Tryz.results3 | exact r_tmpa Tryz.results3)

theorem streamM2 (key first B : List Int) (hk8 : U8 key) (hf : first.length = 16) (hf8 : U8 first) (h0 : 0 < B.length) (hB : B.length ≤ 140737488355000) : Con Tryz.prog 9 [.agg [.ints .u8 16 key], .agg [.ints .u8 16 first], .s (.fzi .u8 B)] [] (.s (.slice 0 0 0 (streamI key first B).length (streamI key first B).length)) [some ⟨true, [.ints .u8 (streamI key first B).length (streamI key first B)]⟩] := by
  have h := streamM_c key first B hk8 hf hf8 h0 hB
  rw [← streamI_len key first B] at h
  exact h

theorem law9_y (key first B : List Int) (hk : key.length = 16) (hk8 : U8 key) (hf : first.length = 16) (hf8 : U8 first) (h0 : 0 < B.length) (hz : ¬ 2000 < B.length) : Con Tryz.prog 3 [.agg [.ints .u8 16 key], .agg [.ints .u8 16 first], .s (.fzi .u8 B)] [] (.s (.bool true)) [] := by
 refine con_in 41 Tryz.func3 rfl rfl (m := 0) rfl ?_
 intro E hP hn hE
 have hSl := streamI_len key first B
 refine w_seq ?_
 refine g_reg hP hn ?_
 refine s_op k_bx ?_
 refine s_op k_bx ?_
 refine s_op k_as ?_
 refine s_nil trivial ?_
 refine n_wp ?_
 refine w_seq ?_
 refine w_seq ?_
 refine g_reg hP hn ?_
 refine s_op k_mv ?_
 refine s_op k_len ?_
 refine s_op k_gtr ?_
 refine s_nil trivial ?_
 refine n_wp ?_
 refine w_F rfl ?_ (decide_eq_false (by omega))
 refine w_skip ?_
 refine n_wp ?_
 refine w_seq ?_
 refine g_reg hP hn ?_
 refine s_op k_mv ?_
 refine s_op (k_call [] (con := twin_c B (by omega))) ?_
 refine s_op k_as ?_
 refine s_nil trivial ?_
 refine n_wp ?_
 refine w_seq ?_
 refine g_reg hP hn ?_
 refine s_op k_ld ?_
 refine s_op k_ld ?_
 refine s_op k_mv ?_
 refine s_op (k_tmpN 2 [some ⟨true, [.ints .u8 (streamI key first B).length (streamI key first B)]⟩] (h := k_call [] (con := streamM2 key first B hk8 hf hf8 h0 (by omega)) (hargs := by exact .cons rfl cv (.cons rfl cv (.cons rfl (conv_sl (kk := .u8) (n := B.length + 1) (l := B ++ [77]) (by rfl) rfl rfl (by first | omega | simp) (by first | omega | simp) (by simp) (by simp)) .nil))) (hH := by rfl))) ?_
 refine s_op k_as ?_
 refine s_nil trivial ?_
 refine n_wp ?_
 refine w_seq ?_
 refine g_reg hP hn ?_
 refine s_op k_al ?_
 refine s_nil trivial ?_
 refine n_wp ?_
 refine w_seq ?_
 refine g_reg hP hn ?_
 refine s_op k_mv ?_
 refine s_op (k_call [4, 2] (con := bytes_A B) (H' := [some ⟨true, [.ints .u8 16 key]⟩, some ⟨true, [.ints .u8 16 first]⟩, some ⟨true, [.ints .u8 (B.length + 1) (B ++ [77])]⟩, some ⟨true, [.ints .u8 (streamI key first B).length (streamI key first B)]⟩, some ⟨true, [.one (.int .i64 ((1 : Nat) : Int)), .one (.gro 5 3 1), .one .nils, .one .nils, .one .nils, .one .nils, .one .nils, .one .nils, .one .nils, .one .nils, .one .nils, .one .nils, .one .nils, .one .nils, .one .nils, .one .nils]⟩, some ⟨true, [.one (.slice 2 0 0 B.length (B.length + 1)), .one .nils, .one (.int .i64 ((1 : Nat) : Int))]⟩]) (hH := by kernel_rfl)) ?_
 refine s_nil trivial ?_
 refine n_wp ?_
 refine w_seq ?_
 refine g_reg hP hn ?_
 refine s_op k_mv ?_
 refine s_op (k_call [4, 2, 3, 5] (con := bytes_AB B (streamI key first B)) (H' := [some ⟨true, [.ints .u8 16 key]⟩, some ⟨true, [.ints .u8 16 first]⟩, some ⟨true, [.ints .u8 (B.length + 1) (B ++ [77])]⟩, some ⟨true, [.ints .u8 (streamI key first B).length (streamI key first B)]⟩, some ⟨true, [.one (.int .i64 ((2 : Nat) : Int)), .one (.gro 6 3 2), .one .nils, .one .nils, .one .nils, .one .nils, .one .nils, .one .nils, .one .nils, .one .nils, .one .nils, .one .nils, .one .nils, .one .nils, .one .nils, .one .nils]⟩, none, some ⟨true, [.one (.slice 2 0 0 B.length (B.length + 1)), .one .nils, .one (.int .i64 ((1 : Nat) : Int)), .one (.slice 3 0 0 (streamI key first B).length (streamI key first B).length), .one .nils, .one (.int .i64 ((2 : Nat) : Int))]⟩]) (hH := by kernel_rfl)) ?_
 refine s_nil trivial ?_
 refine n_wp ?_
 refine w_seq ?_
 refine g_reg hP hn ?_
 refine s_op k_mv ?_
 refine s_op k_ld ?_
 refine s_op k_ld ?_
 refine s_op k_mv ?_
 refine s_op (k_call [] (con := rstream_c key first B hk hk8 hf hf8 h0 (by omega))) ?_
 refine s_op (k_tmp 3 (h := k_call [] (con := same_n (streamI key first B) (by omega)) (hargs := by exact .cons rfl (conv_sl (kk := .u8) (n := (streamI key first B).length) (l := (streamI key first B)) (by rfl) rfl rfl (by omega) (by omega) rfl (by rw [List.drop_zero]; exact List.take_length)) (.cons rfl cv .nil)))) ?_
 refine s_op k_mv ?_
 refine s_on rfl rfl rfl k_mv ?_
 refine s_on rfl rfl rfl k_mv ?_
 refine s_on rfl rfl rfl (k_call [2] (con := left_n B (by omega))) ?_
 refine s_op k_pk ?_
 refine s_op k_mv ?_
 refine s_on rfl rfl rfl (k_call [4, 2, 3, 6] (con := apart_AB B (by omega) (streamI key first B) (by omega))) ?_
 refine s_op k_pk ?_
 refine s_op k_mv ?_
 refine s_on rfl rfl rfl (k_call [] (con := lives_c)) ?_
 refine s_op k_pk ?_
 refine s_op k_as ?_
 refine s_nil trivial ?_
 refine n_wp ?_
 refine w_ret ?_
 exact d_ret hP hn hE [] (by first | exact r_tmp Tryz.results3 | exact r_tmpa Tryz.results3)

theorem law9_e (key first : List Int) (hk : key.length = 16) (hk8 : U8 key) (hf : first.length = 16) (hf8 : U8 first) : Con Tryz.prog 3 [.agg [.ints .u8 16 key], .agg [.ints .u8 16 first], .s (.fzi .u8 [])] [] (.s (.bool true)) [] := by
 refine con_in 41 Tryz.func3 rfl rfl (m := 0) rfl ?_
 intro E hP hn hE
 refine w_seq ?_
 refine g_reg hP hn ?_
 refine s_op k_bx ?_
 refine s_op k_bx ?_
 refine s_op k_as ?_
 refine s_nil trivial ?_
 refine n_wp ?_
 refine w_seq ?_
 refine w_seq ?_
 refine g_reg hP hn ?_
 refine s_op k_mv ?_
 refine s_op k_len ?_
 refine s_op k_gtr ?_
 refine s_nil trivial ?_
 refine n_wp ?_
 refine w_F rfl ?_ 
 refine w_skip ?_
 refine n_wp ?_
 refine w_seq ?_
 refine g_reg hP hn ?_
 refine s_op k_mv ?_
 refine s_op (k_call [] (con := twin_c ([] : List Int) (Nat.zero_le _)) (H' := [some ⟨true, [.ints .u8 16 key]⟩, some ⟨true, [.ints .u8 16 first]⟩, some ⟨true, [.ints .u8 (0 + 1) (([] : List Int) ++ [77])]⟩]) (hH := by kernel_rfl)) ?_
 refine s_op k_as ?_
 refine s_nil trivial ?_
 refine n_wp ?_
 refine w_seq ?_
 refine g_reg hP hn ?_
 refine s_op k_ld ?_
 refine s_op k_ld ?_
 refine s_op k_mv ?_
 refine s_op (k_tmp 2 (h := k_call [] (con := streamE_c key first) (hargs := by exact .cons rfl cv (.cons rfl cv (.cons rfl (conv_sl (kk := .u8) (n := 0 + 1) (l := ([] : List Int) ++ [77]) (by rfl) rfl rfl (by first | omega | simp) (by first | omega | simp) (by simp) (by simp)) .nil))))) ?_
 refine s_op k_as ?_
 refine s_nil trivial ?_
 refine n_wp ?_
 refine w_seq ?_
 refine g_reg hP hn ?_
 refine s_op k_al ?_
 refine s_nil trivial ?_
 refine n_wp ?_
 refine w_seq ?_
 refine g_reg hP hn ?_
 refine s_op k_mv ?_
 refine s_op (k_call [3, 2] (con := bytes_A ([] : List Int)) (H' := [some ⟨true, [.ints .u8 16 key]⟩, some ⟨true, [.ints .u8 16 first]⟩, some ⟨true, [.ints .u8 (0 + 1) (([] : List Int) ++ [77])]⟩, some ⟨true, [.one (.int .i64 ((1 : Nat) : Int)), .one (.gro 4 3 1), .one .nils, .one .nils, .one .nils, .one .nils, .one .nils, .one .nils, .one .nils, .one .nils, .one .nils, .one .nils, .one .nils, .one .nils, .one .nils, .one .nils]⟩, some ⟨true, [.one (.slice 2 0 0 0 (0 + 1)), .one .nils, .one (.int .i64 ((1 : Nat) : Int))]⟩]) (hH := by kernel_rfl)) ?_
 refine s_nil trivial ?_
 refine n_wp ?_
 refine w_seq ?_
 refine g_reg hP hn ?_
 refine s_op k_mv ?_
 refine s_op (k_call [3, 2, 4] (con := bytes_AC []) (H' := [some ⟨true, [.ints .u8 16 key]⟩, some ⟨true, [.ints .u8 16 first]⟩, some ⟨true, [.ints .u8 (0 + 1) (([] : List Int) ++ [77])]⟩, some ⟨true, [.one (.int .i64 ((2 : Nat) : Int)), .one (.gro 5 3 2), .one .nils, .one .nils, .one .nils, .one .nils, .one .nils, .one .nils, .one .nils, .one .nils, .one .nils, .one .nils, .one .nils, .one .nils, .one .nils, .one .nils]⟩, none, some ⟨true, [.one (.slice 2 0 0 0 (0 + 1)), .one .nils, .one (.int .i64 ((1 : Nat) : Int)), .one .nils, .one .nils, .one (.int .i64 ((2 : Nat) : Int))]⟩]) (hH := by kernel_rfl)) ?_
 refine s_nil trivial ?_
 refine n_wp ?_
 refine w_seq ?_
 refine g_reg hP hn ?_
 refine s_op k_mv ?_
 refine s_op k_ld ?_
 refine s_op k_ld ?_
 refine s_op k_mv ?_
 refine s_op (k_call [] (con := rstream0_c key first)) ?_
 refine s_op (k_call [] (con := same_n [] (Nat.zero_le _))) ?_
 refine s_op k_mv ?_
 refine s_on rfl rfl rfl k_mv ?_
 refine s_on rfl rfl rfl k_mv ?_
 refine s_on rfl rfl rfl (k_call [2] (con := left_n ([] : List Int) (Nat.zero_le _))) ?_
 refine s_op k_pk ?_
 refine s_op k_mv ?_
 refine s_on rfl rfl rfl (k_call [3, 2, 5] (con := apart_AC [] (Nat.zero_le _))) ?_
 refine s_op k_pk ?_
 refine s_op k_mv ?_
 refine s_on rfl rfl rfl (k_call [] (con := lives_c)) ?_
 refine s_op k_pk ?_
 refine s_op k_as ?_
 refine s_nil trivial ?_
 refine n_wp ?_
 refine w_ret ?_
 exact d_ret hP hn hE [] (by first | exact r_tmp Tryz.results3 | exact r_tmpa Tryz.results3)

theorem law9_c (key first B : List Int) (hk : key.length = 16) (hk8 : U8 key) (hf : first.length = 16) (hf8 : U8 first) : Con Tryz.prog 3 [.agg [.ints .u8 16 key], .agg [.ints .u8 16 first], .s (.fzi .u8 B)] [] (.s (.bool true)) [] := by
  by_cases hz : 2000 < B.length
  · exact law9_z key first B hk hk8 hf hf8 hz
  · by_cases h0 : 0 < B.length
    · exact law9_y key first B hk hk8 hf hf8 h0 hz
    · obtain rfl : B = [] := List.length_eq_zero_iff.1 (by omega)
      exact law9_e key first hk hk8 hf hf8

end Go.Proofs.X
end
