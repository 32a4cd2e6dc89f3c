/- A part of the proofs of this claim: BBok4, BKmt5, BKmtL. No conditions. -/
import Derived.Test.YtokgpammicpahaaGreatDoorK8
import Derived.Test.YtokgpammicpahaaGreatDoorK7
import Derived.Test.YtokgpammicpahaaGreatDoorK5
import Derived.Test.YtokgpammicpahaaGreatDoorK4
set_option linter.unusedVariables false
set_option linter.unusedSimpArgs false
section
open Go Go.Bx Go.Proofs
namespace Go.Proofs.X
set_option maxRecDepth 100000
set_option maxHeartbeats 4000000
theorem bk_J {n : Int} {u : SV} (j : Nat) (h0 : 0 < j) (h1 : j < 15) : ∀ i x, i < 16 → atS [.one (.int .i64 n), .one u, .one .nils, .one .nils, .one .nils, .one .nils, .one .nils, .one .nils, .one .nils, .one .nils, .one .nils, .one .nils, .one .nils, .one .nils, .one .nils, .one .nils] i = some x → (fun k => if k = j + 1 then SV.nils else SV.junk) i = .junk ∨ ((fun k => if k = j + 1 then SV.nils else SV.junk) i = x ∧ x.idB (fun _ => false) = true) := by
  intro i x hi hx
  by_cases h : i = j + 1
  · subst h
    right
    have e : x = .nils := by
      rcases j with _|_|_|_|_|_|_|_|_|_|_|_|_|_|_|j
      · omega
      all_goals first | omega | (have := Option.some.inj hx; exact this.symm)
    subst e
    simp [SV.idB]
  · left; simp [h]

theorem apart_BA (X0 : List Int) (hX0 : X0.length ≤ 100000) (X1 : List Int) (hX1 : X1.length ≤ 100000) : Con Tryz.prog 14 [.s (.ptr 0 0 0)] [some ⟨true, [.one (.int .i64 ((2 : Nat) : Int)), .one (.gro 3 3 2), .one .nils, .one .nils, .one .nils, .one .nils, .one .nils, .one .nils, .one .nils, .one .nils, .one .nils, .one .nils, .one .nils, .one .nils, .one .nils, .one .nils]⟩, some ⟨true, [.ints .u8 X0.length X0]⟩, some ⟨true, [.ints .u8 (X1.length + 1) (X1 ++ [77])]⟩, some ⟨true, [.one (.slice 1 0 0 X0.length X0.length), .one .nils, .one (.int .i64 ((1 : Nat) : Int)), .one (.slice 2 0 0 X1.length (X1.length + 1)), .one .nils, .one (.int .i64 ((2 : Nat) : Int))]⟩] (.s (.bool true)) [some ⟨true, [.one (.int .i64 ((2 : Nat) : Int)), .one (.gro 3 3 2), .one .nils, .one .nils, .one .nils, .one .nils, .one .nils, .one .nils, .one .nils, .one .nils, .one .nils, .one .nils, .one .nils, .one .nils, .one .nils, .one .nils]⟩, some ⟨true, [.ints .u8 X0.length (List.replicate X0.length 1)]⟩, some ⟨true, [.ints .u8 (X1.length + 1) (List.replicate (X1.length + 1) 2)]⟩, some ⟨true, [.one (.slice 1 0 0 X0.length X0.length), .one (.gro 4 1 (X0.length + 40)), .one (.int .i64 ((1 : Nat) : Int)), .one (.slice 2 0 0 X1.length (X1.length + 1)), .one (.gro 5 1 (X1.length + 40)), .one (.int .i64 ((2 : Nat) : Int))]⟩, some ⟨true, [.ints .u8 (X0.length + 40) (List.replicate (X0.length + 40) 1)]⟩, some ⟨true, [.ints .u8 (X1.length + 40) (List.replicate (X1.length + 40) 2)]⟩] := by
 refine con_in 121 Tryz.func14 rfl rfl (m := 4) rfl ?_
 intro E hP hn hE
 refine w_seq ?_
 refine g_reg hP hn ?_
 refine s_op k_as ?_
 refine s_nil trivial ?_
 refine n_wp ?_
 refine w_seq ?_
 refine g_reg hP hn ?_
 refine s_op k_mv ?_
 refine s_op (k_call [0, 1, 2, 3] (con := fill_BA X0 hX0 X1 hX1) (H' := [some ⟨true, [.one (.int .i64 ((2 : Nat) : Int)), .one (.gro 3 3 2), .one .nils, .one .nils, .one .nils, .one .nils, .one .nils, .one .nils, .one .nils, .one .nils, .one .nils, .one .nils, .one .nils, .one .nils, .one .nils, .one .nils]⟩, some ⟨true, [.ints .u8 X0.length (List.replicate X0.length 1)]⟩, some ⟨true, [.ints .u8 (X1.length + 1) (List.replicate X1.length 2 ++ [77])]⟩, some ⟨true, [.one (.slice 1 0 0 X0.length X0.length), .one .nils, .one (.int .i64 ((1 : Nat) : Int)), .one (.slice 2 0 0 X1.length (X1.length + 1)), .one .nils, .one (.int .i64 ((2 : Nat) : Int))]⟩]) (hH := by kernel_rfl)) ?_
 refine s_nil trivial ?_
 refine n_wp ?_
 refine w_seq ?_
 refine g_reg hP hn ?_
 refine s_op k_mv ?_
 refine s_op (k_tmp 0 (h := k_call [] (con := fillInt_0) (hargs := by exact .cons rfl (conv_ptrJ (by rfl) rfl rfl (bk_J 1 (by decide) (by decide))) .nil))) ?_
 refine s_nil trivial ?_
 refine n_wp ?_
 refine w_seq ?_
 refine g_reg hP hn ?_
 refine s_op k_mv ?_
 refine s_op (k_tmp 0 (h := k_call [] (con := fillText_0) (hargs := by exact .cons rfl (conv_ptrJ (by rfl) rfl rfl (bk_J 2 (by decide) (by decide))) .nil))) ?_
 refine s_nil trivial ?_
 refine n_wp ?_
 refine w_seq ?_
 refine g_reg hP hn ?_
 refine s_op k_mv ?_
 refine s_op (k_tmp 0 (h := k_call [] (con := fillNum_0) (hargs := by exact .cons rfl (conv_ptrJ (by rfl) rfl rfl (bk_J 3 (by decide) (by decide))) .nil))) ?_
 refine s_nil trivial ?_
 refine n_wp ?_
 refine w_seq ?_
 refine g_reg hP hn ?_
 refine s_op k_mv ?_
 refine s_op (k_tmp 0 (h := k_call [] (con := fillSum_0) (hargs := by exact .cons rfl (conv_ptrJ (by rfl) rfl rfl (bk_J 4 (by decide) (by decide))) .nil))) ?_
 refine s_nil trivial ?_
 refine n_wp ?_
 refine w_seq ?_
 refine w_weak (weak_tm (T' := [(0, .s (.ptr 0 0 0))])) ?_
 refine g_reg hP hn ?_
 refine s_op k_mv ?_
 refine s_op (k_tmp 0 (h := k_call [] (con := fillTag_0) (hargs := by exact .cons rfl (conv_ptrJ (by rfl) rfl rfl (bk_J 5 (by decide) (by decide))) .nil))) ?_
 refine s_nil trivial ?_
 refine n_wp ?_
 refine w_seq ?_
 refine g_reg hP hn ?_
 refine s_op k_mv ?_
 refine s_op (k_tmp 0 (h := k_call [] (con := fillSpot_0) (hargs := by exact .cons rfl (conv_ptrJ (by rfl) rfl rfl (bk_J 6 (by decide) (by decide))) .nil))) ?_
 refine s_nil trivial ?_
 refine n_wp ?_
 refine w_seq ?_
 refine g_reg hP hn ?_
 refine s_op k_mv ?_
 refine s_op (k_tmp 0 (h := k_call [] (con := fillGen_0) (hargs := by exact .cons rfl (conv_ptrJ (by rfl) rfl rfl (bk_J 7 (by decide) (by decide))) .nil))) ?_
 refine s_nil trivial ?_
 refine n_wp ?_
 refine w_seq ?_
 refine g_reg hP hn ?_
 refine s_op k_mv ?_
 refine s_op (k_tmp 0 (h := k_call [] (con := fillLane_0) (hargs := by exact .cons rfl (conv_ptrJ (by rfl) rfl rfl (bk_J 8 (by decide) (by decide))) .nil))) ?_
 refine s_nil trivial ?_
 refine n_wp ?_
 refine w_seq ?_
 refine g_reg hP hn ?_
 refine s_op k_mv ?_
 refine s_op (k_tmp 0 (h := k_call [] (con := fillParam_0) (hargs := by exact .cons rfl (conv_ptrJ (by rfl) rfl rfl (bk_J 9 (by decide) (by decide))) .nil))) ?_
 refine s_nil trivial ?_
 refine n_wp ?_
 refine w_seq ?_
 refine w_weak (weak_tm (T' := [(0, .s (.ptr 0 0 0))])) ?_
 refine g_reg hP hn ?_
 refine s_op k_mv ?_
 refine s_op (k_tmp 0 (h := k_call [] (con := fillPacket_0) (hargs := by exact .cons rfl (conv_ptrJ (by rfl) rfl rfl (bk_J 10 (by decide) (by decide))) .nil))) ?_
 refine s_nil trivial ?_
 refine n_wp ?_
 refine w_seq ?_
 refine g_reg hP hn ?_
 refine s_op k_mv ?_
 refine s_op (k_tmp 0 (h := k_call [] (con := fillFrame_0) (hargs := by exact .cons rfl (conv_ptrJ (by rfl) rfl rfl (bk_J 11 (by decide) (by decide))) .nil))) ?_
 refine s_nil trivial ?_
 refine n_wp ?_
 refine w_seq ?_
 refine g_reg hP hn ?_
 refine s_op k_mv ?_
 refine s_op (k_tmp 0 (h := k_call [] (con := fillMail_0) (hargs := by exact .cons rfl (conv_ptrJ (by rfl) rfl rfl (bk_J 12 (by decide) (by decide))) .nil))) ?_
 refine s_nil trivial ?_
 refine n_wp ?_
 refine w_seq ?_
 refine g_reg hP hn ?_
 refine s_op k_mv ?_
 refine s_op (k_tmp 0 (h := k_call [] (con := fillSession_0) (hargs := by exact .cons rfl (conv_ptrJ (by rfl) rfl rfl (bk_J 13 (by decide) (by decide))) .nil))) ?_
 refine s_nil trivial ?_
 refine n_wp ?_
 refine w_seq ?_
 refine g_reg hP hn ?_
 refine s_op k_mv ?_
 refine s_op (k_tmp 0 (h := k_call [] (con := fillRecord_0) (hargs := by exact .cons rfl (conv_ptrJ (by rfl) rfl rfl (bk_J 14 (by decide) (by decide))) .nil))) ?_
 refine s_nil trivial ?_
 refine n_wp ?_
 refine w_seq ?_
 refine w_weak (weak_tm (T' := [(0, .s (.ptr 0 0 0))])) ?_
 refine g_reg hP hn ?_
 refine s_op k_mv ?_
 refine s_op (k_call [0, 1, 2, 3] (con := grow_BA X0 hX0 X1 hX1) (H' := [some ⟨true, [.one (.int .i64 ((2 : Nat) : Int)), .one (.gro 3 3 2), .one .nils, .one .nils, .one .nils, .one .nils, .one .nils, .one .nils, .one .nils, .one .nils, .one .nils, .one .nils, .one .nils, .one .nils, .one .nils, .one .nils]⟩, some ⟨true, [.ints .u8 X0.length (List.replicate X0.length 1)]⟩, some ⟨true, [.ints .u8 (X1.length + 1) (List.replicate (X1.length + 1) 2)]⟩, some ⟨true, [.one (.slice 1 0 0 X0.length X0.length), .one (.gro 4 1 (X0.length + 40)), .one (.int .i64 ((1 : Nat) : Int)), .one (.slice 2 0 0 X1.length (X1.length + 1)), .one (.gro 5 1 (X1.length + 40)), .one (.int .i64 ((2 : Nat) : Int))]⟩, some ⟨true, [.ints .u8 (X0.length + 40) (List.replicate (X0.length + 40) 1)]⟩, some ⟨true, [.ints .u8 (X1.length + 40) (List.replicate (X1.length + 40) 2)]⟩]) (hH := by kernel_rfl)) ?_
 refine s_nil trivial ?_
 refine n_wp ?_
 refine w_seq ?_
 refine g_reg hP hn ?_
 refine s_op k_mv ?_
 refine s_op (k_tmp 0 (h := k_call [] (con := growInt_0) (hargs := by exact .cons rfl (conv_ptrJ (by rfl) rfl rfl (bk_J 1 (by decide) (by decide))) .nil))) ?_
 refine s_nil trivial ?_
 refine n_wp ?_
 refine w_seq ?_
 refine g_reg hP hn ?_
 refine s_op k_mv ?_
 refine s_op (k_tmp 0 (h := k_call [] (con := growText_0) (hargs := by exact .cons rfl (conv_ptrJ (by rfl) rfl rfl (bk_J 2 (by decide) (by decide))) .nil))) ?_
 refine s_nil trivial ?_
 refine n_wp ?_
 refine w_seq ?_
 refine g_reg hP hn ?_
 refine s_op k_mv ?_
 refine s_op (k_tmp 0 (h := k_call [] (con := growNum_0) (hargs := by exact .cons rfl (conv_ptrJ (by rfl) rfl rfl (bk_J 3 (by decide) (by decide))) .nil))) ?_
 refine s_nil trivial ?_
 refine n_wp ?_
 refine w_seq ?_
 refine g_reg hP hn ?_
 refine s_op k_mv ?_
 refine s_op (k_tmp 0 (h := k_call [] (con := growSum_0) (hargs := by exact .cons rfl (conv_ptrJ (by rfl) rfl rfl (bk_J 4 (by decide) (by decide))) .nil))) ?_
 refine s_nil trivial ?_
 refine n_wp ?_
 refine w_seq ?_
 refine w_weak (weak_tm (T' := [(0, .s (.ptr 0 0 0))])) ?_
 refine g_reg hP hn ?_
 refine s_op k_mv ?_
 refine s_op (k_tmp 0 (h := k_call [] (con := growTag_0) (hargs := by exact .cons rfl (conv_ptrJ (by rfl) rfl rfl (bk_J 5 (by decide) (by decide))) .nil))) ?_
 refine s_nil trivial ?_
 refine n_wp ?_
 refine w_seq ?_
 refine g_reg hP hn ?_
 refine s_op k_mv ?_
 refine s_op (k_tmp 0 (h := k_call [] (con := growSpot_0) (hargs := by exact .cons rfl (conv_ptrJ (by rfl) rfl rfl (bk_J 6 (by decide) (by decide))) .nil))) ?_
 refine s_nil trivial ?_
 refine n_wp ?_
 refine w_seq ?_
 refine g_reg hP hn ?_
 refine s_op k_mv ?_
 refine s_op (k_tmp 0 (h := k_call [] (con := growGen_0) (hargs := by exact .cons rfl (conv_ptrJ (by rfl) rfl rfl (bk_J 7 (by decide) (by decide))) .nil))) ?_
 refine s_nil trivial ?_
 refine n_wp ?_
 refine w_seq ?_
 refine g_reg hP hn ?_
 refine s_op k_mv ?_
 refine s_op (k_tmp 0 (h := k_call [] (con := growLane_0) (hargs := by exact .cons rfl (conv_ptrJ (by rfl) rfl rfl (bk_J 8 (by decide) (by decide))) .nil))) ?_
 refine s_nil trivial ?_
 refine n_wp ?_
 refine w_seq ?_
 refine g_reg hP hn ?_
 refine s_op k_mv ?_
 refine s_op (k_tmp 0 (h := k_call [] (con := growParam_0) (hargs := by exact .cons rfl (conv_ptrJ (by rfl) rfl rfl (bk_J 9 (by decide) (by decide))) .nil))) ?_
 refine s_nil trivial ?_
 refine n_wp ?_
 refine w_seq ?_
 refine w_weak (weak_tm (T' := [(0, .s (.ptr 0 0 0))])) ?_
 refine g_reg hP hn ?_
 refine s_op k_mv ?_
 refine s_op (k_tmp 0 (h := k_call [] (con := growPacket_0) (hargs := by exact .cons rfl (conv_ptrJ (by rfl) rfl rfl (bk_J 10 (by decide) (by decide))) .nil))) ?_
 refine s_nil trivial ?_
 refine n_wp ?_
 refine w_seq ?_
 refine g_reg hP hn ?_
 refine s_op k_mv ?_
 refine s_op (k_tmp 0 (h := k_call [] (con := growFrame_0) (hargs := by exact .cons rfl (conv_ptrJ (by rfl) rfl rfl (bk_J 11 (by decide) (by decide))) .nil))) ?_
 refine s_nil trivial ?_
 refine n_wp ?_
 refine w_seq ?_
 refine g_reg hP hn ?_
 refine s_op k_mv ?_
 refine s_op (k_tmp 0 (h := k_call [] (con := growMail_0) (hargs := by exact .cons rfl (conv_ptrJ (by rfl) rfl rfl (bk_J 12 (by decide) (by decide))) .nil))) ?_
 refine s_nil trivial ?_
 refine n_wp ?_
 refine w_seq ?_
 refine g_reg hP hn ?_
 refine s_op k_mv ?_
 refine s_op (k_tmp 0 (h := k_call [] (con := growSession_0) (hargs := by exact .cons rfl (conv_ptrJ (by rfl) rfl rfl (bk_J 13 (by decide) (by decide))) .nil))) ?_
 refine s_nil trivial ?_
 refine n_wp ?_
 refine w_seq ?_
 refine g_reg hP hn ?_
 refine s_op k_mv ?_
 refine s_op (k_tmp 0 (h := k_call [] (con := growRecord_0) (hargs := by exact .cons rfl (conv_ptrJ (by rfl) rfl rfl (bk_J 14 (by decide) (by decide))) .nil))) ?_
 refine s_nil trivial ?_
 refine n_wp ?_
 refine w_seq ?_
 refine w_weak (weak_tm (T' := [(0, .s (.ptr 0 0 0))])) ?_
 refine g_reg hP hn ?_
 refine s_op k_mv ?_
 refine s_op (k_call [0, 1, 2, 3, 4, 5] (con := look_BA X0 hX0 X1 hX1)) ?_
 refine s_op k_mv ?_
 refine s_on rfl rfl rfl k_mv ?_
 refine s_on rfl rfl rfl (k_tmp 0 (h := k_call [] (con := lookInt_0) (hargs := by exact .cons rfl (conv_ptrJ (by rfl) rfl rfl (bk_J 1 (by decide) (by decide))) .nil))) ?_
 refine s_op k_pk ?_
 refine s_op k_mv ?_
 refine s_on rfl rfl rfl k_mv ?_
 refine s_on rfl rfl rfl (k_tmp 0 (h := k_call [] (con := lookText_0) (hargs := by exact .cons rfl (conv_ptrJ (by rfl) rfl rfl (bk_J 2 (by decide) (by decide))) .nil))) ?_
 refine s_op k_pk ?_
 refine s_op k_mv ?_
 refine s_on rfl rfl rfl k_mv ?_
 refine s_on rfl rfl rfl (k_tmp 0 (h := k_call [] (con := lookNum_0) (hargs := by exact .cons rfl (conv_ptrJ (by rfl) rfl rfl (bk_J 3 (by decide) (by decide))) .nil))) ?_
 refine s_op k_pk ?_
 refine s_op k_mv ?_
 refine s_on rfl rfl rfl k_mv ?_
 refine s_on rfl rfl rfl (k_tmp 0 (h := k_call [] (con := lookSum_0) (hargs := by exact .cons rfl (conv_ptrJ (by rfl) rfl rfl (bk_J 4 (by decide) (by decide))) .nil))) ?_
 refine s_op k_pk ?_
 refine s_op k_mv ?_
 refine s_on rfl rfl rfl k_mv ?_
 refine s_on rfl rfl rfl (k_tmp 0 (h := k_call [] (con := lookTag_0) (hargs := by exact .cons rfl (conv_ptrJ (by rfl) rfl rfl (bk_J 5 (by decide) (by decide))) .nil))) ?_
 refine s_op k_pk ?_
 refine s_op k_mv ?_
 refine s_on rfl rfl rfl k_mv ?_
 refine s_on rfl rfl rfl (k_tmp 0 (h := k_call [] (con := lookSpot_0) (hargs := by exact .cons rfl (conv_ptrJ (by rfl) rfl rfl (bk_J 6 (by decide) (by decide))) .nil))) ?_
 refine s_op k_pk ?_
 refine s_op k_mv ?_
 refine s_on rfl rfl rfl k_mv ?_
 refine s_on rfl rfl rfl (k_tmp 0 (h := k_call [] (con := lookGen_0) (hargs := by exact .cons rfl (conv_ptrJ (by rfl) rfl rfl (bk_J 7 (by decide) (by decide))) .nil))) ?_
 refine s_op k_pk ?_
 refine s_op k_mv ?_
 refine s_on rfl rfl rfl k_mv ?_
 refine s_on rfl rfl rfl (k_tmp 0 (h := k_call [] (con := lookLane_0) (hargs := by exact .cons rfl (conv_ptrJ (by rfl) rfl rfl (bk_J 8 (by decide) (by decide))) .nil))) ?_
 refine s_op k_pk ?_
 refine s_op k_mv ?_
 refine s_on rfl rfl rfl k_mv ?_
 refine s_on rfl rfl rfl (k_tmp 0 (h := k_call [] (con := lookParam_0) (hargs := by exact .cons rfl (conv_ptrJ (by rfl) rfl rfl (bk_J 9 (by decide) (by decide))) .nil))) ?_
 refine s_op k_pk ?_
 refine s_op k_mv ?_
 refine s_on rfl rfl rfl k_mv ?_
 refine s_on rfl rfl rfl (k_tmp 0 (h := k_call [] (con := lookPacket_0) (hargs := by exact .cons rfl (conv_ptrJ (by rfl) rfl rfl (bk_J 10 (by decide) (by decide))) .nil))) ?_
 refine s_op k_pk ?_
 refine s_op k_mv ?_
 refine s_on rfl rfl rfl k_mv ?_
 refine s_on rfl rfl rfl (k_tmp 0 (h := k_call [] (con := lookFrame_0) (hargs := by exact .cons rfl (conv_ptrJ (by rfl) rfl rfl (bk_J 11 (by decide) (by decide))) .nil))) ?_
 refine s_op k_pk ?_
 refine s_op k_mv ?_
 refine s_on rfl rfl rfl k_mv ?_
 refine s_on rfl rfl rfl (k_tmp 0 (h := k_call [] (con := lookMail_0) (hargs := by exact .cons rfl (conv_ptrJ (by rfl) rfl rfl (bk_J 12 (by decide) (by decide))) .nil))) ?_
 refine s_op k_pk ?_
 refine s_op k_mv ?_
 refine s_on rfl rfl rfl k_mv ?_
 refine s_on rfl rfl rfl (k_tmp 0 (h := k_call [] (con := lookSession_0) (hargs := by exact .cons rfl (conv_ptrJ (by rfl) rfl rfl (bk_J 13 (by decide) (by decide))) .nil))) ?_
 refine s_op k_pk ?_
 refine s_op k_mv ?_
 refine s_on rfl rfl rfl k_mv ?_
 refine s_on rfl rfl rfl (k_tmp 0 (h := k_call [] (con := lookRecord_0) (hargs := by exact .cons rfl (conv_ptrJ (by rfl) rfl rfl (bk_J 14 (by decide) (by decide))) .nil))) ?_
 refine s_op k_pk ?_
 refine s_op k_as ?_
 refine s_nil trivial ?_
 refine n_wp ?_
 refine w_ret ?_
 exact d_ret hP hn hE [0, 1, 2, 3, 4, 5] (by first | exact r_tmp Tryz.results14 | exact r_tmpa Tryz.results14)

theorem apart_CA (X1 : List Int) (hX1 : X1.length ≤ 100000) : Con Tryz.prog 14 [.s (.ptr 0 0 0)] [some ⟨true, [.one (.int .i64 ((2 : Nat) : Int)), .one (.gro 2 3 2), .one .nils, .one .nils, .one .nils, .one .nils, .one .nils, .one .nils, .one .nils, .one .nils, .one .nils, .one .nils, .one .nils, .one .nils, .one .nils, .one .nils]⟩, some ⟨true, [.ints .u8 (X1.length + 1) (X1 ++ [77])]⟩, some ⟨true, [.one .nils, .one .nils, .one (.int .i64 ((1 : Nat) : Int)), .one (.slice 1 0 0 X1.length (X1.length + 1)), .one .nils, .one (.int .i64 ((2 : Nat) : Int))]⟩] (.s (.bool true)) [some ⟨true, [.one (.int .i64 ((2 : Nat) : Int)), .one (.gro 2 3 2), .one .nils, .one .nils, .one .nils, .one .nils, .one .nils, .one .nils, .one .nils, .one .nils, .one .nils, .one .nils, .one .nils, .one .nils, .one .nils, .one .nils]⟩, some ⟨true, [.ints .u8 (X1.length + 1) (List.replicate (X1.length + 1) 2)]⟩, some ⟨true, [.one .nils, .one (.gro 3 1 (0 + 40)), .one (.int .i64 ((1 : Nat) : Int)), .one (.slice 1 0 0 X1.length (X1.length + 1)), .one (.gro 4 1 (X1.length + 40)), .one (.int .i64 ((2 : Nat) : Int))]⟩, some ⟨true, [.ints .u8 (0 + 40) (List.replicate (0 + 40) 1)]⟩, some ⟨true, [.ints .u8 (X1.length + 40) (List.replicate (X1.length + 40) 2)]⟩] := by
 refine con_in 121 Tryz.func14 rfl rfl (m := 3) rfl ?_
 intro E hP hn hE
 refine w_seq ?_
 refine g_reg hP hn ?_
 refine s_op k_as ?_
 refine s_nil trivial ?_
 refine n_wp ?_
 refine w_seq ?_
 refine g_reg hP hn ?_
 refine s_op k_mv ?_
 refine s_op (k_call [0, 1, 2] (con := fill_CA X1 hX1) (H' := [some ⟨true, [.one (.int .i64 ((2 : Nat) : Int)), .one (.gro 2 3 2), .one .nils, .one .nils, .one .nils, .one .nils, .one .nils, .one .nils, .one .nils, .one .nils, .one .nils, .one .nils, .one .nils, .one .nils, .one .nils, .one .nils]⟩, some ⟨true, [.ints .u8 (X1.length + 1) (List.replicate X1.length 2 ++ [77])]⟩, some ⟨true, [.one .nils, .one .nils, .one (.int .i64 ((1 : Nat) : Int)), .one (.slice 1 0 0 X1.length (X1.length + 1)), .one .nils, .one (.int .i64 ((2 : Nat) : Int))]⟩]) (hH := by kernel_rfl)) ?_
 refine s_nil trivial ?_
 refine n_wp ?_
 refine w_seq ?_
 refine g_reg hP hn ?_
 refine s_op k_mv ?_
 refine s_op (k_tmp 0 (h := k_call [] (con := fillInt_0) (hargs := by exact .cons rfl (conv_ptrJ (by rfl) rfl rfl (bk_J 1 (by decide) (by decide))) .nil))) ?_
 refine s_nil trivial ?_
 refine n_wp ?_
 refine w_seq ?_
 refine g_reg hP hn ?_
 refine s_op k_mv ?_
 refine s_op (k_tmp 0 (h := k_call [] (con := fillText_0) (hargs := by exact .cons rfl (conv_ptrJ (by rfl) rfl rfl (bk_J 2 (by decide) (by decide))) .nil))) ?_
 refine s_nil trivial ?_
 refine n_wp ?_
 refine w_seq ?_
 refine g_reg hP hn ?_
 refine s_op k_mv ?_
 refine s_op (k_tmp 0 (h := k_call [] (con := fillNum_0) (hargs := by exact .cons rfl (conv_ptrJ (by rfl) rfl rfl (bk_J 3 (by decide) (by decide))) .nil))) ?_
 refine s_nil trivial ?_
 refine n_wp ?_
 refine w_seq ?_
 refine g_reg hP hn ?_
 refine s_op k_mv ?_
 refine s_op (k_tmp 0 (h := k_call [] (con := fillSum_0) (hargs := by exact .cons rfl (conv_ptrJ (by rfl) rfl rfl (bk_J 4 (by decide) (by decide))) .nil))) ?_
 refine s_nil trivial ?_
 refine n_wp ?_
 refine w_seq ?_
 refine w_weak (weak_tm (T' := [(0, .s (.ptr 0 0 0))])) ?_
 refine g_reg hP hn ?_
 refine s_op k_mv ?_
 refine s_op (k_tmp 0 (h := k_call [] (con := fillTag_0) (hargs := by exact .cons rfl (conv_ptrJ (by rfl) rfl rfl (bk_J 5 (by decide) (by decide))) .nil))) ?_
 refine s_nil trivial ?_
 refine n_wp ?_
 refine w_seq ?_
 refine g_reg hP hn ?_
 refine s_op k_mv ?_
 refine s_op (k_tmp 0 (h := k_call [] (con := fillSpot_0) (hargs := by exact .cons rfl (conv_ptrJ (by rfl) rfl rfl (bk_J 6 (by decide) (by decide))) .nil))) ?_
 refine s_nil trivial ?_
 refine n_wp ?_
 refine w_seq ?_
 refine g_reg hP hn ?_
 refine s_op k_mv ?_
 refine s_op (k_tmp 0 (h := k_call [] (con := fillGen_0) (hargs := by exact .cons rfl (conv_ptrJ (by rfl) rfl rfl (bk_J 7 (by decide) (by decide))) .nil))) ?_
 refine s_nil trivial ?_
 refine n_wp ?_
 refine w_seq ?_
 refine g_reg hP hn ?_
 refine s_op k_mv ?_
 refine s_op (k_tmp 0 (h := k_call [] (con := fillLane_0) (hargs := by exact .cons rfl (conv_ptrJ (by rfl) rfl rfl (bk_J 8 (by decide) (by decide))) .nil))) ?_
 refine s_nil trivial ?_
 refine n_wp ?_
 refine w_seq ?_
 refine g_reg hP hn ?_
 refine s_op k_mv ?_
 refine s_op (k_tmp 0 (h := k_call [] (con := fillParam_0) (hargs := by exact .cons rfl (conv_ptrJ (by rfl) rfl rfl (bk_J 9 (by decide) (by decide))) .nil))) ?_
 refine s_nil trivial ?_
 refine n_wp ?_
 refine w_seq ?_
 refine w_weak (weak_tm (T' := [(0, .s (.ptr 0 0 0))])) ?_
 refine g_reg hP hn ?_
 refine s_op k_mv ?_
 refine s_op (k_tmp 0 (h := k_call [] (con := fillPacket_0) (hargs := by exact .cons rfl (conv_ptrJ (by rfl) rfl rfl (bk_J 10 (by decide) (by decide))) .nil))) ?_
 refine s_nil trivial ?_
 refine n_wp ?_
 refine w_seq ?_
 refine g_reg hP hn ?_
 refine s_op k_mv ?_
 refine s_op (k_tmp 0 (h := k_call [] (con := fillFrame_0) (hargs := by exact .cons rfl (conv_ptrJ (by rfl) rfl rfl (bk_J 11 (by decide) (by decide))) .nil))) ?_
 refine s_nil trivial ?_
 refine n_wp ?_
 refine w_seq ?_
 refine g_reg hP hn ?_
 refine s_op k_mv ?_
 refine s_op (k_tmp 0 (h := k_call [] (con := fillMail_0) (hargs := by exact .cons rfl (conv_ptrJ (by rfl) rfl rfl (bk_J 12 (by decide) (by decide))) .nil))) ?_
 refine s_nil trivial ?_
 refine n_wp ?_
 refine w_seq ?_
 refine g_reg hP hn ?_
 refine s_op k_mv ?_
 refine s_op (k_tmp 0 (h := k_call [] (con := fillSession_0) (hargs := by exact .cons rfl (conv_ptrJ (by rfl) rfl rfl (bk_J 13 (by decide) (by decide))) .nil))) ?_
 refine s_nil trivial ?_
 refine n_wp ?_
 refine w_seq ?_
 refine g_reg hP hn ?_
 refine s_op k_mv ?_
 refine s_op (k_tmp 0 (h := k_call [] (con := fillRecord_0) (hargs := by exact .cons rfl (conv_ptrJ (by rfl) rfl rfl (bk_J 14 (by decide) (by decide))) .nil))) ?_
 refine s_nil trivial ?_
 refine n_wp ?_
 refine w_seq ?_
 refine w_weak (weak_tm (T' := [(0, .s (.ptr 0 0 0))])) ?_
 refine g_reg hP hn ?_
 refine s_op k_mv ?_
 refine s_op (k_call [0, 1, 2] (con := grow_CA X1 hX1) (H' := [some ⟨true, [.one (.int .i64 ((2 : Nat) : Int)), .one (.gro 2 3 2), .one .nils, .one .nils, .one .nils, .one .nils, .one .nils, .one .nils, .one .nils, .one .nils, .one .nils, .one .nils, .one .nils, .one .nils, .one .nils, .one .nils]⟩, some ⟨true, [.ints .u8 (X1.length + 1) (List.replicate (X1.length + 1) 2)]⟩, some ⟨true, [.one .nils, .one (.gro 3 1 (0 + 40)), .one (.int .i64 ((1 : Nat) : Int)), .one (.slice 1 0 0 X1.length (X1.length + 1)), .one (.gro 4 1 (X1.length + 40)), .one (.int .i64 ((2 : Nat) : Int))]⟩, some ⟨true, [.ints .u8 (0 + 40) (List.replicate (0 + 40) 1)]⟩, some ⟨true, [.ints .u8 (X1.length + 40) (List.replicate (X1.length + 40) 2)]⟩]) (hH := by kernel_rfl)) ?_
 refine s_nil trivial ?_
 refine n_wp ?_
 refine w_seq ?_
 refine g_reg hP hn ?_
 refine s_op k_mv ?_
 refine s_op (k_tmp 0 (h := k_call [] (con := growInt_0) (hargs := by exact .cons rfl (conv_ptrJ (by rfl) rfl rfl (bk_J 1 (by decide) (by decide))) .nil))) ?_
 refine s_nil trivial ?_
 refine n_wp ?_
 refine w_seq ?_
 refine g_reg hP hn ?_
 refine s_op k_mv ?_
 refine s_op (k_tmp 0 (h := k_call [] (con := growText_0) (hargs := by exact .cons rfl (conv_ptrJ (by rfl) rfl rfl (bk_J 2 (by decide) (by decide))) .nil))) ?_
 refine s_nil trivial ?_
 refine n_wp ?_
 refine w_seq ?_
 refine g_reg hP hn ?_
 refine s_op k_mv ?_
 refine s_op (k_tmp 0 (h := k_call [] (con := growNum_0) (hargs := by exact .cons rfl (conv_ptrJ (by rfl) rfl rfl (bk_J 3 (by decide) (by decide))) .nil))) ?_
 refine s_nil trivial ?_
 refine n_wp ?_
 refine w_seq ?_
 refine g_reg hP hn ?_
 refine s_op k_mv ?_
 refine s_op (k_tmp 0 (h := k_call [] (con := growSum_0) (hargs := by exact .cons rfl (conv_ptrJ (by rfl) rfl rfl (bk_J 4 (by decide) (by decide))) .nil))) ?_
 refine s_nil trivial ?_
 refine n_wp ?_
 refine w_seq ?_
 refine w_weak (weak_tm (T' := [(0, .s (.ptr 0 0 0))])) ?_
 refine g_reg hP hn ?_
 refine s_op k_mv ?_
 refine s_op (k_tmp 0 (h := k_call [] (con := growTag_0) (hargs := by exact .cons rfl (conv_ptrJ (by rfl) rfl rfl (bk_J 5 (by decide) (by decide))) .nil))) ?_
 refine s_nil trivial ?_
 refine n_wp ?_
 refine w_seq ?_
 refine g_reg hP hn ?_
 refine s_op k_mv ?_
 refine s_op (k_tmp 0 (h := k_call [] (con := growSpot_0) (hargs := by exact .cons rfl (conv_ptrJ (by rfl) rfl rfl (bk_J 6 (by decide) (by decide))) .nil))) ?_
 refine s_nil trivial ?_
 refine n_wp ?_
 refine w_seq ?_
 refine g_reg hP hn ?_
 refine s_op k_mv ?_
 refine s_op (k_tmp 0 (h := k_call [] (con := growGen_0) (hargs := by exact .cons rfl (conv_ptrJ (by rfl) rfl rfl (bk_J 7 (by decide) (by decide))) .nil))) ?_
 refine s_nil trivial ?_
 refine n_wp ?_
 refine w_seq ?_
 refine g_reg hP hn ?_
 refine s_op k_mv ?_
 refine s_op (k_tmp 0 (h := k_call [] (con := growLane_0) (hargs := by exact .cons rfl (conv_ptrJ (by rfl) rfl rfl (bk_J 8 (by decide) (by decide))) .nil))) ?_
 refine s_nil trivial ?_
 refine n_wp ?_
 refine w_seq ?_
 refine g_reg hP hn ?_
 refine s_op k_mv ?_
 refine s_op (k_tmp 0 (h := k_call [] (con := growParam_0) (hargs := by exact .cons rfl (conv_ptrJ (by rfl) rfl rfl (bk_J 9 (by decide) (by decide))) .nil))) ?_
 refine s_nil trivial ?_
 refine n_wp ?_
 refine w_seq ?_
 refine w_weak (weak_tm (T' := [(0, .s (.ptr 0 0 0))])) ?_
 refine g_reg hP hn ?_
 refine s_op k_mv ?_
 refine s_op (k_tmp 0 (h := k_call [] (con := growPacket_0) (hargs := by exact .cons rfl (conv_ptrJ (by rfl) rfl rfl (bk_J 10 (by decide) (by decide))) .nil))) ?_
 refine s_nil trivial ?_
 refine n_wp ?_
 refine w_seq ?_
 refine g_reg hP hn ?_
 refine s_op k_mv ?_
 refine s_op (k_tmp 0 (h := k_call [] (con := growFrame_0) (hargs := by exact .cons rfl (conv_ptrJ (by rfl) rfl rfl (bk_J 11 (by decide) (by decide))) .nil))) ?_
 refine s_nil trivial ?_
 refine n_wp ?_
 refine w_seq ?_
 refine g_reg hP hn ?_
 refine s_op k_mv ?_
 refine s_op (k_tmp 0 (h := k_call [] (con := growMail_0) (hargs := by exact .cons rfl (conv_ptrJ (by rfl) rfl rfl (bk_J 12 (by decide) (by decide))) .nil))) ?_
 refine s_nil trivial ?_
 refine n_wp ?_
 refine w_seq ?_
 refine g_reg hP hn ?_
 refine s_op k_mv ?_
 refine s_op (k_tmp 0 (h := k_call [] (con := growSession_0) (hargs := by exact .cons rfl (conv_ptrJ (by rfl) rfl rfl (bk_J 13 (by decide) (by decide))) .nil))) ?_
 refine s_nil trivial ?_
 refine n_wp ?_
 refine w_seq ?_
 refine g_reg hP hn ?_
 refine s_op k_mv ?_
 refine s_op (k_tmp 0 (h := k_call [] (con := growRecord_0) (hargs := by exact .cons rfl (conv_ptrJ (by rfl) rfl rfl (bk_J 14 (by decide) (by decide))) .nil))) ?_
 refine s_nil trivial ?_
 refine n_wp ?_
 refine w_seq ?_
 refine w_weak (weak_tm (T' := [(0, .s (.ptr 0 0 0))])) ?_
 refine g_reg hP hn ?_
 refine s_op k_mv ?_
 refine s_op (k_call [0, 1, 2, 3, 4] (con := look_CA X1 hX1)) ?_
 refine s_op k_mv ?_
 refine s_on rfl rfl rfl k_mv ?_
 refine s_on rfl rfl rfl (k_tmp 0 (h := k_call [] (con := lookInt_0) (hargs := by exact .cons rfl (conv_ptrJ (by rfl) rfl rfl (bk_J 1 (by decide) (by decide))) .nil))) ?_
 refine s_op k_pk ?_
 refine s_op k_mv ?_
 refine s_on rfl rfl rfl k_mv ?_
 refine s_on rfl rfl rfl (k_tmp 0 (h := k_call [] (con := lookText_0) (hargs := by exact .cons rfl (conv_ptrJ (by rfl) rfl rfl (bk_J 2 (by decide) (by decide))) .nil))) ?_
 refine s_op k_pk ?_
 refine s_op k_mv ?_
 refine s_on rfl rfl rfl k_mv ?_
 refine s_on rfl rfl rfl (k_tmp 0 (h := k_call [] (con := lookNum_0) (hargs := by exact .cons rfl (conv_ptrJ (by rfl) rfl rfl (bk_J 3 (by decide) (by decide))) .nil))) ?_
 refine s_op k_pk ?_
 refine s_op k_mv ?_
 refine s_on rfl rfl rfl k_mv ?_
 refine s_on rfl rfl rfl (k_tmp 0 (h := k_call [] (con := lookSum_0) (hargs := by exact .cons rfl (conv_ptrJ (by rfl) rfl rfl (bk_J 4 (by decide) (by decide))) .nil))) ?_
 refine s_op k_pk ?_
 refine s_op k_mv ?_
 refine s_on rfl rfl rfl k_mv ?_
 refine s_on rfl rfl rfl (k_tmp 0 (h := k_call [] (con := lookTag_0) (hargs := by exact .cons rfl (conv_ptrJ (by rfl) rfl rfl (bk_J 5 (by decide) (by decide))) .nil))) ?_
 refine s_op k_pk ?_
 refine s_op k_mv ?_
 refine s_on rfl rfl rfl k_mv ?_
 refine s_on rfl rfl rfl (k_tmp 0 (h := k_call [] (con := lookSpot_0) (hargs := by exact .cons rfl (conv_ptrJ (by rfl) rfl rfl (bk_J 6 (by decide) (by decide))) .nil))) ?_
 refine s_op k_pk ?_
 refine s_op k_mv ?_
 refine s_on rfl rfl rfl k_mv ?_
 refine s_on rfl rfl rfl (k_tmp 0 (h := k_call [] (con := lookGen_0) (hargs := by exact .cons rfl (conv_ptrJ (by rfl) rfl rfl (bk_J 7 (by decide) (by decide))) .nil))) ?_
 refine s_op k_pk ?_
 refine s_op k_mv ?_
 refine s_on rfl rfl rfl k_mv ?_
 refine s_on rfl rfl rfl (k_tmp 0 (h := k_call [] (con := lookLane_0) (hargs := by exact .cons rfl (conv_ptrJ (by rfl) rfl rfl (bk_J 8 (by decide) (by decide))) .nil))) ?_
 refine s_op k_pk ?_
 refine s_op k_mv ?_
 refine s_on rfl rfl rfl k_mv ?_
 refine s_on rfl rfl rfl (k_tmp 0 (h := k_call [] (con := lookParam_0) (hargs := by exact .cons rfl (conv_ptrJ (by rfl) rfl rfl (bk_J 9 (by decide) (by decide))) .nil))) ?_
 refine s_op k_pk ?_
 refine s_op k_mv ?_
 refine s_on rfl rfl rfl k_mv ?_
 refine s_on rfl rfl rfl (k_tmp 0 (h := k_call [] (con := lookPacket_0) (hargs := by exact .cons rfl (conv_ptrJ (by rfl) rfl rfl (bk_J 10 (by decide) (by decide))) .nil))) ?_
 refine s_op k_pk ?_
 refine s_op k_mv ?_
 refine s_on rfl rfl rfl k_mv ?_
 refine s_on rfl rfl rfl (k_tmp 0 (h := k_call [] (con := lookFrame_0) (hargs := by exact .cons rfl (conv_ptrJ (by rfl) rfl rfl (bk_J 11 (by decide) (by decide))) .nil))) ?_
 refine s_op k_pk ?_
 refine s_op k_mv ?_
 refine s_on rfl rfl rfl k_mv ?_
 refine s_on rfl rfl rfl (k_tmp 0 (h := k_call [] (con := lookMail_0) (hargs := by exact .cons rfl (conv_ptrJ (by rfl) rfl rfl (bk_J 12 (by decide) (by decide))) .nil))) ?_
 refine s_op k_pk ?_
 refine s_op k_mv ?_
 refine s_on rfl rfl rfl k_mv ?_
 refine s_on rfl rfl rfl (k_tmp 0 (h := k_call [] (con := lookSession_0) (hargs := by exact .cons rfl (conv_ptrJ (by rfl) rfl rfl (bk_J 13 (by decide) (by decide))) .nil))) ?_
 refine s_op k_pk ?_
 refine s_op k_mv ?_
 refine s_on rfl rfl rfl k_mv ?_
 refine s_on rfl rfl rfl (k_tmp 0 (h := k_call [] (con := lookRecord_0) (hargs := by exact .cons rfl (conv_ptrJ (by rfl) rfl rfl (bk_J 14 (by decide) (by decide))) .nil))) ?_
 refine s_op k_pk ?_
 refine s_op k_as ?_
 refine s_nil trivial ?_
 refine n_wp ?_
 refine w_ret ?_
 exact d_ret hP hn hE [0, 1, 2, 3, 4] (by first | exact r_tmp Tryz.results14 | exact r_tmpa Tryz.results14)

end Go.Proofs.X
end

section
open Go Go.Bx Go.Proofs
namespace Go.Proofs.X
set_option maxRecDepth 100000
set_option maxHeartbeats 4000000
attribute [local irreducible] kM kC kA kyR kK be rmac wd
theorem eqKey (M C : List Int) (hM : M.length = 32) (hC : C.length = 16) {fs : Array Field} [hu : Und Tryz.prog 58 (.struct fs)] (hfs : fs = #[{ name := "Mac", type := 51, offset := 0, embedded := false, tag := "", pkgPath := "", byteOffset := 0 }, { name := "Cipher", type := 22, offset := 32, embedded := false, tag := "", pkgPath := "", byteOffset := 32 }] := by exact rfl) : EqF Tryz.prog 9997 fs.toList 0 [.ints .u8 32 M, .ints .u8 16 C] [.ints .u8 32 M, .ints .u8 16 C] true := by
 subst hfs
 have h : EqF Tryz.prog 9997 [{ name := "Mac", type := 51, offset := 0, embedded := false, tag := "", pkgPath := "", byteOffset := 0 }, { name := "Cipher", type := 22, offset := 32, embedded := false, tag := "", pkgPath := "", byteOffset := 32 }] 0 [.ints .u8 32 M, .ints .u8 16 C] [.ints .u8 32 M, .ints .u8 16 C] (decide (M = M) && (decide (C = C) && true)) := .ints (by decide) rfl Und.h Und.h Sz.h Ag.h Ag.h Sz.h hM hM (.ints (by decide) rfl Und.h Und.h Sz.h Ag.h Ag.h Sz.h hC hC .nil)
 rwa [decide_eq_true rfl, decide_eq_true rfl] at h
theorem km_n2 (v : Nat) (ID : List Int) (hID : ID.length = 32) (n : Nat) (hm : n ≤ 8160) : Con Tryz.prog 16 [.agg [.ints .u64 4 (zs (wd v))], .agg [.ints .u8 32 ID], .s (.int .i64 ((n : Nat) : Int))] [] (.tup [.s (.slice 0 0 0 (kA (kK v ID) n).length (kA (kK v ID) n).length), .s (.int .i64 0)]) [some ⟨true, [.ints .u8 (kA (kK v ID) n).length (kA (kK v ID) n)]⟩] := by
  have c := km_n v ID hID n hm
  have e := kA_len (kK v ID) n
  generalize kA (kK v ID) n = A at *
  subst e
  exact c

theorem law10_z (v : Nat) (ID B : List Int) (q p : Int) (hID : ID.length = 32) (hz : 20000 < B.length) : Con Tryz.prog 4 [.agg [.ints .u64 4 (zs (wd v)), .ints .u8 32 ID, .one (.int .i64 q), .one (.int .i64 p), .one (.fzi .u8 B)]] [] (.s (.bool true)) [] := by
 refine con_in 90 Tryz.func4 rfl rfl (m := 0) rfl ?_
 intro E hP hn hE
 refine w_seq ?_
 refine g_reg hP hn ?_
 refine s_op k_bxf ?_
 refine s_op k_as ?_
 refine s_nil trivial ?_
 refine n_wp ?_
 refine w_seq ?_
 refine w_seq ?_
 refine g_reg hP hn ?_
 refine s_op k_fa ?_
 refine s_op (k_ld (h := by exact a_loadf (v := .fzi .u8 B) rfl (by exact Nat.le_of_ble_eq_true rfl) (by kernel_rfl))) ?_
 refine s_op k_len ?_
 refine s_op k_gtr ?_
 refine s_nil trivial ?_
 refine n_wp ?_
 refine w_T rfl ?_ (decide_eq_true (by omega))
 refine w_seq ?_
 refine g_reg hP hn ?_
 refine s_op (k_call [] (con := lives10_c)) ?_
 refine s_op k_as ?_
 refine s_nil trivial ?_
 refine n_wp ?_
 refine w_ret ?_
 refine r_thn ?_
 exact d_ret hP hn hE [] (by first | exact r_tmp Tryz.results4 | exact r_tmpa Tryz.results4)

theorem law10_y (v : Nat) (ID B : List Int) (q p : Int) (hID : ID.length = 32) (hz : ¬ 20000 < B.length) (A : List Int) (hA : A.length ≤ 8160) (hka : Con Tryz.prog 16 [.agg [.ints .u64 4 (zs (wd v))], .agg [.ints .u8 32 ID], .s (.int .i64 q)] [] (.tup [.s (.slice 0 0 0 A.length A.length), .s (.int .i64 0)]) [some ⟨true, [.ints .u8 A.length A]⟩]) (hkb : Con Tryz.prog 17 [.agg [.ints .u64 4 (zs (wd v))], .agg [.ints .u8 32 ID], .s (.int .i64 q)] [] (.tup [.s (.fzi .u8 A), .s (.int .i64 0)]) []) (M C : List Int) (ec : Int) (hM : M.length = 32) (hC : C.length = 16) (hca : Con Tryz.prog 18 [.s (.fzi .u8 B), .s (.int .i64 p)] [] (.tup [.agg [.ints .u8 32 M, .ints .u8 16 C], .s (.int .i64 ec)]) []) (hcb : Con Tryz.prog 19 [.s (.fzi .u8 B), .s (.int .i64 p)] [] (.tup [.agg [.ints .u8 32 M, .ints .u8 16 C], .s (.int .i64 ec)]) []) : Con Tryz.prog 4 [.agg [.ints .u64 4 (zs (wd v)), .ints .u8 32 ID, .one (.int .i64 q), .one (.int .i64 p), .one (.fzi .u8 B)]] [] (.s (.bool true)) [] := by
 refine con_in 90 Tryz.func4 rfl rfl (m := 0) rfl ?_
 intro E hP hn hE
 refine w_seq ?_
 refine g_reg hP hn ?_
 refine s_op k_bxf ?_
 refine s_op k_as ?_
 refine s_nil trivial ?_
 refine n_wp ?_
 refine w_seq ?_
 refine w_seq ?_
 refine g_reg hP hn ?_
 refine s_op k_fa ?_
 refine s_op (k_ld (h := by exact a_loadf (v := .fzi .u8 B) rfl (by exact Nat.le_of_ble_eq_true rfl) (by kernel_rfl))) ?_
 refine s_op k_len ?_
 refine s_op k_gtr ?_
 refine s_nil trivial ?_
 refine n_wp ?_
 refine w_F rfl ?_ (decide_eq_false (by omega))
 refine w_skip ?_
 refine n_wp ?_
 refine w_seq ?_
 refine g_reg hP hn ?_
 refine s_op k_fa ?_
 refine s_op (k_ld (h := by exact a_loadf_agg (sub := [.ints .u64 4 (zs (wd v))]) (r := [.ints .u64 4 (zs (wd v)), .ints .u8 32 ID, .one (.int .i64 q), .one (.int .i64 p), .one (.fzi .u8 B)]) rfl (by exact Nat.le_of_ble_eq_true rfl) (by kernel_rfl) (by kernel_rfl))) ?_
 refine s_op k_fa ?_
 refine s_op (k_ld (h := by exact a_loadf_agg (sub := [.ints .u8 32 ID]) (r := [.ints .u8 32 ID, .one (.int .i64 q), .one (.int .i64 p), .one (.fzi .u8 B)]) rfl (by exact Nat.le_of_ble_eq_true rfl) (by kernel_rfl) (by kernel_rfl))) ?_
 refine s_op k_fa ?_
 refine s_op (k_ld (h := by exact a_loadf (v := .int .i64 q) rfl (by exact Nat.le_of_ble_eq_true rfl) (by kernel_rfl))) ?_
 refine s_op (k_call [] (con := hka) (H' := [none, some ⟨true, [.ints .u8 A.length A]⟩]) (hH := by kernel_rfl)) ?_
 refine s_op k_mv ?_
 refine s_op k_ex ?_
 refine s_op k_ex ?_
 refine s_op k_as ?_
 refine s_op k_as ?_
 refine s_nil trivial ?_
 refine n_wp ?_
 refine w_seq ?_
 refine g_reg hP hn ?_
 refine s_op k_fa ?_
 refine s_op (k_ld (h := by exact a_loadf_agg (sub := [.ints .u64 4 (zs (wd v))]) (r := [.ints .u64 4 (zs (wd v)), .ints .u8 32 ID, .one (.int .i64 q), .one (.int .i64 p), .one (.fzi .u8 B)]) rfl (by exact Nat.le_of_ble_eq_true rfl) (by kernel_rfl) (by kernel_rfl))) ?_
 refine s_op k_fa ?_
 refine s_op (k_ld (h := by exact a_loadf_agg (sub := [.ints .u8 32 ID]) (r := [.ints .u8 32 ID, .one (.int .i64 q), .one (.int .i64 p), .one (.fzi .u8 B)]) rfl (by exact Nat.le_of_ble_eq_true rfl) (by kernel_rfl) (by kernel_rfl))) ?_
 refine s_op k_fa ?_
 refine s_op (k_ld (h := by exact a_loadf (v := .int .i64 q) rfl (by exact Nat.le_of_ble_eq_true rfl) (by kernel_rfl))) ?_
 refine s_op (k_call [] (con := hkb)) ?_
 refine s_op k_mv ?_
 refine s_op k_ex ?_
 refine s_op k_ex ?_
 refine s_op k_as ?_
 refine s_op k_as ?_
 refine s_nil trivial ?_
 refine n_wp ?_
 refine w_seq ?_
 refine g_reg hP hn ?_
 refine s_op k_fa ?_
 refine s_op (k_ld (h := by exact a_loadf (v := .fzi .u8 B) rfl (by exact Nat.le_of_ble_eq_true rfl) (by kernel_rfl))) ?_
 refine s_op (k_call [] (con := twin_c B (by omega)) (H' := [none, some ⟨true, [.ints .u8 A.length A]⟩, some ⟨true, [.ints .u8 (B.length + 1) (B ++ [77])]⟩]) (hH := by kernel_rfl)) ?_
 refine s_op k_as ?_
 refine s_nil trivial ?_
 refine n_wp ?_
 refine w_seq ?_
 refine g_reg hP hn ?_
 refine s_op k_mv ?_
 refine s_op k_fa ?_
 refine s_op (k_ld (h := by exact a_loadf (v := .int .i64 p) rfl (by exact Nat.le_of_ble_eq_true rfl) (by kernel_rfl))) ?_
 refine s_op (k_tmp 2 (h := k_call [] (con := hca) (hargs := by exact .cons rfl (conv_sl (kk := .u8) (n := B.length + 1) (l := B ++ [77]) (by rfl) rfl rfl (by omega) (by omega) (by simp) (by simp)) (.cons rfl cv .nil)))) ?_
 refine s_op k_mv ?_
 refine s_op k_ex ?_
 refine s_op k_ex ?_
 refine s_op k_al ?_
 refine s_st (k_st (h := by exact a_store_agg rfl rfl rfl (put_w (by kernel_rfl)) (by exact Nat.le_of_ble_eq_true rfl) (by kernel_rfl) (by repeat (first | exact hset_0 | apply hset_s)))) ?_
 refine s_op k_as ?_
 refine s_nil trivial ?_
 refine n_wp ?_
 refine w_seq ?_
 refine g_reg hP hn ?_
 refine s_op k_fa ?_
 refine s_op (k_ld (h := by exact a_loadf (v := .fzi .u8 B) rfl (by exact Nat.le_of_ble_eq_true rfl) (by kernel_rfl))) ?_
 refine s_op k_fa ?_
 refine s_op (k_ld (h := by exact a_loadf (v := .int .i64 p) rfl (by exact Nat.le_of_ble_eq_true rfl) (by kernel_rfl))) ?_
 refine s_op (k_call [] (con := hcb)) ?_
 refine s_op k_mv ?_
 refine s_op k_ex ?_
 refine s_op k_ex ?_
 refine s_op k_al ?_
 refine s_st (k_st (h := by exact a_store_agg rfl rfl rfl (put_w (by kernel_rfl)) (by exact Nat.le_of_ble_eq_true rfl) (by kernel_rfl) (by repeat (first | exact hset_0 | apply hset_s)))) ?_
 refine s_op k_as ?_
 refine s_nil trivial ?_
 refine n_wp ?_
 refine w_seq ?_
 refine g_reg hP hn ?_
 refine s_op k_al ?_
 refine s_nil trivial ?_
 refine n_wp ?_
 refine w_seq ?_
 refine g_reg hP hn ?_
 refine s_op k_mv ?_
 refine s_op (k_call [5, 1] (con := bytes_B A) (H' := [none, some ⟨true, [.ints .u8 A.length A]⟩, some ⟨true, [.ints .u8 (B.length + 1) (B ++ [77])]⟩, some ⟨true, [.ints .u8 32 M, .ints .u8 16 C]⟩, some ⟨true, [.ints .u8 32 M, .ints .u8 16 C]⟩, some ⟨true, [.one (.int .i64 ((1 : Nat) : Int)), .one (.gro 6 3 1), .one .nils, .one .nils, .one .nils, .one .nils, .one .nils, .one .nils, .one .nils, .one .nils, .one .nils, .one .nils, .one .nils, .one .nils, .one .nils, .one .nils]⟩, some ⟨true, [.one (.slice 1 0 0 A.length A.length), .one .nils, .one (.int .i64 ((1 : Nat) : Int))]⟩]) (hH := by kernel_rfl)) ?_
 refine s_nil trivial ?_
 refine n_wp ?_
 refine w_seq ?_
 refine g_reg hP hn ?_
 refine s_op k_mv ?_
 refine s_op (k_call [5, 1, 2, 6] (con := bytes_BA A B) (H' := [none, some ⟨true, [.ints .u8 A.length A]⟩, some ⟨true, [.ints .u8 (B.length + 1) (B ++ [77])]⟩, some ⟨true, [.ints .u8 32 M, .ints .u8 16 C]⟩, some ⟨true, [.ints .u8 32 M, .ints .u8 16 C]⟩, some ⟨true, [.one (.int .i64 ((2 : Nat) : Int)), .one (.gro 7 3 2), .one .nils, .one .nils, .one .nils, .one .nils, .one .nils, .one .nils, .one .nils, .one .nils, .one .nils, .one .nils, .one .nils, .one .nils, .one .nils, .one .nils]⟩, none, some ⟨true, [.one (.slice 1 0 0 A.length A.length), .one .nils, .one (.int .i64 ((1 : Nat) : Int)), .one (.slice 2 0 0 B.length (B.length + 1)), .one .nils, .one (.int .i64 ((2 : Nat) : Int))]⟩]) (hH := by kernel_rfl)) ?_
 refine s_nil trivial ?_
 refine n_wp ?_
 refine w_seq ?_
 refine g_reg hP hn ?_
 refine s_op k_mv ?_
 refine s_op k_mv ?_
 refine s_op (l_bin rfl rfl (b_eql (r := true) (decide_eq_true rfl))) ?_
 refine s_op k_mv ?_
 refine s_on rfl rfl rfl k_mv ?_
 refine s_on rfl rfl rfl k_mv ?_
 refine s_on rfl rfl rfl (k_tmp 1 (h := k_call [] (con := same_n A (by omega)) (hargs := by exact .cons rfl (conv_sl (kk := .u8) (n := A.length) (l := A) (by rfl) rfl rfl (by omega) (by omega) rfl (by rw [List.drop_zero]; exact List.take_length)) (.cons rfl cv .nil)))) ?_
 refine s_op k_pk ?_
 refine s_op k_mv ?_
 refine s_on rfl rfl rfl k_mv ?_
 refine s_on rfl rfl rfl k_mv ?_
 refine s_on rfl rfl rfl (l_bin rfl rfl (b_eql (r := true) (decide_eq_true rfl))) ?_
 refine s_op k_pk ?_
 refine s_op k_mv ?_
 refine s_on rfl rfl rfl (k_ld (h := by exact a_load_whole rfl rfl (by kernel_rfl))) ?_
 refine s_on rfl rfl rfl (k_ld (h := by exact a_load_whole rfl rfl (by kernel_rfl))) ?_
 refine s_on rfl rfl rfl (k_eqS rfl rfl (eqKey M C hM hC)) ?_
 refine s_op k_pk ?_
 refine s_op k_mv ?_
 refine s_on rfl rfl rfl k_mv ?_
 refine s_on rfl rfl rfl k_fa ?_
 refine s_on rfl rfl rfl (k_ld (h := by exact a_loadf (v := .fzi .u8 B) rfl (by exact Nat.le_of_ble_eq_true rfl) (by kernel_rfl))) ?_
 refine s_on rfl rfl rfl (k_call [2] (con := left_n B (by omega))) ?_
 refine s_op k_pk ?_
 refine s_op k_mv ?_
 refine s_on rfl rfl rfl (k_call [5, 1, 2, 7] (con := apart_BA A (by omega) B (by omega))) ?_
 refine s_op k_pk ?_
 refine s_op k_mv ?_
 refine s_on rfl rfl rfl (k_call [] (con := lives10_c)) ?_
 refine s_op k_pk ?_
 refine s_op k_as ?_
 refine s_nil trivial ?_
 refine n_wp ?_
 refine w_ret ?_
 exact d_ret hP hn hE [] (by first | exact r_tmp Tryz.results4 | exact r_tmpa Tryz.results4)

theorem law10_n (v : Nat) (ID B : List Int) (q p : Int) (hID : ID.length = 32) (hz : ¬ 20000 < B.length) (ea : Int) (hka : Con Tryz.prog 16 [.agg [.ints .u64 4 (zs (wd v))], .agg [.ints .u8 32 ID], .s (.int .i64 q)] [] (.tup [.s .nils, .s (.int .i64 ea)]) []) (hkb : Con Tryz.prog 17 [.agg [.ints .u64 4 (zs (wd v))], .agg [.ints .u8 32 ID], .s (.int .i64 q)] [] (.tup [.s .nils, .s (.int .i64 ea)]) []) (M C : List Int) (ec : Int) (hM : M.length = 32) (hC : C.length = 16) (hca : Con Tryz.prog 18 [.s (.fzi .u8 B), .s (.int .i64 p)] [] (.tup [.agg [.ints .u8 32 M, .ints .u8 16 C], .s (.int .i64 ec)]) []) (hcb : Con Tryz.prog 19 [.s (.fzi .u8 B), .s (.int .i64 p)] [] (.tup [.agg [.ints .u8 32 M, .ints .u8 16 C], .s (.int .i64 ec)]) []) : Con Tryz.prog 4 [.agg [.ints .u64 4 (zs (wd v)), .ints .u8 32 ID, .one (.int .i64 q), .one (.int .i64 p), .one (.fzi .u8 B)]] [] (.s (.bool true)) [] := by
 refine con_in 90 Tryz.func4 rfl rfl (m := 0) rfl ?_
 intro E hP hn hE
 refine w_seq ?_
 refine g_reg hP hn ?_
 refine s_op k_bxf ?_
 refine s_op k_as ?_
 refine s_nil trivial ?_
 refine n_wp ?_
 refine w_seq ?_
 refine w_seq ?_
 refine g_reg hP hn ?_
 refine s_op k_fa ?_
 refine s_op (k_ld (h := by exact a_loadf (v := .fzi .u8 B) rfl (by exact Nat.le_of_ble_eq_true rfl) (by kernel_rfl))) ?_
 refine s_op k_len ?_
 refine s_op k_gtr ?_
 refine s_nil trivial ?_
 refine n_wp ?_
 refine w_F rfl ?_ (decide_eq_false (by omega))
 refine w_skip ?_
 refine n_wp ?_
 refine w_seq ?_
 refine g_reg hP hn ?_
 refine s_op k_fa ?_
 refine s_op (k_ld (h := by exact a_loadf_agg (sub := [.ints .u64 4 (zs (wd v))]) (r := [.ints .u64 4 (zs (wd v)), .ints .u8 32 ID, .one (.int .i64 q), .one (.int .i64 p), .one (.fzi .u8 B)]) rfl (by exact Nat.le_of_ble_eq_true rfl) (by kernel_rfl) (by kernel_rfl))) ?_
 refine s_op k_fa ?_
 refine s_op (k_ld (h := by exact a_loadf_agg (sub := [.ints .u8 32 ID]) (r := [.ints .u8 32 ID, .one (.int .i64 q), .one (.int .i64 p), .one (.fzi .u8 B)]) rfl (by exact Nat.le_of_ble_eq_true rfl) (by kernel_rfl) (by kernel_rfl))) ?_
 refine s_op k_fa ?_
 refine s_op (k_ld (h := by exact a_loadf (v := .int .i64 q) rfl (by exact Nat.le_of_ble_eq_true rfl) (by kernel_rfl))) ?_
 refine s_op (k_call [] (con := hka) (H' := [none]) (hH := by kernel_rfl)) ?_
 refine s_op k_mv ?_
 refine s_op k_ex ?_
 refine s_op k_ex ?_
 refine s_op k_as ?_
 refine s_op k_as ?_
 refine s_nil trivial ?_
 refine n_wp ?_
 refine w_seq ?_
 refine g_reg hP hn ?_
 refine s_op k_fa ?_
 refine s_op (k_ld (h := by exact a_loadf_agg (sub := [.ints .u64 4 (zs (wd v))]) (r := [.ints .u64 4 (zs (wd v)), .ints .u8 32 ID, .one (.int .i64 q), .one (.int .i64 p), .one (.fzi .u8 B)]) rfl (by exact Nat.le_of_ble_eq_true rfl) (by kernel_rfl) (by kernel_rfl))) ?_
 refine s_op k_fa ?_
 refine s_op (k_ld (h := by exact a_loadf_agg (sub := [.ints .u8 32 ID]) (r := [.ints .u8 32 ID, .one (.int .i64 q), .one (.int .i64 p), .one (.fzi .u8 B)]) rfl (by exact Nat.le_of_ble_eq_true rfl) (by kernel_rfl) (by kernel_rfl))) ?_
 refine s_op k_fa ?_
 refine s_op (k_ld (h := by exact a_loadf (v := .int .i64 q) rfl (by exact Nat.le_of_ble_eq_true rfl) (by kernel_rfl))) ?_
 refine s_op (k_call [] (con := hkb)) ?_
 refine s_op k_mv ?_
 refine s_op k_ex ?_
 refine s_op k_ex ?_
 refine s_op k_as ?_
 refine s_op k_as ?_
 refine s_nil trivial ?_
 refine n_wp ?_
 refine w_seq ?_
 refine g_reg hP hn ?_
 refine s_op k_fa ?_
 refine s_op (k_ld (h := by exact a_loadf (v := .fzi .u8 B) rfl (by exact Nat.le_of_ble_eq_true rfl) (by kernel_rfl))) ?_
 refine s_op (k_call [] (con := twin_c B (by omega)) (H' := [none, some ⟨true, [.ints .u8 (B.length + 1) (B ++ [77])]⟩]) (hH := by kernel_rfl)) ?_
 refine s_op k_as ?_
 refine s_nil trivial ?_
 refine n_wp ?_
 refine w_seq ?_
 refine g_reg hP hn ?_
 refine s_op k_mv ?_
 refine s_op k_fa ?_
 refine s_op (k_ld (h := by exact a_loadf (v := .int .i64 p) rfl (by exact Nat.le_of_ble_eq_true rfl) (by kernel_rfl))) ?_
 refine s_op (k_tmp 1 (h := k_call [] (con := hca) (hargs := by exact .cons rfl (conv_sl (kk := .u8) (n := B.length + 1) (l := B ++ [77]) (by rfl) rfl rfl (by omega) (by omega) (by simp) (by simp)) (.cons rfl cv .nil)))) ?_
 refine s_op k_mv ?_
 refine s_op k_ex ?_
 refine s_op k_ex ?_
 refine s_op k_al ?_
 refine s_st (k_st (h := by exact a_store_agg rfl rfl rfl (put_w (by kernel_rfl)) (by exact Nat.le_of_ble_eq_true rfl) (by kernel_rfl) (by repeat (first | exact hset_0 | apply hset_s)))) ?_
 refine s_op k_as ?_
 refine s_nil trivial ?_
 refine n_wp ?_
 refine w_seq ?_
 refine g_reg hP hn ?_
 refine s_op k_fa ?_
 refine s_op (k_ld (h := by exact a_loadf (v := .fzi .u8 B) rfl (by exact Nat.le_of_ble_eq_true rfl) (by kernel_rfl))) ?_
 refine s_op k_fa ?_
 refine s_op (k_ld (h := by exact a_loadf (v := .int .i64 p) rfl (by exact Nat.le_of_ble_eq_true rfl) (by kernel_rfl))) ?_
 refine s_op (k_call [] (con := hcb)) ?_
 refine s_op k_mv ?_
 refine s_op k_ex ?_
 refine s_op k_ex ?_
 refine s_op k_al ?_
 refine s_st (k_st (h := by exact a_store_agg rfl rfl rfl (put_w (by kernel_rfl)) (by exact Nat.le_of_ble_eq_true rfl) (by kernel_rfl) (by repeat (first | exact hset_0 | apply hset_s)))) ?_
 refine s_op k_as ?_
 refine s_nil trivial ?_
 refine n_wp ?_
 refine w_seq ?_
 refine g_reg hP hn ?_
 refine s_op k_al ?_
 refine s_nil trivial ?_
 refine n_wp ?_
 refine w_seq ?_
 refine g_reg hP hn ?_
 refine s_op k_mv ?_
 refine s_op (k_call [4] (con := bytes_C) (H' := [none, some ⟨true, [.ints .u8 (B.length + 1) (B ++ [77])]⟩, some ⟨true, [.ints .u8 32 M, .ints .u8 16 C]⟩, some ⟨true, [.ints .u8 32 M, .ints .u8 16 C]⟩, some ⟨true, [.one (.int .i64 ((1 : Nat) : Int)), .one (.gro 5 3 1), .one .nils, .one .nils, .one .nils, .one .nils, .one .nils, .one .nils, .one .nils, .one .nils, .one .nils, .one .nils, .one .nils, .one .nils, .one .nils, .one .nils]⟩, some ⟨true, [.one .nils, .one .nils, .one (.int .i64 ((1 : Nat) : Int))]⟩]) (hH := by kernel_rfl)) ?_
 refine s_nil trivial ?_
 refine n_wp ?_
 refine w_seq ?_
 refine g_reg hP hn ?_
 refine s_op k_mv ?_
 refine s_op (k_call [4, 1, 5] (con := bytes_CA B) (H' := [none, some ⟨true, [.ints .u8 (B.length + 1) (B ++ [77])]⟩, some ⟨true, [.ints .u8 32 M, .ints .u8 16 C]⟩, some ⟨true, [.ints .u8 32 M, .ints .u8 16 C]⟩, some ⟨true, [.one (.int .i64 ((2 : Nat) : Int)), .one (.gro 6 3 2), .one .nils, .one .nils, .one .nils, .one .nils, .one .nils, .one .nils, .one .nils, .one .nils, .one .nils, .one .nils, .one .nils, .one .nils, .one .nils, .one .nils]⟩, none, some ⟨true, [.one .nils, .one .nils, .one (.int .i64 ((1 : Nat) : Int)), .one (.slice 1 0 0 B.length (B.length + 1)), .one .nils, .one (.int .i64 ((2 : Nat) : Int))]⟩]) (hH := by kernel_rfl)) ?_
 refine s_nil trivial ?_
 refine n_wp ?_
 refine w_seq ?_
 refine g_reg hP hn ?_
 refine s_op k_mv ?_
 refine s_op k_mv ?_
 refine s_op (l_bin rfl rfl (b_eql (r := true) (decide_eq_true rfl))) ?_
 refine s_op k_mv ?_
 refine s_on rfl rfl rfl k_mv ?_
 refine s_on rfl rfl rfl k_mv ?_
 refine s_on rfl rfl rfl (k_call [] (con := same_n [] (Nat.zero_le _))) ?_
 refine s_op k_pk ?_
 refine s_op k_mv ?_
 refine s_on rfl rfl rfl k_mv ?_
 refine s_on rfl rfl rfl k_mv ?_
 refine s_on rfl rfl rfl (l_bin rfl rfl (b_eql (r := true) (decide_eq_true rfl))) ?_
 refine s_op k_pk ?_
 refine s_op k_mv ?_
 refine s_on rfl rfl rfl (k_ld (h := by exact a_load_whole rfl rfl (by kernel_rfl))) ?_
 refine s_on rfl rfl rfl (k_ld (h := by exact a_load_whole rfl rfl (by kernel_rfl))) ?_
 refine s_on rfl rfl rfl (k_eqS rfl rfl (eqKey M C hM hC)) ?_
 refine s_op k_pk ?_
 refine s_op k_mv ?_
 refine s_on rfl rfl rfl k_mv ?_
 refine s_on rfl rfl rfl k_fa ?_
 refine s_on rfl rfl rfl (k_ld (h := by exact a_loadf (v := .fzi .u8 B) rfl (by exact Nat.le_of_ble_eq_true rfl) (by kernel_rfl))) ?_
 refine s_on rfl rfl rfl (k_call [1] (con := left_n B (by omega))) ?_
 refine s_op k_pk ?_
 refine s_op k_mv ?_
 refine s_on rfl rfl rfl (k_call [4, 1, 6] (con := apart_CA B (by omega))) ?_
 refine s_op k_pk ?_
 refine s_op k_mv ?_
 refine s_on rfl rfl rfl (k_call [] (con := lives10_c)) ?_
 refine s_op k_pk ?_
 refine s_op k_as ?_
 refine s_nil trivial ?_
 refine n_wp ?_
 refine w_ret ?_
 exact d_ret hP hn hE [] (by first | exact r_tmp Tryz.results4 | exact r_tmpa Tryz.results4)

theorem cuts (B : List Int) (p : Int) (hB : B.length ≤ 100000) : ∃ (M C : List Int) (ec : Int), M.length = 32 ∧ C.length = 16 ∧ Con Tryz.prog 18 [.s (.fzi .u8 B), .s (.int .i64 p)] [] (.tup [.agg [.ints .u8 32 M, .ints .u8 16 C], .s (.int .i64 ec)]) [] ∧ Con Tryz.prog 19 [.s (.fzi .u8 B), .s (.int .i64 p)] [] (.tup [.agg [.ints .u8 32 M, .ints .u8 16 C], .s (.int .i64 ec)]) [] := by
  by_cases h : p < 0
  · exact ⟨_, _, _, z_len 32, z_len 16, cut_neg B hB p h, rcut_neg B hB p h⟩
  · obtain ⟨n, rfl⟩ := Int.eq_ofNat_of_zero_le (Int.not_lt.1 h)
    by_cases h2 : 48 * n + 48 ≤ B.length
    · exact ⟨_, _, _, kM_len h2, kC_len h2, cut_ok B hB n h2, rcut_ok B hB n h2⟩
    · by_cases h3 : n ≤ B.length
      · exact ⟨_, _, _, z_len 32, z_len 16, cut_far B hB n (by omega), rcut_far2 B hB n h3 (by omega)⟩
      · exact ⟨_, _, _, z_len 32, z_len 16, cut_far B hB n (by omega), rcut_far1 B hB n (by omega) (by omega)⟩
theorem law10_c (v : Nat) (ID B : List Int) (q p : Int) (hID : ID.length = 32) : Con Tryz.prog 4 [.agg [.ints .u64 4 (zs (wd v)), .ints .u8 32 ID, .one (.int .i64 q), .one (.int .i64 p), .one (.fzi .u8 B)]] [] (.s (.bool true)) [] := by
  by_cases hz : 20000 < B.length
  · exact law10_z v ID B q p hID hz
  · obtain ⟨M, C, ec, hM, hC, hca, hcb⟩ := cuts B p (by omega)
    by_cases h0 : q < 0
    · exact law10_n v ID B q p hID hz 1 (km_neg v ID q h0) (rkm_neg v ID q h0) M C ec hM hC hca hcb
    · by_cases h1 : 8160 < q
      · exact law10_n v ID B q p hID hz 3 (km_big v ID q h1) (rkm_big v ID q h1) M C ec hM hC hca hcb
      · obtain ⟨n, rfl⟩ := Int.eq_ofNat_of_zero_le (Int.not_lt.1 h0)
        exact law10_y v ID B _ p hID hz (kA (kK v ID) n) (by rw [kA_len]; omega) (km_n2 v ID hID n (by omega)) (rkm_n v ID hID n (by omega)) M C ec hM hC hca hcb

end Go.Proofs.X
end

section
/- A great number among the arguments. No program. -/
open Go Go.Bx
namespace Go.Proofs.X
open Go.ChangeShapes Go.WideShapes
theorem wf_u64 {y : Int} (h : (Lit.int .u64 y).wf = true) : 0 ≤ y ∧ y < 18446744073709551616 := by
  simp [Lit.wf, IntKind.min, IntKind.max, IntKind.signed, IntKind.bits] at h; omega
theorem num_of {l : List Int} (hl : l.length = 4) (hw : ∀ y ∈ l, (Lit.int .u64 y).wf = true) : ∃ n, n < 2 ^ 256 ∧ l = zs (wd n) := by
  obtain ⟨m, rfl, hm⟩ := nats_of (fun i => (wf_u64 (wf_getD hw i)).1)
  have hml : m.length = 4 := by rwa [zs_len] at hl
  have hB : B64 m := fun i => by
    have := (wf_u64 (wf_getD hw i)).2
    rw [← hm] at this
    omega
  refine ⟨val m % 2 ^ 256, Nat.mod_lt _ (by decide), ?_⟩
  rw [wd_mod, wd_val m hml hB]
end Go.Proofs.X
end
