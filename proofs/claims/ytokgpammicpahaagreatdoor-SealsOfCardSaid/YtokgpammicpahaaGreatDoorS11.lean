/- A part of the proofs of this claim: BBok4, BBok4AABB, BSls4AABB, BBok4AABC, BSls4AABC, BBok4AACB, BSls4AACB, BBok4AACC, BSls4AACC, BSls5, BSlsL. No conditions. -/
import Derived.Test.YtokgpammicpahaaGreatDoorS10
import Derived.Test.YtokgpammicpahaaGreatDoorS9
import Derived.Test.YtokgpammicpahaaGreatDoorS6
set_option linter.unusedVariables false
set_option linter.unusedSimpArgs false
section
open Go Go.Bx Go.Proofs
namespace Go.Proofs.X
set_option maxRecDepth 100000
set_option maxHeartbeats 4000000
theorem bk_J {n : Int} {u : SV} (j : Nat) (h0 : 0 < j) (h1 : j < 15) : ∀ i x, i < 16 → atS [.one (.int .i64 n), .one u, .one .nils, .one .nils, .one .nils, .one .nils, .one .nils, .one .nils, .one .nils, .one .nils, .one .nils, .one .nils, .one .nils, .one .nils, .one .nils, .one .nils] i = some x → (fun k => if k = j + 1 then SV.nils else SV.junk) i = .junk ∨ ((fun k => if k = j + 1 then SV.nils else SV.junk) i = x ∧ x.idB (fun _ => false) = true) := by
  intro i x hi hx
  by_cases h : i = j + 1
  · subst h
    right
    have e : x = .nils := by
      rcases j with _|_|_|_|_|_|_|_|_|_|_|_|_|_|_|j
      · omega
      all_goals first | omega | (have := Option.some.inj hx; exact this.symm)
    subst e
    simp [SV.idB]
  · left; simp [h]

end Go.Proofs.X
end

section
set_option maxRecDepth 100000
set_option maxHeartbeats 4000000
open Go Go.Bx Go.Proofs
namespace Go.Proofs.X
set_option maxRecDepth 100000
set_option maxHeartbeats 4000000
theorem apart_AABB (X0 : List Int) (hX0 : X0.length ≤ 100000) (X1 : List Int) (hX1 : X1.length ≤ 100000) (X2 : List Int) (hX2 : X2.length ≤ 100000) (X3 : List Int) (hX3 : X3.length ≤ 100000) : Con Tryz.prog 14 [.s (.ptr 0 0 0)] [BKb 4 (.gro 5 3 4), IB (X0.length + 1) (X0 ++ [77]), IB (X1.length + 1) (X1 ++ [77]), IB X2.length X2, IB X3.length X3, RB (R3 (.slice 1 0 0 X0.length (X0.length + 1)) .nils 1 (R3 (.slice 2 0 0 X1.length (X1.length + 1)) .nils 2 (R3 (.slice 3 0 0 X2.length X2.length) .nils 3 (R3 (.slice 4 0 0 X3.length X3.length) .nils 4 []))))] (.s (.bool true)) [BKb 4 (.gro 5 3 4), IB (X0.length + 1) (List.replicate (X0.length + 1) 1), IB (X1.length + 1) (List.replicate (X1.length + 1) 2), IB X2.length (List.replicate X2.length 3), IB X3.length (List.replicate X3.length 4), RB (R3 (.slice 1 0 0 X0.length (X0.length + 1)) (.gro 6 1 (X0.length + 40)) 1 (R3 (.slice 2 0 0 X1.length (X1.length + 1)) (.gro 7 1 (X1.length + 40)) 2 (R3 (.slice 3 0 0 X2.length X2.length) (.gro 8 1 (X2.length + 40)) 3 (R3 (.slice 4 0 0 X3.length X3.length) (.gro 9 1 (X3.length + 40)) 4 [])))), IB (X0.length + 40) (List.replicate (X0.length + 40) 1), IB (X1.length + 40) (List.replicate (X1.length + 40) 2), IB (X2.length + 40) (List.replicate (X2.length + 40) 3), IB (X3.length + 40) (List.replicate (X3.length + 40) 4)] := by
 refine con_in 121 Tryz.func14 rfl rfl (m := 6) rfl ?_
 intro E hP hn hE
 refine qz hP hn ?_
 refine s_op k_as ?_
 refine qx hP hn ?_
 refine s_op k_mv ?_
 refine s_op (k_call [0, 1, 2, 3, 4, 5] (con := fill_AABB X0 hX0 X1 hX1 X2 hX2 X3 hX3) (H' := [BKb 4 (.gro 5 3 4), IB (X0.length + 1) (List.replicate X0.length 1 ++ [77]), IB (X1.length + 1) (List.replicate X1.length 2 ++ [77]), IB X2.length (List.replicate X2.length 3), IB X3.length (List.replicate X3.length 4), RB (R3 (.slice 1 0 0 X0.length (X0.length + 1)) .nils 1 (R3 (.slice 2 0 0 X1.length (X1.length + 1)) .nils 2 (R3 (.slice 3 0 0 X2.length X2.length) .nils 3 (R3 (.slice 4 0 0 X3.length X3.length) .nils 4 []))))]) (hH := by kernel_rfl)) ?_
 refine qx hP hn ?_
 refine s_op k_mv ?_
 refine s_op (k_tmp 0 (h := k_call [] (con := fillInt_0) (hargs := by exact .cons rfl (conv_ptrJ (by rfl) rfl rfl (bk_J 1 (by decide) (by decide))) .nil))) ?_
 refine qx hP hn ?_
 refine s_op k_mv ?_
 refine s_op (k_tmp 0 (h := k_call [] (con := fillText_0) (hargs := by exact .cons rfl (conv_ptrJ (by rfl) rfl rfl (bk_J 2 (by decide) (by decide))) .nil))) ?_
 refine qx hP hn ?_
 refine s_op k_mv ?_
 refine s_op (k_tmp 0 (h := k_call [] (con := fillNum_0) (hargs := by exact .cons rfl (conv_ptrJ (by rfl) rfl rfl (bk_J 3 (by decide) (by decide))) .nil))) ?_
 refine qx hP hn ?_
 refine s_op k_mv ?_
 refine s_op (k_tmp 0 (h := k_call [] (con := fillSum_0) (hargs := by exact .cons rfl (conv_ptrJ (by rfl) rfl rfl (bk_J 4 (by decide) (by decide))) .nil))) ?_
 refine s_nil trivial (n_wp (w_seq ?_))
 refine w_weak (weak_tm (T' := [(0, .s (.ptr 0 0 0))])) ?_
 refine g_reg hP hn ?_
 refine s_op k_mv ?_
 refine s_op (k_tmp 0 (h := k_call [] (con := fillTag_0) (hargs := by exact .cons rfl (conv_ptrJ (by rfl) rfl rfl (bk_J 5 (by decide) (by decide))) .nil))) ?_
 refine qx hP hn ?_
 refine s_op k_mv ?_
 refine s_op (k_tmp 0 (h := k_call [] (con := fillSpot_0) (hargs := by exact .cons rfl (conv_ptrJ (by rfl) rfl rfl (bk_J 6 (by decide) (by decide))) .nil))) ?_
 refine qx hP hn ?_
 refine s_op k_mv ?_
 refine s_op (k_tmp 0 (h := k_call [] (con := fillGen_0) (hargs := by exact .cons rfl (conv_ptrJ (by rfl) rfl rfl (bk_J 7 (by decide) (by decide))) .nil))) ?_
 refine qx hP hn ?_
 refine s_op k_mv ?_
 refine s_op (k_tmp 0 (h := k_call [] (con := fillLane_0) (hargs := by exact .cons rfl (conv_ptrJ (by rfl) rfl rfl (bk_J 8 (by decide) (by decide))) .nil))) ?_
 refine qx hP hn ?_
 refine s_op k_mv ?_
 refine s_op (k_tmp 0 (h := k_call [] (con := fillParam_0) (hargs := by exact .cons rfl (conv_ptrJ (by rfl) rfl rfl (bk_J 9 (by decide) (by decide))) .nil))) ?_
 refine s_nil trivial (n_wp (w_seq ?_))
 refine w_weak (weak_tm (T' := [(0, .s (.ptr 0 0 0))])) ?_
 refine g_reg hP hn ?_
 refine s_op k_mv ?_
 refine s_op (k_tmp 0 (h := k_call [] (con := fillPacket_0) (hargs := by exact .cons rfl (conv_ptrJ (by rfl) rfl rfl (bk_J 10 (by decide) (by decide))) .nil))) ?_
 refine qx hP hn ?_
 refine s_op k_mv ?_
 refine s_op (k_tmp 0 (h := k_call [] (con := fillFrame_0) (hargs := by exact .cons rfl (conv_ptrJ (by rfl) rfl rfl (bk_J 11 (by decide) (by decide))) .nil))) ?_
 refine qx hP hn ?_
 refine s_op k_mv ?_
 refine s_op (k_tmp 0 (h := k_call [] (con := fillMail_0) (hargs := by exact .cons rfl (conv_ptrJ (by rfl) rfl rfl (bk_J 12 (by decide) (by decide))) .nil))) ?_
 refine qx hP hn ?_
 refine s_op k_mv ?_
 refine s_op (k_tmp 0 (h := k_call [] (con := fillSession_0) (hargs := by exact .cons rfl (conv_ptrJ (by rfl) rfl rfl (bk_J 13 (by decide) (by decide))) .nil))) ?_
 refine qx hP hn ?_
 refine s_op k_mv ?_
 refine s_op (k_tmp 0 (h := k_call [] (con := fillRecord_0) (hargs := by exact .cons rfl (conv_ptrJ (by rfl) rfl rfl (bk_J 14 (by decide) (by decide))) .nil))) ?_
 refine s_nil trivial (n_wp (w_seq ?_))
 refine w_weak (weak_tm (T' := [(0, .s (.ptr 0 0 0))])) ?_
 refine g_reg hP hn ?_
 refine s_op k_mv ?_
 refine s_op (k_call [0, 1, 2, 3, 4, 5] (con := grow_AABB X0 hX0 X1 hX1 X2 hX2 X3 hX3) (H' := [BKb 4 (.gro 5 3 4), IB (X0.length + 1) (List.replicate (X0.length + 1) 1), IB (X1.length + 1) (List.replicate (X1.length + 1) 2), IB X2.length (List.replicate X2.length 3), IB X3.length (List.replicate X3.length 4), RB (R3 (.slice 1 0 0 X0.length (X0.length + 1)) (.gro 6 1 (X0.length + 40)) 1 (R3 (.slice 2 0 0 X1.length (X1.length + 1)) (.gro 7 1 (X1.length + 40)) 2 (R3 (.slice 3 0 0 X2.length X2.length) (.gro 8 1 (X2.length + 40)) 3 (R3 (.slice 4 0 0 X3.length X3.length) (.gro 9 1 (X3.length + 40)) 4 [])))), IB (X0.length + 40) (List.replicate (X0.length + 40) 1), IB (X1.length + 40) (List.replicate (X1.length + 40) 2), IB (X2.length + 40) (List.replicate (X2.length + 40) 3), IB (X3.length + 40) (List.replicate (X3.length + 40) 4)]) (hH := by kernel_rfl)) ?_
 refine qx hP hn ?_
 refine s_op k_mv ?_
 refine s_op (k_tmp 0 (h := k_call [] (con := growInt_0) (hargs := by exact .cons rfl (conv_ptrJ (by rfl) rfl rfl (bk_J 1 (by decide) (by decide))) .nil))) ?_
 refine qx hP hn ?_
 refine s_op k_mv ?_
 refine s_op (k_tmp 0 (h := k_call [] (con := growText_0) (hargs := by exact .cons rfl (conv_ptrJ (by rfl) rfl rfl (bk_J 2 (by decide) (by decide))) .nil))) ?_
 refine qx hP hn ?_
 refine s_op k_mv ?_
 refine s_op (k_tmp 0 (h := k_call [] (con := growNum_0) (hargs := by exact .cons rfl (conv_ptrJ (by rfl) rfl rfl (bk_J 3 (by decide) (by decide))) .nil))) ?_
 refine qx hP hn ?_
 refine s_op k_mv ?_
 refine s_op (k_tmp 0 (h := k_call [] (con := growSum_0) (hargs := by exact .cons rfl (conv_ptrJ (by rfl) rfl rfl (bk_J 4 (by decide) (by decide))) .nil))) ?_
 refine s_nil trivial (n_wp (w_seq ?_))
 refine w_weak (weak_tm (T' := [(0, .s (.ptr 0 0 0))])) ?_
 refine g_reg hP hn ?_
 refine s_op k_mv ?_
 refine s_op (k_tmp 0 (h := k_call [] (con := growTag_0) (hargs := by exact .cons rfl (conv_ptrJ (by rfl) rfl rfl (bk_J 5 (by decide) (by decide))) .nil))) ?_
 refine qx hP hn ?_
 refine s_op k_mv ?_
 refine s_op (k_tmp 0 (h := k_call [] (con := growSpot_0) (hargs := by exact .cons rfl (conv_ptrJ (by rfl) rfl rfl (bk_J 6 (by decide) (by decide))) .nil))) ?_
 refine qx hP hn ?_
 refine s_op k_mv ?_
 refine s_op (k_tmp 0 (h := k_call [] (con := growGen_0) (hargs := by exact .cons rfl (conv_ptrJ (by rfl) rfl rfl (bk_J 7 (by decide) (by decide))) .nil))) ?_
 refine qx hP hn ?_
 refine s_op k_mv ?_
 refine s_op (k_tmp 0 (h := k_call [] (con := growLane_0) (hargs := by exact .cons rfl (conv_ptrJ (by rfl) rfl rfl (bk_J 8 (by decide) (by decide))) .nil))) ?_
 refine qx hP hn ?_
 refine s_op k_mv ?_
 refine s_op (k_tmp 0 (h := k_call [] (con := growParam_0) (hargs := by exact .cons rfl (conv_ptrJ (by rfl) rfl rfl (bk_J 9 (by decide) (by decide))) .nil))) ?_
 refine s_nil trivial (n_wp (w_seq ?_))
 refine w_weak (weak_tm (T' := [(0, .s (.ptr 0 0 0))])) ?_
 refine g_reg hP hn ?_
 refine s_op k_mv ?_
 refine s_op (k_tmp 0 (h := k_call [] (con := growPacket_0) (hargs := by exact .cons rfl (conv_ptrJ (by rfl) rfl rfl (bk_J 10 (by decide) (by decide))) .nil))) ?_
 refine qx hP hn ?_
 refine s_op k_mv ?_
 refine s_op (k_tmp 0 (h := k_call [] (con := growFrame_0) (hargs := by exact .cons rfl (conv_ptrJ (by rfl) rfl rfl (bk_J 11 (by decide) (by decide))) .nil))) ?_
 refine qx hP hn ?_
 refine s_op k_mv ?_
 refine s_op (k_tmp 0 (h := k_call [] (con := growMail_0) (hargs := by exact .cons rfl (conv_ptrJ (by rfl) rfl rfl (bk_J 12 (by decide) (by decide))) .nil))) ?_
 refine qx hP hn ?_
 refine s_op k_mv ?_
 refine s_op (k_tmp 0 (h := k_call [] (con := growSession_0) (hargs := by exact .cons rfl (conv_ptrJ (by rfl) rfl rfl (bk_J 13 (by decide) (by decide))) .nil))) ?_
 refine qx hP hn ?_
 refine s_op k_mv ?_
 refine s_op (k_tmp 0 (h := k_call [] (con := growRecord_0) (hargs := by exact .cons rfl (conv_ptrJ (by rfl) rfl rfl (bk_J 14 (by decide) (by decide))) .nil))) ?_
 refine s_nil trivial (n_wp (w_seq ?_))
 refine w_weak (weak_tm (T' := [(0, .s (.ptr 0 0 0))])) ?_
 refine g_reg hP hn ?_
 refine s_op k_mv ?_
 refine s_op (k_call [0, 1, 2, 3, 4, 5, 6, 7, 8, 9] (con := look_AABB X0 hX0 X1 hX1 X2 hX2 X3 hX3)) ?_
 refine s_op k_mv ?_
 refine s_on rfl rfl rfl k_mv ?_
 refine s_on rfl rfl rfl (k_tmp 0 (h := k_call [] (con := lookInt_0) (hargs := by exact .cons rfl (conv_ptrJ (by rfl) rfl rfl (bk_J 1 (by decide) (by decide))) .nil))) ?_
 refine o2 ?_
 refine s_on rfl rfl rfl k_mv ?_
 refine s_on rfl rfl rfl (k_tmp 0 (h := k_call [] (con := lookText_0) (hargs := by exact .cons rfl (conv_ptrJ (by rfl) rfl rfl (bk_J 2 (by decide) (by decide))) .nil))) ?_
 refine o2 ?_
 refine s_on rfl rfl rfl k_mv ?_
 refine s_on rfl rfl rfl (k_tmp 0 (h := k_call [] (con := lookNum_0) (hargs := by exact .cons rfl (conv_ptrJ (by rfl) rfl rfl (bk_J 3 (by decide) (by decide))) .nil))) ?_
 refine o2 ?_
 refine s_on rfl rfl rfl k_mv ?_
 refine s_on rfl rfl rfl (k_tmp 0 (h := k_call [] (con := lookSum_0) (hargs := by exact .cons rfl (conv_ptrJ (by rfl) rfl rfl (bk_J 4 (by decide) (by decide))) .nil))) ?_
 refine o2 ?_
 refine s_on rfl rfl rfl k_mv ?_
 refine s_on rfl rfl rfl (k_tmp 0 (h := k_call [] (con := lookTag_0) (hargs := by exact .cons rfl (conv_ptrJ (by rfl) rfl rfl (bk_J 5 (by decide) (by decide))) .nil))) ?_
 refine o2 ?_
 refine s_on rfl rfl rfl k_mv ?_
 refine s_on rfl rfl rfl (k_tmp 0 (h := k_call [] (con := lookSpot_0) (hargs := by exact .cons rfl (conv_ptrJ (by rfl) rfl rfl (bk_J 6 (by decide) (by decide))) .nil))) ?_
 refine o2 ?_
 refine s_on rfl rfl rfl k_mv ?_
 refine s_on rfl rfl rfl (k_tmp 0 (h := k_call [] (con := lookGen_0) (hargs := by exact .cons rfl (conv_ptrJ (by rfl) rfl rfl (bk_J 7 (by decide) (by decide))) .nil))) ?_
 refine o2 ?_
 refine s_on rfl rfl rfl k_mv ?_
 refine s_on rfl rfl rfl (k_tmp 0 (h := k_call [] (con := lookLane_0) (hargs := by exact .cons rfl (conv_ptrJ (by rfl) rfl rfl (bk_J 8 (by decide) (by decide))) .nil))) ?_
 refine o2 ?_
 refine s_on rfl rfl rfl k_mv ?_
 refine s_on rfl rfl rfl (k_tmp 0 (h := k_call [] (con := lookParam_0) (hargs := by exact .cons rfl (conv_ptrJ (by rfl) rfl rfl (bk_J 9 (by decide) (by decide))) .nil))) ?_
 refine o2 ?_
 refine s_on rfl rfl rfl k_mv ?_
 refine s_on rfl rfl rfl (k_tmp 0 (h := k_call [] (con := lookPacket_0) (hargs := by exact .cons rfl (conv_ptrJ (by rfl) rfl rfl (bk_J 10 (by decide) (by decide))) .nil))) ?_
 refine o2 ?_
 refine s_on rfl rfl rfl k_mv ?_
 refine s_on rfl rfl rfl (k_tmp 0 (h := k_call [] (con := lookFrame_0) (hargs := by exact .cons rfl (conv_ptrJ (by rfl) rfl rfl (bk_J 11 (by decide) (by decide))) .nil))) ?_
 refine o2 ?_
 refine s_on rfl rfl rfl k_mv ?_
 refine s_on rfl rfl rfl (k_tmp 0 (h := k_call [] (con := lookMail_0) (hargs := by exact .cons rfl (conv_ptrJ (by rfl) rfl rfl (bk_J 12 (by decide) (by decide))) .nil))) ?_
 refine o2 ?_
 refine s_on rfl rfl rfl k_mv ?_
 refine s_on rfl rfl rfl (k_tmp 0 (h := k_call [] (con := lookSession_0) (hargs := by exact .cons rfl (conv_ptrJ (by rfl) rfl rfl (bk_J 13 (by decide) (by decide))) .nil))) ?_
 refine o2 ?_
 refine s_on rfl rfl rfl k_mv ?_
 refine s_on rfl rfl rfl (k_tmp 0 (h := k_call [] (con := lookRecord_0) (hargs := by exact .cons rfl (conv_ptrJ (by rfl) rfl rfl (bk_J 14 (by decide) (by decide))) .nil))) ?_
 refine o2 ?_
 refine s_nil trivial (n_wp (w_ret ?_))
 exact d_ret hP hn hE [0, 1, 2, 3, 4, 5, 6, 7, 8, 9] (by first | exact r_tmp Tryz.results14 | exact r_tmpa Tryz.results14)

end Go.Proofs.X
end

section
set_option maxRecDepth 100000
set_option maxHeartbeats 4000000
open Go Go.Bx Go.Proofs
namespace Go.Proofs.X
set_option maxRecDepth 100000
set_option maxHeartbeats 4000000
attribute [local irreducible] hmB streamI seal1 sealB ahB be fiB hmO tk rmac rsumL SB BK ks
theorem law19_AABB (M C B D : List Int) (l n : Nat) (h1 : ¬ 5000 < B.length) (h2 : ¬ 5000 < D.length) (SX : List Int) (hSX : SX.length ≤ 5000) (ea : Int) (hsa : Con Tryz.prog 20 [.agg [.ints .u8 32 M, .ints .u8 16 C], .s (.int .u32 ((l : Nat) : Int)), .s (.int .u64 ((n : Nat) : Int)), .s (.fzi .u8 B)] [] (.tup [.s (.slice 0 0 0 SX.length SX.length), .s (.int .i64 ea)]) [IB SX.length SX]) (hsb : Con Tryz.prog 21 [.agg [.ints .u8 32 M, .ints .u8 16 C], .s (.int .u32 ((l : Nat) : Int)), .s (.int .u64 ((n : Nat) : Int)), .s (.fzi .u8 B)] [] (.tup [.s (.fzi .u8 SX), .s (.int .i64 ea)]) []) (OX : List Int) (hOX : OX.length ≤ 5000) (lo no eo : Int) (hoa : Con Tryz.prog 22 [.agg [.ints .u8 32 M, .ints .u8 16 C], .s (.fzi .u8 D)] [] (.tup [.s (.int .u32 lo), .s (.int .u64 no), .s (.slice 0 0 0 OX.length OX.length), .s (.int .i64 eo)]) [IB OX.length OX]) (hob : Con Tryz.prog 23 [.agg [.ints .u8 32 M, .ints .u8 16 C], .s (.fzi .u8 D)] [] (.tup [.s (.int .u32 lo), .s (.int .u64 no), .s (.fzi .u8 OX), .s (.int .i64 eo)]) []) (ll el : Int) (hla : Con Tryz.prog 24 [.s (.fzi .u8 D)] [] (.tup [.s (.int .u32 ll), .s (.int .i64 el)]) []) (hlb : Con Tryz.prog 25 [.s (.fzi .u8 D)] [] (.tup [.s (.int .u32 ll), .s (.int .i64 el)]) []) : Con Tryz.prog 5 [.agg [.ints .u8 32 M, .ints .u8 16 C, .one (.int .u32 ((l : Nat) : Int)), .one (.int .u64 ((n : Nat) : Int))], .s (.fzi .u8 B), .s (.fzi .u8 D)] [] (.s (.bool true)) [] := by
 refine con_in 149 Tryz.func5 rfl rfl (m := 0) rfl ?_
 intro E hP hn hE
 refine qz hP hn ?_
 refine s_op k_bxf ?_
 refine s_op k_as ?_
 refine s_nil trivial (n_wp (w_seq (qz hP hn ?_)))
 refine o2 ?_
 refine s_op (l_bin rfl rfl (b_gtr (r := false) (decide_eq_false (by omega)))) ?_
 refine s_op k_mv ?_
 refine s_on rfl rfl rfl k_mv ?_
 refine s_on rfl rfl rfl k_len ?_
 refine s_on rfl rfl rfl (l_bin rfl rfl (b_gtr (r := false) (decide_eq_false (by omega)))) ?_
 refine s_op k_pk ?_
 refine s_nil trivial (n_wp ?_)
 refine w_F rfl ?_ 
 refine w_skip (n_wp (qz hP hn ?_))
 refine s_op k_mv ?_
 refine s_op (k_call [] (con := twin_c B (by omega)) (H' := [none, IB (B.length + 1) (B ++ [77])]) (hH := by kernel_rfl)) ?_
 refine s_op k_as ?_
 refine qx hP hn ?_
 refine s_op k_mv ?_
 refine s_op (k_call [] (con := twin_c D (by omega)) (H' := [none, IB (B.length + 1) (B ++ [77]), IB (D.length + 1) (D ++ [77])]) (hH := by kernel_rfl)) ?_
 refine s_op k_as ?_
 refine qx hP hn ?_
 refine s_op k_fa ?_
 refine s_op (k_ld (h := by exact a_loadf_agg (sub := [.ints .u8 32 M, .ints .u8 16 C]) (r := [.ints .u8 32 M, .ints .u8 16 C, .one (.int .u32 ((l : Nat) : Int)), .one (.int .u64 ((n : Nat) : Int))]) rfl (by exact Nat.le_of_ble_eq_true rfl) (by kernel_rfl) (by kernel_rfl))) ?_
 refine s_op k_fa ?_
 refine s_op (k_ld (h := by exact a_loadf (v := .int .u32 ((l : Nat) : Int)) rfl (by exact Nat.le_of_ble_eq_true rfl) (by kernel_rfl))) ?_
 refine s_op k_fa ?_
 refine s_op (k_ld (h := by exact a_loadf (v := .int .u64 ((n : Nat) : Int)) rfl (by exact Nat.le_of_ble_eq_true rfl) (by kernel_rfl))) ?_
 refine s_op k_mv ?_
 refine s_op (k_tmpN 1 [IB SX.length SX] (h := k_call [] (con := hsa) (hargs := by exact .cons rfl cv (.cons rfl cv (.cons rfl cv (.cons rfl (conv_sl (kk := .u8) (n := B.length + 1) (l := B ++ [77]) (by rfl) rfl rfl (by omega) (by omega) (by simp) (by simp)) .nil)))) (hH := by rfl))) ?_
 refine o3 ?_
 refine o2 ?_
 refine qx hP hn ?_
 refine s_op k_fa ?_
 refine s_op (k_ld (h := by exact a_loadf_agg (sub := [.ints .u8 32 M, .ints .u8 16 C]) (r := [.ints .u8 32 M, .ints .u8 16 C, .one (.int .u32 ((l : Nat) : Int)), .one (.int .u64 ((n : Nat) : Int))]) rfl (by exact Nat.le_of_ble_eq_true rfl) (by kernel_rfl) (by kernel_rfl))) ?_
 refine s_op k_fa ?_
 refine s_op (k_ld (h := by exact a_loadf (v := .int .u32 ((l : Nat) : Int)) rfl (by exact Nat.le_of_ble_eq_true rfl) (by kernel_rfl))) ?_
 refine s_op k_fa ?_
 refine s_op (k_ld (h := by exact a_loadf (v := .int .u64 ((n : Nat) : Int)) rfl (by exact Nat.le_of_ble_eq_true rfl) (by kernel_rfl))) ?_
 refine s_op k_mv ?_
 refine s_op (k_call [] (con := hsb)) ?_
 refine o3 ?_
 refine o2 ?_
 refine qx hP hn ?_
 refine s_op k_fa ?_
 refine s_op (k_ld (h := by exact a_loadf_agg (sub := [.ints .u8 32 M, .ints .u8 16 C]) (r := [.ints .u8 32 M, .ints .u8 16 C, .one (.int .u32 ((l : Nat) : Int)), .one (.int .u64 ((n : Nat) : Int))]) rfl (by exact Nat.le_of_ble_eq_true rfl) (by kernel_rfl) (by kernel_rfl))) ?_
 refine s_op k_mv ?_
 refine s_op (k_tmpN 2 [IB OX.length OX] (h := k_call [] (con := hoa) (hargs := by exact .cons rfl cv (.cons rfl (conv_sl (kk := .u8) (n := D.length + 1) (l := D ++ [77]) (by rfl) rfl rfl (by omega) (by omega) (by simp) (by simp)) .nil)) (hH := by rfl))) ?_
 refine o4 ?_
 refine o3 ?_
 refine o2 ?_
 refine qx hP hn ?_
 refine s_op k_fa ?_
 refine s_op (k_ld (h := by exact a_loadf_agg (sub := [.ints .u8 32 M, .ints .u8 16 C]) (r := [.ints .u8 32 M, .ints .u8 16 C, .one (.int .u32 ((l : Nat) : Int)), .one (.int .u64 ((n : Nat) : Int))]) rfl (by exact Nat.le_of_ble_eq_true rfl) (by kernel_rfl) (by kernel_rfl))) ?_
 refine s_op k_mv ?_
 refine s_op (k_call [] (con := hob)) ?_
 refine o4 ?_
 refine o3 ?_
 refine o2 ?_
 refine qx hP hn ?_
 refine s_op k_mv ?_
 refine s_op (k_tmp 2 (h := k_call [] (con := hla) (hargs := by exact .cons rfl (conv_sl (kk := .u8) (n := D.length + 1) (l := D ++ [77]) (by rfl) rfl rfl (by omega) (by omega) (by simp) (by simp)) .nil))) ?_
 refine o3 ?_
 refine o2 ?_
 refine qx hP hn ?_
 refine s_op k_mv ?_
 refine s_op (k_call [] (con := hlb)) ?_
 refine o3 ?_
 refine o2 ?_
 refine s_nil trivial (n_wp (w_seq (qz hP hn ?_)))
 refine o2 ?_
 refine s_op (l_bin rfl rfl (b_neq (r := false) (decide_eq_false (fun h => h rfl)))) ?_
 refine s_op k_mv ?_
 refine s_on rfl rfl rfl k_mv ?_
 refine s_on rfl rfl rfl k_mv ?_
 refine s_on rfl rfl rfl (l_bin rfl rfl (b_neq (r := false) (decide_eq_false (fun h => h rfl)))) ?_
 refine o2 ?_
 refine s_on rfl rfl rfl k_mv ?_
 refine s_on rfl rfl rfl k_mv ?_
 refine s_on rfl rfl rfl (l_bin rfl rfl (b_neq (r := false) (decide_eq_false (fun h => h rfl)))) ?_
 refine o2 ?_
 refine s_on rfl rfl rfl k_mv ?_
 refine s_on rfl rfl rfl k_mv ?_
 refine s_on rfl rfl rfl (l_bin rfl rfl (b_neq (r := false) (decide_eq_false (fun h => h rfl)))) ?_
 refine o2 ?_
 refine s_on rfl rfl rfl k_mv ?_
 refine s_on rfl rfl rfl k_mv ?_
 refine s_on rfl rfl rfl (l_bin rfl rfl (b_neq (r := false) (decide_eq_false (fun h => h rfl)))) ?_
 refine o2 ?_
 refine s_on rfl rfl rfl k_mv ?_
 refine s_on rfl rfl rfl k_mv ?_
 refine s_on rfl rfl rfl (l_bin rfl rfl (b_neq (r := false) (decide_eq_false (fun h => h rfl)))) ?_
 refine o2 ?_
 refine s_on rfl rfl rfl k_mv ?_
 refine s_on rfl rfl rfl k_mv ?_
 refine s_on rfl rfl rfl (k_tmp 3 (h := k_call [] (con := same_n SX (by omega)) (hargs := by exact .cons rfl (conv_sl (kk := .u8) (n := SX.length) (l := SX) (by rfl) rfl rfl (by omega) (by omega) rfl (by rw [List.drop_zero]; exact List.take_length)) (.cons rfl cv .nil)))) ?_
 refine s_on rfl rfl rfl k_not ?_
 refine o2 ?_
 refine s_on rfl rfl rfl k_mv ?_
 refine s_on rfl rfl rfl k_mv ?_
 refine s_on rfl rfl rfl (k_tmp 4 (h := k_call [] (con := same_n OX (by omega)) (hargs := by exact .cons rfl (conv_sl (kk := .u8) (n := OX.length) (l := OX) (by rfl) rfl rfl (by omega) (by omega) rfl (by rw [List.drop_zero]; exact List.take_length)) (.cons rfl cv .nil)))) ?_
 refine s_on rfl rfl rfl k_not ?_
 refine o2 ?_
 refine s_on rfl rfl rfl k_mv ?_
 refine s_on rfl rfl rfl k_mv ?_
 refine s_on rfl rfl rfl (k_call [1] (con := left_n B (by omega)) (H' := [none, IB (B.length + 1) (B ++ [77]), IB (D.length + 1) (D ++ [77]), IB SX.length SX, IB OX.length OX]) (hH := by kernel_rfl)) ?_
 refine s_on rfl rfl rfl k_not ?_
 refine o2 ?_
 refine s_on rfl rfl rfl k_mv ?_
 refine s_on rfl rfl rfl k_mv ?_
 refine s_on rfl rfl rfl (k_call [2] (con := left_n D (by omega)) (H' := [none, IB (B.length + 1) (B ++ [77]), IB (D.length + 1) (D ++ [77]), IB SX.length SX, IB OX.length OX]) (hH := by kernel_rfl)) ?_
 refine s_on rfl rfl rfl k_not ?_
 refine s_op k_pk ?_
 refine s_nil trivial (n_wp ?_)
 refine w_F rfl ?_ 
 refine w_skip (n_wp (qz hP hn ?_))
 refine s_op k_al ?_
 refine qx hP hn ?_
 refine s_op k_mv ?_
 refine s_op (k_call [5, 1] (con := bytes_A B) (H' := [none, IB (B.length + 1) (B ++ [77]), IB (D.length + 1) (D ++ [77]), IB SX.length SX, IB OX.length OX, BKb 1 (.gro 6 3 1), RB (R3 (.slice 1 0 0 B.length (B.length + 1)) .nils 1 [])]) (hH := by kernel_rfl)) ?_
 refine qx hP hn ?_
 refine s_op k_mv ?_
 refine s_op (k_call [5, 1, 2, 6] (con := bytes_AA B D) (H' := [none, IB (B.length + 1) (B ++ [77]), IB (D.length + 1) (D ++ [77]), IB SX.length SX, IB OX.length OX, BKb 2 (.gro 7 3 2), none, RB (R3 (.slice 1 0 0 B.length (B.length + 1)) .nils 1 (R3 (.slice 2 0 0 D.length (D.length + 1)) .nils 2 []))]) (hH := by kernel_rfl)) ?_
 refine qx hP hn ?_
 refine s_op k_mv ?_
 refine s_op (k_call [5, 1, 2, 3, 7] (con := bytes_AAB B D SX) (H' := [none, IB (B.length + 1) (B ++ [77]), IB (D.length + 1) (D ++ [77]), IB SX.length SX, IB OX.length OX, BKb 3 (.gro 8 3 3), none, none, RB (R3 (.slice 1 0 0 B.length (B.length + 1)) .nils 1 (R3 (.slice 2 0 0 D.length (D.length + 1)) .nils 2 (R3 (.slice 3 0 0 SX.length SX.length) .nils 3 [])))]) (hH := by kernel_rfl)) ?_
 refine qx hP hn ?_
 refine s_op k_mv ?_
 refine s_op (k_call [5, 1, 2, 3, 4, 8] (con := bytes_AABB B D SX OX) (H' := [none, IB (B.length + 1) (B ++ [77]), IB (D.length + 1) (D ++ [77]), IB SX.length SX, IB OX.length OX, BKb 4 (.gro 9 3 4), none, none, none, RB (R3 (.slice 1 0 0 B.length (B.length + 1)) .nils 1 (R3 (.slice 2 0 0 D.length (D.length + 1)) .nils 2 (R3 (.slice 3 0 0 SX.length SX.length) .nils 3 (R3 (.slice 4 0 0 OX.length OX.length) .nils 4 []))))]) (hH := by kernel_rfl)) ?_
 refine qx hP hn ?_
 refine s_op (k_call [5, 1, 2, 3, 4, 9] (con := apart_AABB B (by omega) D (by omega) SX (by omega) OX (by omega))) ?_
 refine s_op k_as ?_
 refine s_nil trivial (n_wp (w_ret ?_))
 exact d_ret hP hn hE [] (by first | exact r_tmp Tryz.results5 | exact r_tmpa Tryz.results5)

end Go.Proofs.X
end

section
set_option maxRecDepth 100000
set_option maxHeartbeats 4000000
open Go Go.Bx Go.Proofs
namespace Go.Proofs.X
set_option maxRecDepth 100000
set_option maxHeartbeats 4000000
theorem apart_AABC (X0 : List Int) (hX0 : X0.length ≤ 100000) (X1 : List Int) (hX1 : X1.length ≤ 100000) (X2 : List Int) (hX2 : X2.length ≤ 100000) : Con Tryz.prog 14 [.s (.ptr 0 0 0)] [BKb 4 (.gro 4 3 4), IB (X0.length + 1) (X0 ++ [77]), IB (X1.length + 1) (X1 ++ [77]), IB X2.length X2, RB (R3 (.slice 1 0 0 X0.length (X0.length + 1)) .nils 1 (R3 (.slice 2 0 0 X1.length (X1.length + 1)) .nils 2 (R3 (.slice 3 0 0 X2.length X2.length) .nils 3 (R3 .nils .nils 4 []))))] (.s (.bool true)) [BKb 4 (.gro 4 3 4), IB (X0.length + 1) (List.replicate (X0.length + 1) 1), IB (X1.length + 1) (List.replicate (X1.length + 1) 2), IB X2.length (List.replicate X2.length 3), RB (R3 (.slice 1 0 0 X0.length (X0.length + 1)) (.gro 5 1 (X0.length + 40)) 1 (R3 (.slice 2 0 0 X1.length (X1.length + 1)) (.gro 6 1 (X1.length + 40)) 2 (R3 (.slice 3 0 0 X2.length X2.length) (.gro 7 1 (X2.length + 40)) 3 (R3 .nils (.gro 8 1 (0 + 40)) 4 [])))), IB (X0.length + 40) (List.replicate (X0.length + 40) 1), IB (X1.length + 40) (List.replicate (X1.length + 40) 2), IB (X2.length + 40) (List.replicate (X2.length + 40) 3), IB (0 + 40) (List.replicate (0 + 40) 4)] := by
 refine con_in 121 Tryz.func14 rfl rfl (m := 5) rfl ?_
 intro E hP hn hE
 refine qz hP hn ?_
 refine s_op k_as ?_
 refine qx hP hn ?_
 refine s_op k_mv ?_
 refine s_op (k_call [0, 1, 2, 3, 4] (con := fill_AABC X0 hX0 X1 hX1 X2 hX2) (H' := [BKb 4 (.gro 4 3 4), IB (X0.length + 1) (List.replicate X0.length 1 ++ [77]), IB (X1.length + 1) (List.replicate X1.length 2 ++ [77]), IB X2.length (List.replicate X2.length 3), RB (R3 (.slice 1 0 0 X0.length (X0.length + 1)) .nils 1 (R3 (.slice 2 0 0 X1.length (X1.length + 1)) .nils 2 (R3 (.slice 3 0 0 X2.length X2.length) .nils 3 (R3 .nils .nils 4 []))))]) (hH := by kernel_rfl)) ?_
 refine qx hP hn ?_
 refine s_op k_mv ?_
 refine s_op (k_tmp 0 (h := k_call [] (con := fillInt_0) (hargs := by exact .cons rfl (conv_ptrJ (by rfl) rfl rfl (bk_J 1 (by decide) (by decide))) .nil))) ?_
 refine qx hP hn ?_
 refine s_op k_mv ?_
 refine s_op (k_tmp 0 (h := k_call [] (con := fillText_0) (hargs := by exact .cons rfl (conv_ptrJ (by rfl) rfl rfl (bk_J 2 (by decide) (by decide))) .nil))) ?_
 refine qx hP hn ?_
 refine s_op k_mv ?_
 refine s_op (k_tmp 0 (h := k_call [] (con := fillNum_0) (hargs := by exact .cons rfl (conv_ptrJ (by rfl) rfl rfl (bk_J 3 (by decide) (by decide))) .nil))) ?_
 refine qx hP hn ?_
 refine s_op k_mv ?_
 refine s_op (k_tmp 0 (h := k_call [] (con := fillSum_0) (hargs := by exact .cons rfl (conv_ptrJ (by rfl) rfl rfl (bk_J 4 (by decide) (by decide))) .nil))) ?_
 refine s_nil trivial (n_wp (w_seq ?_))
 refine w_weak (weak_tm (T' := [(0, .s (.ptr 0 0 0))])) ?_
 refine g_reg hP hn ?_
 refine s_op k_mv ?_
 refine s_op (k_tmp 0 (h := k_call [] (con := fillTag_0) (hargs := by exact .cons rfl (conv_ptrJ (by rfl) rfl rfl (bk_J 5 (by decide) (by decide))) .nil))) ?_
 refine qx hP hn ?_
 refine s_op k_mv ?_
 refine s_op (k_tmp 0 (h := k_call [] (con := fillSpot_0) (hargs := by exact .cons rfl (conv_ptrJ (by rfl) rfl rfl (bk_J 6 (by decide) (by decide))) .nil))) ?_
 refine qx hP hn ?_
 refine s_op k_mv ?_
 refine s_op (k_tmp 0 (h := k_call [] (con := fillGen_0) (hargs := by exact .cons rfl (conv_ptrJ (by rfl) rfl rfl (bk_J 7 (by decide) (by decide))) .nil))) ?_
 refine qx hP hn ?_
 refine s_op k_mv ?_
 refine s_op (k_tmp 0 (h := k_call [] (con := fillLane_0) (hargs := by exact .cons rfl (conv_ptrJ (by rfl) rfl rfl (bk_J 8 (by decide) (by decide))) .nil))) ?_
 refine qx hP hn ?_
 refine s_op k_mv ?_
 refine s_op (k_tmp 0 (h := k_call [] (con := fillParam_0) (hargs := by exact .cons rfl (conv_ptrJ (by rfl) rfl rfl (bk_J 9 (by decide) (by decide))) .nil))) ?_
 refine s_nil trivial (n_wp (w_seq ?_))
 refine w_weak (weak_tm (T' := [(0, .s (.ptr 0 0 0))])) ?_
 refine g_reg hP hn ?_
 refine s_op k_mv ?_
 refine s_op (k_tmp 0 (h := k_call [] (con := fillPacket_0) (hargs := by exact .cons rfl (conv_ptrJ (by rfl) rfl rfl (bk_J 10 (by decide) (by decide))) .nil))) ?_
 refine qx hP hn ?_
 refine s_op k_mv ?_
 refine s_op (k_tmp 0 (h := k_call [] (con := fillFrame_0) (hargs := by exact .cons rfl (conv_ptrJ (by rfl) rfl rfl (bk_J 11 (by decide) (by decide))) .nil))) ?_
 refine qx hP hn ?_
 refine s_op k_mv ?_
 refine s_op (k_tmp 0 (h := k_call [] (con := fillMail_0) (hargs := by exact .cons rfl (conv_ptrJ (by rfl) rfl rfl (bk_J 12 (by decide) (by decide))) .nil))) ?_
 refine qx hP hn ?_
 refine s_op k_mv ?_
 refine s_op (k_tmp 0 (h := k_call [] (con := fillSession_0) (hargs := by exact .cons rfl (conv_ptrJ (by rfl) rfl rfl (bk_J 13 (by decide) (by decide))) .nil))) ?_
 refine qx hP hn ?_
 refine s_op k_mv ?_
 refine s_op (k_tmp 0 (h := k_call [] (con := fillRecord_0) (hargs := by exact .cons rfl (conv_ptrJ (by rfl) rfl rfl (bk_J 14 (by decide) (by decide))) .nil))) ?_
 refine s_nil trivial (n_wp (w_seq ?_))
 refine w_weak (weak_tm (T' := [(0, .s (.ptr 0 0 0))])) ?_
 refine g_reg hP hn ?_
 refine s_op k_mv ?_
 refine s_op (k_call [0, 1, 2, 3, 4] (con := grow_AABC X0 hX0 X1 hX1 X2 hX2) (H' := [BKb 4 (.gro 4 3 4), IB (X0.length + 1) (List.replicate (X0.length + 1) 1), IB (X1.length + 1) (List.replicate (X1.length + 1) 2), IB X2.length (List.replicate X2.length 3), RB (R3 (.slice 1 0 0 X0.length (X0.length + 1)) (.gro 5 1 (X0.length + 40)) 1 (R3 (.slice 2 0 0 X1.length (X1.length + 1)) (.gro 6 1 (X1.length + 40)) 2 (R3 (.slice 3 0 0 X2.length X2.length) (.gro 7 1 (X2.length + 40)) 3 (R3 .nils (.gro 8 1 (0 + 40)) 4 [])))), IB (X0.length + 40) (List.replicate (X0.length + 40) 1), IB (X1.length + 40) (List.replicate (X1.length + 40) 2), IB (X2.length + 40) (List.replicate (X2.length + 40) 3), IB (0 + 40) (List.replicate (0 + 40) 4)]) (hH := by kernel_rfl)) ?_
 refine qx hP hn ?_
 refine s_op k_mv ?_
 refine s_op (k_tmp 0 (h := k_call [] (con := growInt_0) (hargs := by exact .cons rfl (conv_ptrJ (by rfl) rfl rfl (bk_J 1 (by decide) (by decide))) .nil))) ?_
 refine qx hP hn ?_
 refine s_op k_mv ?_
 refine s_op (k_tmp 0 (h := k_call [] (con := growText_0) (hargs := by exact .cons rfl (conv_ptrJ (by rfl) rfl rfl (bk_J 2 (by decide) (by decide))) .nil))) ?_
 refine qx hP hn ?_
 refine s_op k_mv ?_
 refine s_op (k_tmp 0 (h := k_call [] (con := growNum_0) (hargs := by exact .cons rfl (conv_ptrJ (by rfl) rfl rfl (bk_J 3 (by decide) (by decide))) .nil))) ?_
 refine qx hP hn ?_
 refine s_op k_mv ?_
 refine s_op (k_tmp 0 (h := k_call [] (con := growSum_0) (hargs := by exact .cons rfl (conv_ptrJ (by rfl) rfl rfl (bk_J 4 (by decide) (by decide))) .nil))) ?_
 refine s_nil trivial (n_wp (w_seq ?_))
 refine w_weak (weak_tm (T' := [(0, .s (.ptr 0 0 0))])) ?_
 refine g_reg hP hn ?_
 refine s_op k_mv ?_
 refine s_op (k_tmp 0 (h := k_call [] (con := growTag_0) (hargs := by exact .cons rfl (conv_ptrJ (by rfl) rfl rfl (bk_J 5 (by decide) (by decide))) .nil))) ?_
 refine qx hP hn ?_
 refine s_op k_mv ?_
 refine s_op (k_tmp 0 (h := k_call [] (con := growSpot_0) (hargs := by exact .cons rfl (conv_ptrJ (by rfl) rfl rfl (bk_J 6 (by decide) (by decide))) .nil))) ?_
 refine qx hP hn ?_
 refine s_op k_mv ?_
 refine s_op (k_tmp 0 (h := k_call [] (con := growGen_0) (hargs := by exact .cons rfl (conv_ptrJ (by rfl) rfl rfl (bk_J 7 (by decide) (by decide))) .nil))) ?_
 refine qx hP hn ?_
 refine s_op k_mv ?_
 refine s_op (k_tmp 0 (h := k_call [] (con := growLane_0) (hargs := by exact .cons rfl (conv_ptrJ (by rfl) rfl rfl (bk_J 8 (by decide) (by decide))) .nil))) ?_
 refine qx hP hn ?_
 refine s_op k_mv ?_
 refine s_op (k_tmp 0 (h := k_call [] (con := growParam_0) (hargs := by exact .cons rfl (conv_ptrJ (by rfl) rfl rfl (bk_J 9 (by decide) (by decide))) .nil))) ?_
 refine s_nil trivial (n_wp (w_seq ?_))
 refine w_weak (weak_tm (T' := [(0, .s (.ptr 0 0 0))])) ?_
 refine g_reg hP hn ?_
 refine s_op k_mv ?_
 refine s_op (k_tmp 0 (h := k_call [] (con := growPacket_0) (hargs := by exact .cons rfl (conv_ptrJ (by rfl) rfl rfl (bk_J 10 (by decide) (by decide))) .nil))) ?_
 refine qx hP hn ?_
 refine s_op k_mv ?_
 refine s_op (k_tmp 0 (h := k_call [] (con := growFrame_0) (hargs := by exact .cons rfl (conv_ptrJ (by rfl) rfl rfl (bk_J 11 (by decide) (by decide))) .nil))) ?_
 refine qx hP hn ?_
 refine s_op k_mv ?_
 refine s_op (k_tmp 0 (h := k_call [] (con := growMail_0) (hargs := by exact .cons rfl (conv_ptrJ (by rfl) rfl rfl (bk_J 12 (by decide) (by decide))) .nil))) ?_
 refine qx hP hn ?_
 refine s_op k_mv ?_
 refine s_op (k_tmp 0 (h := k_call [] (con := growSession_0) (hargs := by exact .cons rfl (conv_ptrJ (by rfl) rfl rfl (bk_J 13 (by decide) (by decide))) .nil))) ?_
 refine qx hP hn ?_
 refine s_op k_mv ?_
 refine s_op (k_tmp 0 (h := k_call [] (con := growRecord_0) (hargs := by exact .cons rfl (conv_ptrJ (by rfl) rfl rfl (bk_J 14 (by decide) (by decide))) .nil))) ?_
 refine s_nil trivial (n_wp (w_seq ?_))
 refine w_weak (weak_tm (T' := [(0, .s (.ptr 0 0 0))])) ?_
 refine g_reg hP hn ?_
 refine s_op k_mv ?_
 refine s_op (k_call [0, 1, 2, 3, 4, 5, 6, 7, 8] (con := look_AABC X0 hX0 X1 hX1 X2 hX2)) ?_
 refine s_op k_mv ?_
 refine s_on rfl rfl rfl k_mv ?_
 refine s_on rfl rfl rfl (k_tmp 0 (h := k_call [] (con := lookInt_0) (hargs := by exact .cons rfl (conv_ptrJ (by rfl) rfl rfl (bk_J 1 (by decide) (by decide))) .nil))) ?_
 refine o2 ?_
 refine s_on rfl rfl rfl k_mv ?_
 refine s_on rfl rfl rfl (k_tmp 0 (h := k_call [] (con := lookText_0) (hargs := by exact .cons rfl (conv_ptrJ (by rfl) rfl rfl (bk_J 2 (by decide) (by decide))) .nil))) ?_
 refine o2 ?_
 refine s_on rfl rfl rfl k_mv ?_
 refine s_on rfl rfl rfl (k_tmp 0 (h := k_call [] (con := lookNum_0) (hargs := by exact .cons rfl (conv_ptrJ (by rfl) rfl rfl (bk_J 3 (by decide) (by decide))) .nil))) ?_
 refine o2 ?_
 refine s_on rfl rfl rfl k_mv ?_
 refine s_on rfl rfl rfl (k_tmp 0 (h := k_call [] (con := lookSum_0) (hargs := by exact .cons rfl (conv_ptrJ (by rfl) rfl rfl (bk_J 4 (by decide) (by decide))) .nil))) ?_
 refine o2 ?_
 refine s_on rfl rfl rfl k_mv ?_
 refine s_on rfl rfl rfl (k_tmp 0 (h := k_call [] (con := lookTag_0) (hargs := by exact .cons rfl (conv_ptrJ (by rfl) rfl rfl (bk_J 5 (by decide) (by decide))) .nil))) ?_
 refine o2 ?_
 refine s_on rfl rfl rfl k_mv ?_
 refine s_on rfl rfl rfl (k_tmp 0 (h := k_call [] (con := lookSpot_0) (hargs := by exact .cons rfl (conv_ptrJ (by rfl) rfl rfl (bk_J 6 (by decide) (by decide))) .nil))) ?_
 refine o2 ?_
 refine s_on rfl rfl rfl k_mv ?_
 refine s_on rfl rfl rfl (k_tmp 0 (h := k_call [] (con := lookGen_0) (hargs := by exact .cons rfl (conv_ptrJ (by rfl) rfl rfl (bk_J 7 (by decide) (by decide))) .nil))) ?_
 refine o2 ?_
 refine s_on rfl rfl rfl k_mv ?_
 refine s_on rfl rfl rfl (k_tmp 0 (h := k_call [] (con := lookLane_0) (hargs := by exact .cons rfl (conv_ptrJ (by rfl) rfl rfl (bk_J 8 (by decide) (by decide))) .nil))) ?_
 refine o2 ?_
 refine s_on rfl rfl rfl k_mv ?_
 refine s_on rfl rfl rfl (k_tmp 0 (h := k_call [] (con := lookParam_0) (hargs := by exact .cons rfl (conv_ptrJ (by rfl) rfl rfl (bk_J 9 (by decide) (by decide))) .nil))) ?_
 refine o2 ?_
 refine s_on rfl rfl rfl k_mv ?_
 refine s_on rfl rfl rfl (k_tmp 0 (h := k_call [] (con := lookPacket_0) (hargs := by exact .cons rfl (conv_ptrJ (by rfl) rfl rfl (bk_J 10 (by decide) (by decide))) .nil))) ?_
 refine o2 ?_
 refine s_on rfl rfl rfl k_mv ?_
 refine s_on rfl rfl rfl (k_tmp 0 (h := k_call [] (con := lookFrame_0) (hargs := by exact .cons rfl (conv_ptrJ (by rfl) rfl rfl (bk_J 11 (by decide) (by decide))) .nil))) ?_
 refine o2 ?_
 refine s_on rfl rfl rfl k_mv ?_
 refine s_on rfl rfl rfl (k_tmp 0 (h := k_call [] (con := lookMail_0) (hargs := by exact .cons rfl (conv_ptrJ (by rfl) rfl rfl (bk_J 12 (by decide) (by decide))) .nil))) ?_
 refine o2 ?_
 refine s_on rfl rfl rfl k_mv ?_
 refine s_on rfl rfl rfl (k_tmp 0 (h := k_call [] (con := lookSession_0) (hargs := by exact .cons rfl (conv_ptrJ (by rfl) rfl rfl (bk_J 13 (by decide) (by decide))) .nil))) ?_
 refine o2 ?_
 refine s_on rfl rfl rfl k_mv ?_
 refine s_on rfl rfl rfl (k_tmp 0 (h := k_call [] (con := lookRecord_0) (hargs := by exact .cons rfl (conv_ptrJ (by rfl) rfl rfl (bk_J 14 (by decide) (by decide))) .nil))) ?_
 refine o2 ?_
 refine s_nil trivial (n_wp (w_ret ?_))
 exact d_ret hP hn hE [0, 1, 2, 3, 4, 5, 6, 7, 8] (by first | exact r_tmp Tryz.results14 | exact r_tmpa Tryz.results14)

end Go.Proofs.X
end

section
set_option maxRecDepth 100000
set_option maxHeartbeats 4000000
open Go Go.Bx Go.Proofs
namespace Go.Proofs.X
set_option maxRecDepth 100000
set_option maxHeartbeats 4000000
attribute [local irreducible] hmB streamI seal1 sealB ahB be fiB hmO tk rmac rsumL SB BK ks
theorem law19_AABCn (M C B D : List Int) (l n : Nat) (h1 : ¬ 5000 < B.length) (h2 : ¬ 5000 < D.length) (SX : List Int) (hSX : SX.length ≤ 5000) (ea : Int) (hsa : Con Tryz.prog 20 [.agg [.ints .u8 32 M, .ints .u8 16 C], .s (.int .u32 ((l : Nat) : Int)), .s (.int .u64 ((n : Nat) : Int)), .s (.fzi .u8 B)] [] (.tup [.s (.slice 0 0 0 SX.length SX.length), .s (.int .i64 ea)]) [IB SX.length SX]) (hsb : Con Tryz.prog 21 [.agg [.ints .u8 32 M, .ints .u8 16 C], .s (.int .u32 ((l : Nat) : Int)), .s (.int .u64 ((n : Nat) : Int)), .s (.fzi .u8 B)] [] (.tup [.s (.fzi .u8 SX), .s (.int .i64 ea)]) []) (lo no eo : Int) (hoa : Con Tryz.prog 22 [.agg [.ints .u8 32 M, .ints .u8 16 C], .s (.fzi .u8 D)] [] (.tup [.s (.int .u32 lo), .s (.int .u64 no), .s .nils, .s (.int .i64 eo)]) []) (hob : Con Tryz.prog 23 [.agg [.ints .u8 32 M, .ints .u8 16 C], .s (.fzi .u8 D)] [] (.tup [.s (.int .u32 lo), .s (.int .u64 no), .s .nils, .s (.int .i64 eo)]) []) (ll el : Int) (hla : Con Tryz.prog 24 [.s (.fzi .u8 D)] [] (.tup [.s (.int .u32 ll), .s (.int .i64 el)]) []) (hlb : Con Tryz.prog 25 [.s (.fzi .u8 D)] [] (.tup [.s (.int .u32 ll), .s (.int .i64 el)]) []) : Con Tryz.prog 5 [.agg [.ints .u8 32 M, .ints .u8 16 C, .one (.int .u32 ((l : Nat) : Int)), .one (.int .u64 ((n : Nat) : Int))], .s (.fzi .u8 B), .s (.fzi .u8 D)] [] (.s (.bool true)) [] := by
 refine con_in 149 Tryz.func5 rfl rfl (m := 0) rfl ?_
 intro E hP hn hE
 refine qz hP hn ?_
 refine s_op k_bxf ?_
 refine s_op k_as ?_
 refine s_nil trivial (n_wp (w_seq (qz hP hn ?_)))
 refine o2 ?_
 refine s_op (l_bin rfl rfl (b_gtr (r := false) (decide_eq_false (by omega)))) ?_
 refine s_op k_mv ?_
 refine s_on rfl rfl rfl k_mv ?_
 refine s_on rfl rfl rfl k_len ?_
 refine s_on rfl rfl rfl (l_bin rfl rfl (b_gtr (r := false) (decide_eq_false (by omega)))) ?_
 refine s_op k_pk ?_
 refine s_nil trivial (n_wp ?_)
 refine w_F rfl ?_ 
 refine w_skip (n_wp (qz hP hn ?_))
 refine s_op k_mv ?_
 refine s_op (k_call [] (con := twin_c B (by omega)) (H' := [none, IB (B.length + 1) (B ++ [77])]) (hH := by kernel_rfl)) ?_
 refine s_op k_as ?_
 refine qx hP hn ?_
 refine s_op k_mv ?_
 refine s_op (k_call [] (con := twin_c D (by omega)) (H' := [none, IB (B.length + 1) (B ++ [77]), IB (D.length + 1) (D ++ [77])]) (hH := by kernel_rfl)) ?_
 refine s_op k_as ?_
 refine qx hP hn ?_
 refine s_op k_fa ?_
 refine s_op (k_ld (h := by exact a_loadf_agg (sub := [.ints .u8 32 M, .ints .u8 16 C]) (r := [.ints .u8 32 M, .ints .u8 16 C, .one (.int .u32 ((l : Nat) : Int)), .one (.int .u64 ((n : Nat) : Int))]) rfl (by exact Nat.le_of_ble_eq_true rfl) (by kernel_rfl) (by kernel_rfl))) ?_
 refine s_op k_fa ?_
 refine s_op (k_ld (h := by exact a_loadf (v := .int .u32 ((l : Nat) : Int)) rfl (by exact Nat.le_of_ble_eq_true rfl) (by kernel_rfl))) ?_
 refine s_op k_fa ?_
 refine s_op (k_ld (h := by exact a_loadf (v := .int .u64 ((n : Nat) : Int)) rfl (by exact Nat.le_of_ble_eq_true rfl) (by kernel_rfl))) ?_
 refine s_op k_mv ?_
 refine s_op (k_tmpN 1 [IB SX.length SX] (h := k_call [] (con := hsa) (hargs := by exact .cons rfl cv (.cons rfl cv (.cons rfl cv (.cons rfl (conv_sl (kk := .u8) (n := B.length + 1) (l := B ++ [77]) (by rfl) rfl rfl (by omega) (by omega) (by simp) (by simp)) .nil)))) (hH := by rfl))) ?_
 refine o3 ?_
 refine o2 ?_
 refine qx hP hn ?_
 refine s_op k_fa ?_
 refine s_op (k_ld (h := by exact a_loadf_agg (sub := [.ints .u8 32 M, .ints .u8 16 C]) (r := [.ints .u8 32 M, .ints .u8 16 C, .one (.int .u32 ((l : Nat) : Int)), .one (.int .u64 ((n : Nat) : Int))]) rfl (by exact Nat.le_of_ble_eq_true rfl) (by kernel_rfl) (by kernel_rfl))) ?_
 refine s_op k_fa ?_
 refine s_op (k_ld (h := by exact a_loadf (v := .int .u32 ((l : Nat) : Int)) rfl (by exact Nat.le_of_ble_eq_true rfl) (by kernel_rfl))) ?_
 refine s_op k_fa ?_
 refine s_op (k_ld (h := by exact a_loadf (v := .int .u64 ((n : Nat) : Int)) rfl (by exact Nat.le_of_ble_eq_true rfl) (by kernel_rfl))) ?_
 refine s_op k_mv ?_
 refine s_op (k_call [] (con := hsb)) ?_
 refine o3 ?_
 refine o2 ?_
 refine qx hP hn ?_
 refine s_op k_fa ?_
 refine s_op (k_ld (h := by exact a_loadf_agg (sub := [.ints .u8 32 M, .ints .u8 16 C]) (r := [.ints .u8 32 M, .ints .u8 16 C, .one (.int .u32 ((l : Nat) : Int)), .one (.int .u64 ((n : Nat) : Int))]) rfl (by exact Nat.le_of_ble_eq_true rfl) (by kernel_rfl) (by kernel_rfl))) ?_
 refine s_op k_mv ?_
 refine s_op (k_tmp 2 (h := k_call [] (con := hoa) (hargs := by exact .cons rfl cv (.cons rfl (conv_sl (kk := .u8) (n := D.length + 1) (l := D ++ [77]) (by rfl) rfl rfl (by omega) (by omega) (by simp) (by simp)) .nil)))) ?_
 refine o4 ?_
 refine o3 ?_
 refine o2 ?_
 refine qx hP hn ?_
 refine s_op k_fa ?_
 refine s_op (k_ld (h := by exact a_loadf_agg (sub := [.ints .u8 32 M, .ints .u8 16 C]) (r := [.ints .u8 32 M, .ints .u8 16 C, .one (.int .u32 ((l : Nat) : Int)), .one (.int .u64 ((n : Nat) : Int))]) rfl (by exact Nat.le_of_ble_eq_true rfl) (by kernel_rfl) (by kernel_rfl))) ?_
 refine s_op k_mv ?_
 refine s_op (k_call [] (con := hob)) ?_
 refine o4 ?_
 refine o3 ?_
 refine o2 ?_
 refine qx hP hn ?_
 refine s_op k_mv ?_
 refine s_op (k_tmp 2 (h := k_call [] (con := hla) (hargs := by exact .cons rfl (conv_sl (kk := .u8) (n := D.length + 1) (l := D ++ [77]) (by rfl) rfl rfl (by omega) (by omega) (by simp) (by simp)) .nil))) ?_
 refine o3 ?_
 refine o2 ?_
 refine qx hP hn ?_
 refine s_op k_mv ?_
 refine s_op (k_call [] (con := hlb)) ?_
 refine o3 ?_
 refine o2 ?_
 refine s_nil trivial (n_wp (w_seq (qz hP hn ?_)))
 refine o2 ?_
 refine s_op (l_bin rfl rfl (b_neq (r := false) (decide_eq_false (fun h => h rfl)))) ?_
 refine s_op k_mv ?_
 refine s_on rfl rfl rfl k_mv ?_
 refine s_on rfl rfl rfl k_mv ?_
 refine s_on rfl rfl rfl (l_bin rfl rfl (b_neq (r := false) (decide_eq_false (fun h => h rfl)))) ?_
 refine o2 ?_
 refine s_on rfl rfl rfl k_mv ?_
 refine s_on rfl rfl rfl k_mv ?_
 refine s_on rfl rfl rfl (l_bin rfl rfl (b_neq (r := false) (decide_eq_false (fun h => h rfl)))) ?_
 refine o2 ?_
 refine s_on rfl rfl rfl k_mv ?_
 refine s_on rfl rfl rfl k_mv ?_
 refine s_on rfl rfl rfl (l_bin rfl rfl (b_neq (r := false) (decide_eq_false (fun h => h rfl)))) ?_
 refine o2 ?_
 refine s_on rfl rfl rfl k_mv ?_
 refine s_on rfl rfl rfl k_mv ?_
 refine s_on rfl rfl rfl (l_bin rfl rfl (b_neq (r := false) (decide_eq_false (fun h => h rfl)))) ?_
 refine o2 ?_
 refine s_on rfl rfl rfl k_mv ?_
 refine s_on rfl rfl rfl k_mv ?_
 refine s_on rfl rfl rfl (l_bin rfl rfl (b_neq (r := false) (decide_eq_false (fun h => h rfl)))) ?_
 refine o2 ?_
 refine s_on rfl rfl rfl k_mv ?_
 refine s_on rfl rfl rfl k_mv ?_
 refine s_on rfl rfl rfl (k_tmp 3 (h := k_call [] (con := same_n SX (by omega)) (hargs := by exact .cons rfl (conv_sl (kk := .u8) (n := SX.length) (l := SX) (by rfl) rfl rfl (by omega) (by omega) rfl (by rw [List.drop_zero]; exact List.take_length)) (.cons rfl cv .nil)))) ?_
 refine s_on rfl rfl rfl k_not ?_
 refine o2 ?_
 refine s_on rfl rfl rfl k_mv ?_
 refine s_on rfl rfl rfl k_mv ?_
 refine s_on rfl rfl rfl (k_call [] (con := same_n [] (Nat.zero_le _))) ?_
 refine s_on rfl rfl rfl k_not ?_
 refine o2 ?_
 refine s_on rfl rfl rfl k_mv ?_
 refine s_on rfl rfl rfl k_mv ?_
 refine s_on rfl rfl rfl (k_call [1] (con := left_n B (by omega)) (H' := [none, IB (B.length + 1) (B ++ [77]), IB (D.length + 1) (D ++ [77]), IB SX.length SX]) (hH := by kernel_rfl)) ?_
 refine s_on rfl rfl rfl k_not ?_
 refine o2 ?_
 refine s_on rfl rfl rfl k_mv ?_
 refine s_on rfl rfl rfl k_mv ?_
 refine s_on rfl rfl rfl (k_call [2] (con := left_n D (by omega)) (H' := [none, IB (B.length + 1) (B ++ [77]), IB (D.length + 1) (D ++ [77]), IB SX.length SX]) (hH := by kernel_rfl)) ?_
 refine s_on rfl rfl rfl k_not ?_
 refine s_op k_pk ?_
 refine s_nil trivial (n_wp ?_)
 refine w_F rfl ?_ 
 refine w_skip (n_wp (qz hP hn ?_))
 refine s_op k_al ?_
 refine qx hP hn ?_
 refine s_op k_mv ?_
 refine s_op (k_call [4, 1] (con := bytes_A B) (H' := [none, IB (B.length + 1) (B ++ [77]), IB (D.length + 1) (D ++ [77]), IB SX.length SX, BKb 1 (.gro 5 3 1), RB (R3 (.slice 1 0 0 B.length (B.length + 1)) .nils 1 [])]) (hH := by kernel_rfl)) ?_
 refine qx hP hn ?_
 refine s_op k_mv ?_
 refine s_op (k_call [4, 1, 2, 5] (con := bytes_AA B D) (H' := [none, IB (B.length + 1) (B ++ [77]), IB (D.length + 1) (D ++ [77]), IB SX.length SX, BKb 2 (.gro 6 3 2), none, RB (R3 (.slice 1 0 0 B.length (B.length + 1)) .nils 1 (R3 (.slice 2 0 0 D.length (D.length + 1)) .nils 2 []))]) (hH := by kernel_rfl)) ?_
 refine qx hP hn ?_
 refine s_op k_mv ?_
 refine s_op (k_call [4, 1, 2, 3, 6] (con := bytes_AAB B D SX) (H' := [none, IB (B.length + 1) (B ++ [77]), IB (D.length + 1) (D ++ [77]), IB SX.length SX, BKb 3 (.gro 7 3 3), none, none, RB (R3 (.slice 1 0 0 B.length (B.length + 1)) .nils 1 (R3 (.slice 2 0 0 D.length (D.length + 1)) .nils 2 (R3 (.slice 3 0 0 SX.length SX.length) .nils 3 [])))]) (hH := by kernel_rfl)) ?_
 refine qx hP hn ?_
 refine s_op k_mv ?_
 refine s_op (k_call [4, 1, 2, 3, 7] (con := bytes_AABC B D SX) (H' := [none, IB (B.length + 1) (B ++ [77]), IB (D.length + 1) (D ++ [77]), IB SX.length SX, BKb 4 (.gro 8 3 4), none, none, none, RB (R3 (.slice 1 0 0 B.length (B.length + 1)) .nils 1 (R3 (.slice 2 0 0 D.length (D.length + 1)) .nils 2 (R3 (.slice 3 0 0 SX.length SX.length) .nils 3 (R3 .nils .nils 4 []))))]) (hH := by kernel_rfl)) ?_
 refine qx hP hn ?_
 refine s_op (k_call [4, 1, 2, 3, 8] (con := apart_AABC B (by omega) D (by omega) SX (by omega))) ?_
 refine s_op k_as ?_
 refine s_nil trivial (n_wp (w_ret ?_))
 exact d_ret hP hn hE [] (by first | exact r_tmp Tryz.results5 | exact r_tmpa Tryz.results5)
theorem law19_AABCe (M C B D : List Int) (l n : Nat) (h1 : ¬ 5000 < B.length) (h2 : ¬ 5000 < D.length) (SX : List Int) (hSX : SX.length ≤ 5000) (ea : Int) (hsa : Con Tryz.prog 20 [.agg [.ints .u8 32 M, .ints .u8 16 C], .s (.int .u32 ((l : Nat) : Int)), .s (.int .u64 ((n : Nat) : Int)), .s (.fzi .u8 B)] [] (.tup [.s (.slice 0 0 0 SX.length SX.length), .s (.int .i64 ea)]) [IB SX.length SX]) (hsb : Con Tryz.prog 21 [.agg [.ints .u8 32 M, .ints .u8 16 C], .s (.int .u32 ((l : Nat) : Int)), .s (.int .u64 ((n : Nat) : Int)), .s (.fzi .u8 B)] [] (.tup [.s (.fzi .u8 SX), .s (.int .i64 ea)]) []) (lo no eo : Int) (hoa : Con Tryz.prog 22 [.agg [.ints .u8 32 M, .ints .u8 16 C], .s (.fzi .u8 D)] [] (.tup [.s (.int .u32 lo), .s (.int .u64 no), .s .nils, .s (.int .i64 eo)]) []) (hob : Con Tryz.prog 23 [.agg [.ints .u8 32 M, .ints .u8 16 C], .s (.fzi .u8 D)] [] (.tup [.s (.int .u32 lo), .s (.int .u64 no), .s (.fzi .u8 []), .s (.int .i64 eo)]) []) (ll el : Int) (hla : Con Tryz.prog 24 [.s (.fzi .u8 D)] [] (.tup [.s (.int .u32 ll), .s (.int .i64 el)]) []) (hlb : Con Tryz.prog 25 [.s (.fzi .u8 D)] [] (.tup [.s (.int .u32 ll), .s (.int .i64 el)]) []) : Con Tryz.prog 5 [.agg [.ints .u8 32 M, .ints .u8 16 C, .one (.int .u32 ((l : Nat) : Int)), .one (.int .u64 ((n : Nat) : Int))], .s (.fzi .u8 B), .s (.fzi .u8 D)] [] (.s (.bool true)) [] := by
 refine con_in 149 Tryz.func5 rfl rfl (m := 0) rfl ?_
 intro E hP hn hE
 refine qz hP hn ?_
 refine s_op k_bxf ?_
 refine s_op k_as ?_
 refine s_nil trivial (n_wp (w_seq (qz hP hn ?_)))
 refine o2 ?_
 refine s_op (l_bin rfl rfl (b_gtr (r := false) (decide_eq_false (by omega)))) ?_
 refine s_op k_mv ?_
 refine s_on rfl rfl rfl k_mv ?_
 refine s_on rfl rfl rfl k_len ?_
 refine s_on rfl rfl rfl (l_bin rfl rfl (b_gtr (r := false) (decide_eq_false (by omega)))) ?_
 refine s_op k_pk ?_
 refine s_nil trivial (n_wp ?_)
 refine w_F rfl ?_ 
 refine w_skip (n_wp (qz hP hn ?_))
 refine s_op k_mv ?_
 refine s_op (k_call [] (con := twin_c B (by omega)) (H' := [none, IB (B.length + 1) (B ++ [77])]) (hH := by kernel_rfl)) ?_
 refine s_op k_as ?_
 refine qx hP hn ?_
 refine s_op k_mv ?_
 refine s_op (k_call [] (con := twin_c D (by omega)) (H' := [none, IB (B.length + 1) (B ++ [77]), IB (D.length + 1) (D ++ [77])]) (hH := by kernel_rfl)) ?_
 refine s_op k_as ?_
 refine qx hP hn ?_
 refine s_op k_fa ?_
 refine s_op (k_ld (h := by exact a_loadf_agg (sub := [.ints .u8 32 M, .ints .u8 16 C]) (r := [.ints .u8 32 M, .ints .u8 16 C, .one (.int .u32 ((l : Nat) : Int)), .one (.int .u64 ((n : Nat) : Int))]) rfl (by exact Nat.le_of_ble_eq_true rfl) (by kernel_rfl) (by kernel_rfl))) ?_
 refine s_op k_fa ?_
 refine s_op (k_ld (h := by exact a_loadf (v := .int .u32 ((l : Nat) : Int)) rfl (by exact Nat.le_of_ble_eq_true rfl) (by kernel_rfl))) ?_
 refine s_op k_fa ?_
 refine s_op (k_ld (h := by exact a_loadf (v := .int .u64 ((n : Nat) : Int)) rfl (by exact Nat.le_of_ble_eq_true rfl) (by kernel_rfl))) ?_
 refine s_op k_mv ?_
 refine s_op (k_tmpN 1 [IB SX.length SX] (h := k_call [] (con := hsa) (hargs := by exact .cons rfl cv (.cons rfl cv (.cons rfl cv (.cons rfl (conv_sl (kk := .u8) (n := B.length + 1) (l := B ++ [77]) (by rfl) rfl rfl (by omega) (by omega) (by simp) (by simp)) .nil)))) (hH := by rfl))) ?_
 refine o3 ?_
 refine o2 ?_
 refine qx hP hn ?_
 refine s_op k_fa ?_
 refine s_op (k_ld (h := by exact a_loadf_agg (sub := [.ints .u8 32 M, .ints .u8 16 C]) (r := [.ints .u8 32 M, .ints .u8 16 C, .one (.int .u32 ((l : Nat) : Int)), .one (.int .u64 ((n : Nat) : Int))]) rfl (by exact Nat.le_of_ble_eq_true rfl) (by kernel_rfl) (by kernel_rfl))) ?_
 refine s_op k_fa ?_
 refine s_op (k_ld (h := by exact a_loadf (v := .int .u32 ((l : Nat) : Int)) rfl (by exact Nat.le_of_ble_eq_true rfl) (by kernel_rfl))) ?_
 refine s_op k_fa ?_
 refine s_op (k_ld (h := by exact a_loadf (v := .int .u64 ((n : Nat) : Int)) rfl (by exact Nat.le_of_ble_eq_true rfl) (by kernel_rfl))) ?_
 refine s_op k_mv ?_
 refine s_op (k_call [] (con := hsb)) ?_
 refine o3 ?_
 refine o2 ?_
 refine qx hP hn ?_
 refine s_op k_fa ?_
 refine s_op (k_ld (h := by exact a_loadf_agg (sub := [.ints .u8 32 M, .ints .u8 16 C]) (r := [.ints .u8 32 M, .ints .u8 16 C, .one (.int .u32 ((l : Nat) : Int)), .one (.int .u64 ((n : Nat) : Int))]) rfl (by exact Nat.le_of_ble_eq_true rfl) (by kernel_rfl) (by kernel_rfl))) ?_
 refine s_op k_mv ?_
 refine s_op (k_tmp 2 (h := k_call [] (con := hoa) (hargs := by exact .cons rfl cv (.cons rfl (conv_sl (kk := .u8) (n := D.length + 1) (l := D ++ [77]) (by rfl) rfl rfl (by omega) (by omega) (by simp) (by simp)) .nil)))) ?_
 refine o4 ?_
 refine o3 ?_
 refine o2 ?_
 refine qx hP hn ?_
 refine s_op k_fa ?_
 refine s_op (k_ld (h := by exact a_loadf_agg (sub := [.ints .u8 32 M, .ints .u8 16 C]) (r := [.ints .u8 32 M, .ints .u8 16 C, .one (.int .u32 ((l : Nat) : Int)), .one (.int .u64 ((n : Nat) : Int))]) rfl (by exact Nat.le_of_ble_eq_true rfl) (by kernel_rfl) (by kernel_rfl))) ?_
 refine s_op k_mv ?_
 refine s_op (k_call [] (con := hob)) ?_
 refine o4 ?_
 refine o3 ?_
 refine o2 ?_
 refine qx hP hn ?_
 refine s_op k_mv ?_
 refine s_op (k_tmp 2 (h := k_call [] (con := hla) (hargs := by exact .cons rfl (conv_sl (kk := .u8) (n := D.length + 1) (l := D ++ [77]) (by rfl) rfl rfl (by omega) (by omega) (by simp) (by simp)) .nil))) ?_
 refine o3 ?_
 refine o2 ?_
 refine qx hP hn ?_
 refine s_op k_mv ?_
 refine s_op (k_call [] (con := hlb)) ?_
 refine o3 ?_
 refine o2 ?_
 refine s_nil trivial (n_wp (w_seq (qz hP hn ?_)))
 refine o2 ?_
 refine s_op (l_bin rfl rfl (b_neq (r := false) (decide_eq_false (fun h => h rfl)))) ?_
 refine s_op k_mv ?_
 refine s_on rfl rfl rfl k_mv ?_
 refine s_on rfl rfl rfl k_mv ?_
 refine s_on rfl rfl rfl (l_bin rfl rfl (b_neq (r := false) (decide_eq_false (fun h => h rfl)))) ?_
 refine o2 ?_
 refine s_on rfl rfl rfl k_mv ?_
 refine s_on rfl rfl rfl k_mv ?_
 refine s_on rfl rfl rfl (l_bin rfl rfl (b_neq (r := false) (decide_eq_false (fun h => h rfl)))) ?_
 refine o2 ?_
 refine s_on rfl rfl rfl k_mv ?_
 refine s_on rfl rfl rfl k_mv ?_
 refine s_on rfl rfl rfl (l_bin rfl rfl (b_neq (r := false) (decide_eq_false (fun h => h rfl)))) ?_
 refine o2 ?_
 refine s_on rfl rfl rfl k_mv ?_
 refine s_on rfl rfl rfl k_mv ?_
 refine s_on rfl rfl rfl (l_bin rfl rfl (b_neq (r := false) (decide_eq_false (fun h => h rfl)))) ?_
 refine o2 ?_
 refine s_on rfl rfl rfl k_mv ?_
 refine s_on rfl rfl rfl k_mv ?_
 refine s_on rfl rfl rfl (l_bin rfl rfl (b_neq (r := false) (decide_eq_false (fun h => h rfl)))) ?_
 refine o2 ?_
 refine s_on rfl rfl rfl k_mv ?_
 refine s_on rfl rfl rfl k_mv ?_
 refine s_on rfl rfl rfl (k_tmp 3 (h := k_call [] (con := same_n SX (by omega)) (hargs := by exact .cons rfl (conv_sl (kk := .u8) (n := SX.length) (l := SX) (by rfl) rfl rfl (by omega) (by omega) rfl (by rw [List.drop_zero]; exact List.take_length)) (.cons rfl cv .nil)))) ?_
 refine s_on rfl rfl rfl k_not ?_
 refine o2 ?_
 refine s_on rfl rfl rfl k_mv ?_
 refine s_on rfl rfl rfl k_mv ?_
 refine s_on rfl rfl rfl (k_call [] (con := same_n [] (Nat.zero_le _))) ?_
 refine s_on rfl rfl rfl k_not ?_
 refine o2 ?_
 refine s_on rfl rfl rfl k_mv ?_
 refine s_on rfl rfl rfl k_mv ?_
 refine s_on rfl rfl rfl (k_call [1] (con := left_n B (by omega)) (H' := [none, IB (B.length + 1) (B ++ [77]), IB (D.length + 1) (D ++ [77]), IB SX.length SX]) (hH := by kernel_rfl)) ?_
 refine s_on rfl rfl rfl k_not ?_
 refine o2 ?_
 refine s_on rfl rfl rfl k_mv ?_
 refine s_on rfl rfl rfl k_mv ?_
 refine s_on rfl rfl rfl (k_call [2] (con := left_n D (by omega)) (H' := [none, IB (B.length + 1) (B ++ [77]), IB (D.length + 1) (D ++ [77]), IB SX.length SX]) (hH := by kernel_rfl)) ?_
 refine s_on rfl rfl rfl k_not ?_
 refine s_op k_pk ?_
 refine s_nil trivial (n_wp ?_)
 refine w_F rfl ?_ 
 refine w_skip (n_wp (qz hP hn ?_))
 refine s_op k_al ?_
 refine qx hP hn ?_
 refine s_op k_mv ?_
 refine s_op (k_call [4, 1] (con := bytes_A B) (H' := [none, IB (B.length + 1) (B ++ [77]), IB (D.length + 1) (D ++ [77]), IB SX.length SX, BKb 1 (.gro 5 3 1), RB (R3 (.slice 1 0 0 B.length (B.length + 1)) .nils 1 [])]) (hH := by kernel_rfl)) ?_
 refine qx hP hn ?_
 refine s_op k_mv ?_
 refine s_op (k_call [4, 1, 2, 5] (con := bytes_AA B D) (H' := [none, IB (B.length + 1) (B ++ [77]), IB (D.length + 1) (D ++ [77]), IB SX.length SX, BKb 2 (.gro 6 3 2), none, RB (R3 (.slice 1 0 0 B.length (B.length + 1)) .nils 1 (R3 (.slice 2 0 0 D.length (D.length + 1)) .nils 2 []))]) (hH := by kernel_rfl)) ?_
 refine qx hP hn ?_
 refine s_op k_mv ?_
 refine s_op (k_call [4, 1, 2, 3, 6] (con := bytes_AAB B D SX) (H' := [none, IB (B.length + 1) (B ++ [77]), IB (D.length + 1) (D ++ [77]), IB SX.length SX, BKb 3 (.gro 7 3 3), none, none, RB (R3 (.slice 1 0 0 B.length (B.length + 1)) .nils 1 (R3 (.slice 2 0 0 D.length (D.length + 1)) .nils 2 (R3 (.slice 3 0 0 SX.length SX.length) .nils 3 [])))]) (hH := by kernel_rfl)) ?_
 refine qx hP hn ?_
 refine s_op k_mv ?_
 refine s_op (k_call [4, 1, 2, 3, 7] (con := bytes_AABC B D SX) (H' := [none, IB (B.length + 1) (B ++ [77]), IB (D.length + 1) (D ++ [77]), IB SX.length SX, BKb 4 (.gro 8 3 4), none, none, none, RB (R3 (.slice 1 0 0 B.length (B.length + 1)) .nils 1 (R3 (.slice 2 0 0 D.length (D.length + 1)) .nils 2 (R3 (.slice 3 0 0 SX.length SX.length) .nils 3 (R3 .nils .nils 4 []))))]) (hH := by kernel_rfl)) ?_
 refine qx hP hn ?_
 refine s_op (k_call [4, 1, 2, 3, 8] (con := apart_AABC B (by omega) D (by omega) SX (by omega))) ?_
 refine s_op k_as ?_
 refine s_nil trivial (n_wp (w_ret ?_))
 exact d_ret hP hn hE [] (by first | exact r_tmp Tryz.results5 | exact r_tmpa Tryz.results5)

end Go.Proofs.X
end

section
set_option maxRecDepth 100000
set_option maxHeartbeats 4000000
open Go Go.Bx Go.Proofs
namespace Go.Proofs.X
set_option maxRecDepth 100000
set_option maxHeartbeats 4000000
theorem apart_AACB (X0 : List Int) (hX0 : X0.length ≤ 100000) (X1 : List Int) (hX1 : X1.length ≤ 100000) (X3 : List Int) (hX3 : X3.length ≤ 100000) : Con Tryz.prog 14 [.s (.ptr 0 0 0)] [BKb 4 (.gro 4 3 4), IB (X0.length + 1) (X0 ++ [77]), IB (X1.length + 1) (X1 ++ [77]), IB X3.length X3, RB (R3 (.slice 1 0 0 X0.length (X0.length + 1)) .nils 1 (R3 (.slice 2 0 0 X1.length (X1.length + 1)) .nils 2 (R3 .nils .nils 3 (R3 (.slice 3 0 0 X3.length X3.length) .nils 4 []))))] (.s (.bool true)) [BKb 4 (.gro 4 3 4), IB (X0.length + 1) (List.replicate (X0.length + 1) 1), IB (X1.length + 1) (List.replicate (X1.length + 1) 2), IB X3.length (List.replicate X3.length 4), RB (R3 (.slice 1 0 0 X0.length (X0.length + 1)) (.gro 5 1 (X0.length + 40)) 1 (R3 (.slice 2 0 0 X1.length (X1.length + 1)) (.gro 6 1 (X1.length + 40)) 2 (R3 .nils (.gro 7 1 (0 + 40)) 3 (R3 (.slice 3 0 0 X3.length X3.length) (.gro 8 1 (X3.length + 40)) 4 [])))), IB (X0.length + 40) (List.replicate (X0.length + 40) 1), IB (X1.length + 40) (List.replicate (X1.length + 40) 2), IB (0 + 40) (List.replicate (0 + 40) 3), IB (X3.length + 40) (List.replicate (X3.length + 40) 4)] := by
 refine con_in 121 Tryz.func14 rfl rfl (m := 5) rfl ?_
 intro E hP hn hE
 refine qz hP hn ?_
 refine s_op k_as ?_
 refine qx hP hn ?_
 refine s_op k_mv ?_
 refine s_op (k_call [0, 1, 2, 3, 4] (con := fill_AACB X0 hX0 X1 hX1 X3 hX3) (H' := [BKb 4 (.gro 4 3 4), IB (X0.length + 1) (List.replicate X0.length 1 ++ [77]), IB (X1.length + 1) (List.replicate X1.length 2 ++ [77]), IB X3.length (List.replicate X3.length 4), RB (R3 (.slice 1 0 0 X0.length (X0.length + 1)) .nils 1 (R3 (.slice 2 0 0 X1.length (X1.length + 1)) .nils 2 (R3 .nils .nils 3 (R3 (.slice 3 0 0 X3.length X3.length) .nils 4 []))))]) (hH := by kernel_rfl)) ?_
 refine qx hP hn ?_
 refine s_op k_mv ?_
 refine s_op (k_tmp 0 (h := k_call [] (con := fillInt_0) (hargs := by exact .cons rfl (conv_ptrJ (by rfl) rfl rfl (bk_J 1 (by decide) (by decide))) .nil))) ?_
 refine qx hP hn ?_
 refine s_op k_mv ?_
 refine s_op (k_tmp 0 (h := k_call [] (con := fillText_0) (hargs := by exact .cons rfl (conv_ptrJ (by rfl) rfl rfl (bk_J 2 (by decide) (by decide))) .nil))) ?_
 refine qx hP hn ?_
 refine s_op k_mv ?_
 refine s_op (k_tmp 0 (h := k_call [] (con := fillNum_0) (hargs := by exact .cons rfl (conv_ptrJ (by rfl) rfl rfl (bk_J 3 (by decide) (by decide))) .nil))) ?_
 refine qx hP hn ?_
 refine s_op k_mv ?_
 refine s_op (k_tmp 0 (h := k_call [] (con := fillSum_0) (hargs := by exact .cons rfl (conv_ptrJ (by rfl) rfl rfl (bk_J 4 (by decide) (by decide))) .nil))) ?_
 refine s_nil trivial (n_wp (w_seq ?_))
 refine w_weak (weak_tm (T' := [(0, .s (.ptr 0 0 0))])) ?_
 refine g_reg hP hn ?_
 refine s_op k_mv ?_
 refine s_op (k_tmp 0 (h := k_call [] (con := fillTag_0) (hargs := by exact .cons rfl (conv_ptrJ (by rfl) rfl rfl (bk_J 5 (by decide) (by decide))) .nil))) ?_
 refine qx hP hn ?_
 refine s_op k_mv ?_
 refine s_op (k_tmp 0 (h := k_call [] (con := fillSpot_0) (hargs := by exact .cons rfl (conv_ptrJ (by rfl) rfl rfl (bk_J 6 (by decide) (by decide))) .nil))) ?_
 refine qx hP hn ?_
 refine s_op k_mv ?_
 refine s_op (k_tmp 0 (h := k_call [] (con := fillGen_0) (hargs := by exact .cons rfl (conv_ptrJ (by rfl) rfl rfl (bk_J 7 (by decide) (by decide))) .nil))) ?_
 refine qx hP hn ?_
 refine s_op k_mv ?_
 refine s_op (k_tmp 0 (h := k_call [] (con := fillLane_0) (hargs := by exact .cons rfl (conv_ptrJ (by rfl) rfl rfl (bk_J 8 (by decide) (by decide))) .nil))) ?_
 refine qx hP hn ?_
 refine s_op k_mv ?_
 refine s_op (k_tmp 0 (h := k_call [] (con := fillParam_0) (hargs := by exact .cons rfl (conv_ptrJ (by rfl) rfl rfl (bk_J 9 (by decide) (by decide))) .nil))) ?_
 refine s_nil trivial (n_wp (w_seq ?_))
 refine w_weak (weak_tm (T' := [(0, .s (.ptr 0 0 0))])) ?_
 refine g_reg hP hn ?_
 refine s_op k_mv ?_
 refine s_op (k_tmp 0 (h := k_call [] (con := fillPacket_0) (hargs := by exact .cons rfl (conv_ptrJ (by rfl) rfl rfl (bk_J 10 (by decide) (by decide))) .nil))) ?_
 refine qx hP hn ?_
 refine s_op k_mv ?_
 refine s_op (k_tmp 0 (h := k_call [] (con := fillFrame_0) (hargs := by exact .cons rfl (conv_ptrJ (by rfl) rfl rfl (bk_J 11 (by decide) (by decide))) .nil))) ?_
 refine qx hP hn ?_
 refine s_op k_mv ?_
 refine s_op (k_tmp 0 (h := k_call [] (con := fillMail_0) (hargs := by exact .cons rfl (conv_ptrJ (by rfl) rfl rfl (bk_J 12 (by decide) (by decide))) .nil))) ?_
 refine qx hP hn ?_
 refine s_op k_mv ?_
 refine s_op (k_tmp 0 (h := k_call [] (con := fillSession_0) (hargs := by exact .cons rfl (conv_ptrJ (by rfl) rfl rfl (bk_J 13 (by decide) (by decide))) .nil))) ?_
 refine qx hP hn ?_
 refine s_op k_mv ?_
 refine s_op (k_tmp 0 (h := k_call [] (con := fillRecord_0) (hargs := by exact .cons rfl (conv_ptrJ (by rfl) rfl rfl (bk_J 14 (by decide) (by decide))) .nil))) ?_
 refine s_nil trivial (n_wp (w_seq ?_))
 refine w_weak (weak_tm (T' := [(0, .s (.ptr 0 0 0))])) ?_
 refine g_reg hP hn ?_
 refine s_op k_mv ?_
 refine s_op (k_call [0, 1, 2, 3, 4] (con := grow_AACB X0 hX0 X1 hX1 X3 hX3) (H' := [BKb 4 (.gro 4 3 4), IB (X0.length + 1) (List.replicate (X0.length + 1) 1), IB (X1.length + 1) (List.replicate (X1.length + 1) 2), IB X3.length (List.replicate X3.length 4), RB (R3 (.slice 1 0 0 X0.length (X0.length + 1)) (.gro 5 1 (X0.length + 40)) 1 (R3 (.slice 2 0 0 X1.length (X1.length + 1)) (.gro 6 1 (X1.length + 40)) 2 (R3 .nils (.gro 7 1 (0 + 40)) 3 (R3 (.slice 3 0 0 X3.length X3.length) (.gro 8 1 (X3.length + 40)) 4 [])))), IB (X0.length + 40) (List.replicate (X0.length + 40) 1), IB (X1.length + 40) (List.replicate (X1.length + 40) 2), IB (0 + 40) (List.replicate (0 + 40) 3), IB (X3.length + 40) (List.replicate (X3.length + 40) 4)]) (hH := by kernel_rfl)) ?_
 refine qx hP hn ?_
 refine s_op k_mv ?_
 refine s_op (k_tmp 0 (h := k_call [] (con := growInt_0) (hargs := by exact .cons rfl (conv_ptrJ (by rfl) rfl rfl (bk_J 1 (by decide) (by decide))) .nil))) ?_
 refine qx hP hn ?_
 refine s_op k_mv ?_
 refine s_op (k_tmp 0 (h := k_call [] (con := growText_0) (hargs := by exact .cons rfl (conv_ptrJ (by rfl) rfl rfl (bk_J 2 (by decide) (by decide))) .nil))) ?_
 refine qx hP hn ?_
 refine s_op k_mv ?_
 refine s_op (k_tmp 0 (h := k_call [] (con := growNum_0) (hargs := by exact .cons rfl (conv_ptrJ (by rfl) rfl rfl (bk_J 3 (by decide) (by decide))) .nil))) ?_
 refine qx hP hn ?_
 refine s_op k_mv ?_
 refine s_op (k_tmp 0 (h := k_call [] (con := growSum_0) (hargs := by exact .cons rfl (conv_ptrJ (by rfl) rfl rfl (bk_J 4 (by decide) (by decide))) .nil))) ?_
 refine s_nil trivial (n_wp (w_seq ?_))
 refine w_weak (weak_tm (T' := [(0, .s (.ptr 0 0 0))])) ?_
 refine g_reg hP hn ?_
 refine s_op k_mv ?_
 refine s_op (k_tmp 0 (h := k_call [] (con := growTag_0) (hargs := by exact .cons rfl (conv_ptrJ (by rfl) rfl rfl (bk_J 5 (by decide) (by decide))) .nil))) ?_
 refine qx hP hn ?_
 refine s_op k_mv ?_
 refine s_op (k_tmp 0 (h := k_call [] (con := growSpot_0) (hargs := by exact .cons rfl (conv_ptrJ (by rfl) rfl rfl (bk_J 6 (by decide) (by decide))) .nil))) ?_
 refine qx hP hn ?_
 refine s_op k_mv ?_
 refine s_op (k_tmp 0 (h := k_call [] (con := growGen_0) (hargs := by exact .cons rfl (conv_ptrJ (by rfl) rfl rfl (bk_J 7 (by decide) (by decide))) .nil))) ?_
 refine qx hP hn ?_
 refine s_op k_mv ?_
 refine s_op (k_tmp 0 (h := k_call [] (con := growLane_0) (hargs := by exact .cons rfl (conv_ptrJ (by rfl) rfl rfl (bk_J 8 (by decide) (by decide))) .nil))) ?_
 refine qx hP hn ?_
 refine s_op k_mv ?_
 refine s_op (k_tmp 0 (h := k_call [] (con := growParam_0) (hargs := by exact .cons rfl (conv_ptrJ (by rfl) rfl rfl (bk_J 9 (by decide) (by decide))) .nil))) ?_
 refine s_nil trivial (n_wp (w_seq ?_))
 refine w_weak (weak_tm (T' := [(0, .s (.ptr 0 0 0))])) ?_
 refine g_reg hP hn ?_
 refine s_op k_mv ?_
 refine s_op (k_tmp 0 (h := k_call [] (con := growPacket_0) (hargs := by exact .cons rfl (conv_ptrJ (by rfl) rfl rfl (bk_J 10 (by decide) (by decide))) .nil))) ?_
 refine qx hP hn ?_
 refine s_op k_mv ?_
 refine s_op (k_tmp 0 (h := k_call [] (con := growFrame_0) (hargs := by exact .cons rfl (conv_ptrJ (by rfl) rfl rfl (bk_J 11 (by decide) (by decide))) .nil))) ?_
 refine qx hP hn ?_
 refine s_op k_mv ?_
 refine s_op (k_tmp 0 (h := k_call [] (con := growMail_0) (hargs := by exact .cons rfl (conv_ptrJ (by rfl) rfl rfl (bk_J 12 (by decide) (by decide))) .nil))) ?_
 refine qx hP hn ?_
 refine s_op k_mv ?_
 refine s_op (k_tmp 0 (h := k_call [] (con := growSession_0) (hargs := by exact .cons rfl (conv_ptrJ (by rfl) rfl rfl (bk_J 13 (by decide) (by decide))) .nil))) ?_
 refine qx hP hn ?_
 refine s_op k_mv ?_
 refine s_op (k_tmp 0 (h := k_call [] (con := growRecord_0) (hargs := by exact .cons rfl (conv_ptrJ (by rfl) rfl rfl (bk_J 14 (by decide) (by decide))) .nil))) ?_
 refine s_nil trivial (n_wp (w_seq ?_))
 refine w_weak (weak_tm (T' := [(0, .s (.ptr 0 0 0))])) ?_
 refine g_reg hP hn ?_
 refine s_op k_mv ?_
 refine s_op (k_call [0, 1, 2, 3, 4, 5, 6, 7, 8] (con := look_AACB X0 hX0 X1 hX1 X3 hX3)) ?_
 refine s_op k_mv ?_
 refine s_on rfl rfl rfl k_mv ?_
 refine s_on rfl rfl rfl (k_tmp 0 (h := k_call [] (con := lookInt_0) (hargs := by exact .cons rfl (conv_ptrJ (by rfl) rfl rfl (bk_J 1 (by decide) (by decide))) .nil))) ?_
 refine o2 ?_
 refine s_on rfl rfl rfl k_mv ?_
 refine s_on rfl rfl rfl (k_tmp 0 (h := k_call [] (con := lookText_0) (hargs := by exact .cons rfl (conv_ptrJ (by rfl) rfl rfl (bk_J 2 (by decide) (by decide))) .nil))) ?_
 refine o2 ?_
 refine s_on rfl rfl rfl k_mv ?_
 refine s_on rfl rfl rfl (k_tmp 0 (h := k_call [] (con := lookNum_0) (hargs := by exact .cons rfl (conv_ptrJ (by rfl) rfl rfl (bk_J 3 (by decide) (by decide))) .nil))) ?_
 refine o2 ?_
 refine s_on rfl rfl rfl k_mv ?_
 refine s_on rfl rfl rfl (k_tmp 0 (h := k_call [] (con := lookSum_0) (hargs := by exact .cons rfl (conv_ptrJ (by rfl) rfl rfl (bk_J 4 (by decide) (by decide))) .nil))) ?_
 refine o2 ?_
 refine s_on rfl rfl rfl k_mv ?_
 refine s_on rfl rfl rfl (k_tmp 0 (h := k_call [] (con := lookTag_0) (hargs := by exact .cons rfl (conv_ptrJ (by rfl) rfl rfl (bk_J 5 (by decide) (by decide))) .nil))) ?_
 refine o2 ?_
 refine s_on rfl rfl rfl k_mv ?_
 refine s_on rfl rfl rfl (k_tmp 0 (h := k_call [] (con := lookSpot_0) (hargs := by exact .cons rfl (conv_ptrJ (by rfl) rfl rfl (bk_J 6 (by decide) (by decide))) .nil))) ?_
 refine o2 ?_
 refine s_on rfl rfl rfl k_mv ?_
 refine s_on rfl rfl rfl (k_tmp 0 (h := k_call [] (con := lookGen_0) (hargs := by exact .cons rfl (conv_ptrJ (by rfl) rfl rfl (bk_J 7 (by decide) (by decide))) .nil))) ?_
 refine o2 ?_
 refine s_on rfl rfl rfl k_mv ?_
 refine s_on rfl rfl rfl (k_tmp 0 (h := k_call [] (con := lookLane_0) (hargs := by exact .cons rfl (conv_ptrJ (by rfl) rfl rfl (bk_J 8 (by decide) (by decide))) .nil))) ?_
 refine o2 ?_
 refine s_on rfl rfl rfl k_mv ?_
 refine s_on rfl rfl rfl (k_tmp 0 (h := k_call [] (con := lookParam_0) (hargs := by exact .cons rfl (conv_ptrJ (by rfl) rfl rfl (bk_J 9 (by decide) (by decide))) .nil))) ?_
 refine o2 ?_
 refine s_on rfl rfl rfl k_mv ?_
 refine s_on rfl rfl rfl (k_tmp 0 (h := k_call [] (con := lookPacket_0) (hargs := by exact .cons rfl (conv_ptrJ (by rfl) rfl rfl (bk_J 10 (by decide) (by decide))) .nil))) ?_
 refine o2 ?_
 refine s_on rfl rfl rfl k_mv ?_
 refine s_on rfl rfl rfl (k_tmp 0 (h := k_call [] (con := lookFrame_0) (hargs := by exact .cons rfl (conv_ptrJ (by rfl) rfl rfl (bk_J 11 (by decide) (by decide))) .nil))) ?_
 refine o2 ?_
 refine s_on rfl rfl rfl k_mv ?_
 refine s_on rfl rfl rfl (k_tmp 0 (h := k_call [] (con := lookMail_0) (hargs := by exact .cons rfl (conv_ptrJ (by rfl) rfl rfl (bk_J 12 (by decide) (by decide))) .nil))) ?_
 refine o2 ?_
 refine s_on rfl rfl rfl k_mv ?_
 refine s_on rfl rfl rfl (k_tmp 0 (h := k_call [] (con := lookSession_0) (hargs := by exact .cons rfl (conv_ptrJ (by rfl) rfl rfl (bk_J 13 (by decide) (by decide))) .nil))) ?_
 refine o2 ?_
 refine s_on rfl rfl rfl k_mv ?_
 refine s_on rfl rfl rfl (k_tmp 0 (h := k_call [] (con := lookRecord_0) (hargs := by exact .cons rfl (conv_ptrJ (by rfl) rfl rfl (bk_J 14 (by decide) (by decide))) .nil))) ?_
 refine o2 ?_
 refine s_nil trivial (n_wp (w_ret ?_))
 exact d_ret hP hn hE [0, 1, 2, 3, 4, 5, 6, 7, 8] (by first | exact r_tmp Tryz.results14 | exact r_tmpa Tryz.results14)

end Go.Proofs.X
end

section
set_option maxRecDepth 100000
set_option maxHeartbeats 4000000
open Go Go.Bx Go.Proofs
namespace Go.Proofs.X
set_option maxRecDepth 100000
set_option maxHeartbeats 4000000
attribute [local irreducible] hmB streamI seal1 sealB ahB be fiB hmO tk rmac rsumL SB BK ks
theorem law19_AACB (M C B D : List Int) (l n : Nat) (h1 : ¬ 5000 < B.length) (h2 : ¬ 5000 < D.length) (ea : Int) (hsa : Con Tryz.prog 20 [.agg [.ints .u8 32 M, .ints .u8 16 C], .s (.int .u32 ((l : Nat) : Int)), .s (.int .u64 ((n : Nat) : Int)), .s (.fzi .u8 B)] [] (.tup [.s .nils, .s (.int .i64 ea)]) []) (hsb : Con Tryz.prog 21 [.agg [.ints .u8 32 M, .ints .u8 16 C], .s (.int .u32 ((l : Nat) : Int)), .s (.int .u64 ((n : Nat) : Int)), .s (.fzi .u8 B)] [] (.tup [.s .nils, .s (.int .i64 ea)]) []) (OX : List Int) (hOX : OX.length ≤ 5000) (lo no eo : Int) (hoa : Con Tryz.prog 22 [.agg [.ints .u8 32 M, .ints .u8 16 C], .s (.fzi .u8 D)] [] (.tup [.s (.int .u32 lo), .s (.int .u64 no), .s (.slice 0 0 0 OX.length OX.length), .s (.int .i64 eo)]) [IB OX.length OX]) (hob : Con Tryz.prog 23 [.agg [.ints .u8 32 M, .ints .u8 16 C], .s (.fzi .u8 D)] [] (.tup [.s (.int .u32 lo), .s (.int .u64 no), .s (.fzi .u8 OX), .s (.int .i64 eo)]) []) (ll el : Int) (hla : Con Tryz.prog 24 [.s (.fzi .u8 D)] [] (.tup [.s (.int .u32 ll), .s (.int .i64 el)]) []) (hlb : Con Tryz.prog 25 [.s (.fzi .u8 D)] [] (.tup [.s (.int .u32 ll), .s (.int .i64 el)]) []) : Con Tryz.prog 5 [.agg [.ints .u8 32 M, .ints .u8 16 C, .one (.int .u32 ((l : Nat) : Int)), .one (.int .u64 ((n : Nat) : Int))], .s (.fzi .u8 B), .s (.fzi .u8 D)] [] (.s (.bool true)) [] := by
 refine con_in 149 Tryz.func5 rfl rfl (m := 0) rfl ?_
 intro E hP hn hE
 refine qz hP hn ?_
 refine s_op k_bxf ?_
 refine s_op k_as ?_
 refine s_nil trivial (n_wp (w_seq (qz hP hn ?_)))
 refine o2 ?_
 refine s_op (l_bin rfl rfl (b_gtr (r := false) (decide_eq_false (by omega)))) ?_
 refine s_op k_mv ?_
 refine s_on rfl rfl rfl k_mv ?_
 refine s_on rfl rfl rfl k_len ?_
 refine s_on rfl rfl rfl (l_bin rfl rfl (b_gtr (r := false) (decide_eq_false (by omega)))) ?_
 refine s_op k_pk ?_
 refine s_nil trivial (n_wp ?_)
 refine w_F rfl ?_ 
 refine w_skip (n_wp (qz hP hn ?_))
 refine s_op k_mv ?_
 refine s_op (k_call [] (con := twin_c B (by omega)) (H' := [none, IB (B.length + 1) (B ++ [77])]) (hH := by kernel_rfl)) ?_
 refine s_op k_as ?_
 refine qx hP hn ?_
 refine s_op k_mv ?_
 refine s_op (k_call [] (con := twin_c D (by omega)) (H' := [none, IB (B.length + 1) (B ++ [77]), IB (D.length + 1) (D ++ [77])]) (hH := by kernel_rfl)) ?_
 refine s_op k_as ?_
 refine qx hP hn ?_
 refine s_op k_fa ?_
 refine s_op (k_ld (h := by exact a_loadf_agg (sub := [.ints .u8 32 M, .ints .u8 16 C]) (r := [.ints .u8 32 M, .ints .u8 16 C, .one (.int .u32 ((l : Nat) : Int)), .one (.int .u64 ((n : Nat) : Int))]) rfl (by exact Nat.le_of_ble_eq_true rfl) (by kernel_rfl) (by kernel_rfl))) ?_
 refine s_op k_fa ?_
 refine s_op (k_ld (h := by exact a_loadf (v := .int .u32 ((l : Nat) : Int)) rfl (by exact Nat.le_of_ble_eq_true rfl) (by kernel_rfl))) ?_
 refine s_op k_fa ?_
 refine s_op (k_ld (h := by exact a_loadf (v := .int .u64 ((n : Nat) : Int)) rfl (by exact Nat.le_of_ble_eq_true rfl) (by kernel_rfl))) ?_
 refine s_op k_mv ?_
 refine s_op (k_tmp 1 (h := k_call [] (con := hsa) (hargs := by exact .cons rfl cv (.cons rfl cv (.cons rfl cv (.cons rfl (conv_sl (kk := .u8) (n := B.length + 1) (l := B ++ [77]) (by rfl) rfl rfl (by omega) (by omega) (by simp) (by simp)) .nil)))))) ?_
 refine o3 ?_
 refine o2 ?_
 refine qx hP hn ?_
 refine s_op k_fa ?_
 refine s_op (k_ld (h := by exact a_loadf_agg (sub := [.ints .u8 32 M, .ints .u8 16 C]) (r := [.ints .u8 32 M, .ints .u8 16 C, .one (.int .u32 ((l : Nat) : Int)), .one (.int .u64 ((n : Nat) : Int))]) rfl (by exact Nat.le_of_ble_eq_true rfl) (by kernel_rfl) (by kernel_rfl))) ?_
 refine s_op k_fa ?_
 refine s_op (k_ld (h := by exact a_loadf (v := .int .u32 ((l : Nat) : Int)) rfl (by exact Nat.le_of_ble_eq_true rfl) (by kernel_rfl))) ?_
 refine s_op k_fa ?_
 refine s_op (k_ld (h := by exact a_loadf (v := .int .u64 ((n : Nat) : Int)) rfl (by exact Nat.le_of_ble_eq_true rfl) (by kernel_rfl))) ?_
 refine s_op k_mv ?_
 refine s_op (k_call [] (con := hsb)) ?_
 refine o3 ?_
 refine o2 ?_
 refine qx hP hn ?_
 refine s_op k_fa ?_
 refine s_op (k_ld (h := by exact a_loadf_agg (sub := [.ints .u8 32 M, .ints .u8 16 C]) (r := [.ints .u8 32 M, .ints .u8 16 C, .one (.int .u32 ((l : Nat) : Int)), .one (.int .u64 ((n : Nat) : Int))]) rfl (by exact Nat.le_of_ble_eq_true rfl) (by kernel_rfl) (by kernel_rfl))) ?_
 refine s_op k_mv ?_
 refine s_op (k_tmpN 2 [IB OX.length OX] (h := k_call [] (con := hoa) (hargs := by exact .cons rfl cv (.cons rfl (conv_sl (kk := .u8) (n := D.length + 1) (l := D ++ [77]) (by rfl) rfl rfl (by omega) (by omega) (by simp) (by simp)) .nil)) (hH := by rfl))) ?_
 refine o4 ?_
 refine o3 ?_
 refine o2 ?_
 refine qx hP hn ?_
 refine s_op k_fa ?_
 refine s_op (k_ld (h := by exact a_loadf_agg (sub := [.ints .u8 32 M, .ints .u8 16 C]) (r := [.ints .u8 32 M, .ints .u8 16 C, .one (.int .u32 ((l : Nat) : Int)), .one (.int .u64 ((n : Nat) : Int))]) rfl (by exact Nat.le_of_ble_eq_true rfl) (by kernel_rfl) (by kernel_rfl))) ?_
 refine s_op k_mv ?_
 refine s_op (k_call [] (con := hob)) ?_
 refine o4 ?_
 refine o3 ?_
 refine o2 ?_
 refine qx hP hn ?_
 refine s_op k_mv ?_
 refine s_op (k_tmp 2 (h := k_call [] (con := hla) (hargs := by exact .cons rfl (conv_sl (kk := .u8) (n := D.length + 1) (l := D ++ [77]) (by rfl) rfl rfl (by omega) (by omega) (by simp) (by simp)) .nil))) ?_
 refine o3 ?_
 refine o2 ?_
 refine qx hP hn ?_
 refine s_op k_mv ?_
 refine s_op (k_call [] (con := hlb)) ?_
 refine o3 ?_
 refine o2 ?_
 refine s_nil trivial (n_wp (w_seq (qz hP hn ?_)))
 refine o2 ?_
 refine s_op (l_bin rfl rfl (b_neq (r := false) (decide_eq_false (fun h => h rfl)))) ?_
 refine s_op k_mv ?_
 refine s_on rfl rfl rfl k_mv ?_
 refine s_on rfl rfl rfl k_mv ?_
 refine s_on rfl rfl rfl (l_bin rfl rfl (b_neq (r := false) (decide_eq_false (fun h => h rfl)))) ?_
 refine o2 ?_
 refine s_on rfl rfl rfl k_mv ?_
 refine s_on rfl rfl rfl k_mv ?_
 refine s_on rfl rfl rfl (l_bin rfl rfl (b_neq (r := false) (decide_eq_false (fun h => h rfl)))) ?_
 refine o2 ?_
 refine s_on rfl rfl rfl k_mv ?_
 refine s_on rfl rfl rfl k_mv ?_
 refine s_on rfl rfl rfl (l_bin rfl rfl (b_neq (r := false) (decide_eq_false (fun h => h rfl)))) ?_
 refine o2 ?_
 refine s_on rfl rfl rfl k_mv ?_
 refine s_on rfl rfl rfl k_mv ?_
 refine s_on rfl rfl rfl (l_bin rfl rfl (b_neq (r := false) (decide_eq_false (fun h => h rfl)))) ?_
 refine o2 ?_
 refine s_on rfl rfl rfl k_mv ?_
 refine s_on rfl rfl rfl k_mv ?_
 refine s_on rfl rfl rfl (l_bin rfl rfl (b_neq (r := false) (decide_eq_false (fun h => h rfl)))) ?_
 refine o2 ?_
 refine s_on rfl rfl rfl k_mv ?_
 refine s_on rfl rfl rfl k_mv ?_
 refine s_on rfl rfl rfl (k_call [] (con := same_n [] (Nat.zero_le _))) ?_
 refine s_on rfl rfl rfl k_not ?_
 refine o2 ?_
 refine s_on rfl rfl rfl k_mv ?_
 refine s_on rfl rfl rfl k_mv ?_
 refine s_on rfl rfl rfl (k_tmp 3 (h := k_call [] (con := same_n OX (by omega)) (hargs := by exact .cons rfl (conv_sl (kk := .u8) (n := OX.length) (l := OX) (by rfl) rfl rfl (by omega) (by omega) rfl (by rw [List.drop_zero]; exact List.take_length)) (.cons rfl cv .nil)))) ?_
 refine s_on rfl rfl rfl k_not ?_
 refine o2 ?_
 refine s_on rfl rfl rfl k_mv ?_
 refine s_on rfl rfl rfl k_mv ?_
 refine s_on rfl rfl rfl (k_call [1] (con := left_n B (by omega)) (H' := [none, IB (B.length + 1) (B ++ [77]), IB (D.length + 1) (D ++ [77]), IB OX.length OX]) (hH := by kernel_rfl)) ?_
 refine s_on rfl rfl rfl k_not ?_
 refine o2 ?_
 refine s_on rfl rfl rfl k_mv ?_
 refine s_on rfl rfl rfl k_mv ?_
 refine s_on rfl rfl rfl (k_call [2] (con := left_n D (by omega)) (H' := [none, IB (B.length + 1) (B ++ [77]), IB (D.length + 1) (D ++ [77]), IB OX.length OX]) (hH := by kernel_rfl)) ?_
 refine s_on rfl rfl rfl k_not ?_
 refine s_op k_pk ?_
 refine s_nil trivial (n_wp ?_)
 refine w_F rfl ?_ 
 refine w_skip (n_wp (qz hP hn ?_))
 refine s_op k_al ?_
 refine qx hP hn ?_
 refine s_op k_mv ?_
 refine s_op (k_call [4, 1] (con := bytes_A B) (H' := [none, IB (B.length + 1) (B ++ [77]), IB (D.length + 1) (D ++ [77]), IB OX.length OX, BKb 1 (.gro 5 3 1), RB (R3 (.slice 1 0 0 B.length (B.length + 1)) .nils 1 [])]) (hH := by kernel_rfl)) ?_
 refine qx hP hn ?_
 refine s_op k_mv ?_
 refine s_op (k_call [4, 1, 2, 5] (con := bytes_AA B D) (H' := [none, IB (B.length + 1) (B ++ [77]), IB (D.length + 1) (D ++ [77]), IB OX.length OX, BKb 2 (.gro 6 3 2), none, RB (R3 (.slice 1 0 0 B.length (B.length + 1)) .nils 1 (R3 (.slice 2 0 0 D.length (D.length + 1)) .nils 2 []))]) (hH := by kernel_rfl)) ?_
 refine qx hP hn ?_
 refine s_op k_mv ?_
 refine s_op (k_call [4, 1, 2, 6] (con := bytes_AAC B D) (H' := [none, IB (B.length + 1) (B ++ [77]), IB (D.length + 1) (D ++ [77]), IB OX.length OX, BKb 3 (.gro 7 3 3), none, none, RB (R3 (.slice 1 0 0 B.length (B.length + 1)) .nils 1 (R3 (.slice 2 0 0 D.length (D.length + 1)) .nils 2 (R3 .nils .nils 3 [])))]) (hH := by kernel_rfl)) ?_
 refine qx hP hn ?_
 refine s_op k_mv ?_
 refine s_op (k_call [4, 1, 2, 3, 7] (con := bytes_AACB B D OX) (H' := [none, IB (B.length + 1) (B ++ [77]), IB (D.length + 1) (D ++ [77]), IB OX.length OX, BKb 4 (.gro 8 3 4), none, none, none, RB (R3 (.slice 1 0 0 B.length (B.length + 1)) .nils 1 (R3 (.slice 2 0 0 D.length (D.length + 1)) .nils 2 (R3 .nils .nils 3 (R3 (.slice 3 0 0 OX.length OX.length) .nils 4 []))))]) (hH := by kernel_rfl)) ?_
 refine qx hP hn ?_
 refine s_op (k_call [4, 1, 2, 3, 8] (con := apart_AACB B (by omega) D (by omega) OX (by omega))) ?_
 refine s_op k_as ?_
 refine s_nil trivial (n_wp (w_ret ?_))
 exact d_ret hP hn hE [] (by first | exact r_tmp Tryz.results5 | exact r_tmpa Tryz.results5)

end Go.Proofs.X
end

section
set_option maxRecDepth 100000
set_option maxHeartbeats 4000000
open Go Go.Bx Go.Proofs
namespace Go.Proofs.X
set_option maxRecDepth 100000
set_option maxHeartbeats 4000000
theorem apart_AACC (X0 : List Int) (hX0 : X0.length ≤ 100000) (X1 : List Int) (hX1 : X1.length ≤ 100000) : Con Tryz.prog 14 [.s (.ptr 0 0 0)] [BKb 4 (.gro 3 3 4), IB (X0.length + 1) (X0 ++ [77]), IB (X1.length + 1) (X1 ++ [77]), RB (R3 (.slice 1 0 0 X0.length (X0.length + 1)) .nils 1 (R3 (.slice 2 0 0 X1.length (X1.length + 1)) .nils 2 (R3 .nils .nils 3 (R3 .nils .nils 4 []))))] (.s (.bool true)) [BKb 4 (.gro 3 3 4), IB (X0.length + 1) (List.replicate (X0.length + 1) 1), IB (X1.length + 1) (List.replicate (X1.length + 1) 2), RB (R3 (.slice 1 0 0 X0.length (X0.length + 1)) (.gro 4 1 (X0.length + 40)) 1 (R3 (.slice 2 0 0 X1.length (X1.length + 1)) (.gro 5 1 (X1.length + 40)) 2 (R3 .nils (.gro 6 1 (0 + 40)) 3 (R3 .nils (.gro 7 1 (0 + 40)) 4 [])))), IB (X0.length + 40) (List.replicate (X0.length + 40) 1), IB (X1.length + 40) (List.replicate (X1.length + 40) 2), IB (0 + 40) (List.replicate (0 + 40) 3), IB (0 + 40) (List.replicate (0 + 40) 4)] := by
 refine con_in 121 Tryz.func14 rfl rfl (m := 4) rfl ?_
 intro E hP hn hE
 refine qz hP hn ?_
 refine s_op k_as ?_
 refine qx hP hn ?_
 refine s_op k_mv ?_
 refine s_op (k_call [0, 1, 2, 3] (con := fill_AACC X0 hX0 X1 hX1) (H' := [BKb 4 (.gro 3 3 4), IB (X0.length + 1) (List.replicate X0.length 1 ++ [77]), IB (X1.length + 1) (List.replicate X1.length 2 ++ [77]), RB (R3 (.slice 1 0 0 X0.length (X0.length + 1)) .nils 1 (R3 (.slice 2 0 0 X1.length (X1.length + 1)) .nils 2 (R3 .nils .nils 3 (R3 .nils .nils 4 []))))]) (hH := by kernel_rfl)) ?_
 refine qx hP hn ?_
 refine s_op k_mv ?_
 refine s_op (k_tmp 0 (h := k_call [] (con := fillInt_0) (hargs := by exact .cons rfl (conv_ptrJ (by rfl) rfl rfl (bk_J 1 (by decide) (by decide))) .nil))) ?_
 refine qx hP hn ?_
 refine s_op k_mv ?_
 refine s_op (k_tmp 0 (h := k_call [] (con := fillText_0) (hargs := by exact .cons rfl (conv_ptrJ (by rfl) rfl rfl (bk_J 2 (by decide) (by decide))) .nil))) ?_
 refine qx hP hn ?_
 refine s_op k_mv ?_
 refine s_op (k_tmp 0 (h := k_call [] (con := fillNum_0) (hargs := by exact .cons rfl (conv_ptrJ (by rfl) rfl rfl (bk_J 3 (by decide) (by decide))) .nil))) ?_
 refine qx hP hn ?_
 refine s_op k_mv ?_
 refine s_op (k_tmp 0 (h := k_call [] (con := fillSum_0) (hargs := by exact .cons rfl (conv_ptrJ (by rfl) rfl rfl (bk_J 4 (by decide) (by decide))) .nil))) ?_
 refine s_nil trivial (n_wp (w_seq ?_))
 refine w_weak (weak_tm (T' := [(0, .s (.ptr 0 0 0))])) ?_
 refine g_reg hP hn ?_
 refine s_op k_mv ?_
 refine s_op (k_tmp 0 (h := k_call [] (con := fillTag_0) (hargs := by exact .cons rfl (conv_ptrJ (by rfl) rfl rfl (bk_J 5 (by decide) (by decide))) .nil))) ?_
 refine qx hP hn ?_
 refine s_op k_mv ?_
 refine s_op (k_tmp 0 (h := k_call [] (con := fillSpot_0) (hargs := by exact .cons rfl (conv_ptrJ (by rfl) rfl rfl (bk_J 6 (by decide) (by decide))) .nil))) ?_
 refine qx hP hn ?_
 refine s_op k_mv ?_
 refine s_op (k_tmp 0 (h := k_call [] (con := fillGen_0) (hargs := by exact .cons rfl (conv_ptrJ (by rfl) rfl rfl (bk_J 7 (by decide) (by decide))) .nil))) ?_
 refine qx hP hn ?_
 refine s_op k_mv ?_
 refine s_op (k_tmp 0 (h := k_call [] (con := fillLane_0) (hargs := by exact .cons rfl (conv_ptrJ (by rfl) rfl rfl (bk_J 8 (by decide) (by decide))) .nil))) ?_
 refine qx hP hn ?_
 refine s_op k_mv ?_
 refine s_op (k_tmp 0 (h := k_call [] (con := fillParam_0) (hargs := by exact .cons rfl (conv_ptrJ (by rfl) rfl rfl (bk_J 9 (by decide) (by decide))) .nil))) ?_
 refine s_nil trivial (n_wp (w_seq ?_))
 refine w_weak (weak_tm (T' := [(0, .s (.ptr 0 0 0))])) ?_
 refine g_reg hP hn ?_
 refine s_op k_mv ?_
 refine s_op (k_tmp 0 (h := k_call [] (con := fillPacket_0) (hargs := by exact .cons rfl (conv_ptrJ (by rfl) rfl rfl (bk_J 10 (by decide) (by decide))) .nil))) ?_
 refine qx hP hn ?_
 refine s_op k_mv ?_
 refine s_op (k_tmp 0 (h := k_call [] (con := fillFrame_0) (hargs := by exact .cons rfl (conv_ptrJ (by rfl) rfl rfl (bk_J 11 (by decide) (by decide))) .nil))) ?_
 refine qx hP hn ?_
 refine s_op k_mv ?_
 refine s_op (k_tmp 0 (h := k_call [] (con := fillMail_0) (hargs := by exact .cons rfl (conv_ptrJ (by rfl) rfl rfl (bk_J 12 (by decide) (by decide))) .nil))) ?_
 refine qx hP hn ?_
 refine s_op k_mv ?_
 refine s_op (k_tmp 0 (h := k_call [] (con := fillSession_0) (hargs := by exact .cons rfl (conv_ptrJ (by rfl) rfl rfl (bk_J 13 (by decide) (by decide))) .nil))) ?_
 refine qx hP hn ?_
 refine s_op k_mv ?_
 refine s_op (k_tmp 0 (h := k_call [] (con := fillRecord_0) (hargs := by exact .cons rfl (conv_ptrJ (by rfl) rfl rfl (bk_J 14 (by decide) (by decide))) .nil))) ?_
 refine s_nil trivial (n_wp (w_seq ?_))
 refine w_weak (weak_tm (T' := [(0, .s (.ptr 0 0 0))])) ?_
 refine g_reg hP hn ?_
 refine s_op k_mv ?_
 refine s_op (k_call [0, 1, 2, 3] (con := grow_AACC X0 hX0 X1 hX1) (H' := [BKb 4 (.gro 3 3 4), IB (X0.length + 1) (List.replicate (X0.length + 1) 1), IB (X1.length + 1) (List.replicate (X1.length + 1) 2), RB (R3 (.slice 1 0 0 X0.length (X0.length + 1)) (.gro 4 1 (X0.length + 40)) 1 (R3 (.slice 2 0 0 X1.length (X1.length + 1)) (.gro 5 1 (X1.length + 40)) 2 (R3 .nils (.gro 6 1 (0 + 40)) 3 (R3 .nils (.gro 7 1 (0 + 40)) 4 [])))), IB (X0.length + 40) (List.replicate (X0.length + 40) 1), IB (X1.length + 40) (List.replicate (X1.length + 40) 2), IB (0 + 40) (List.replicate (0 + 40) 3), IB (0 + 40) (List.replicate (0 + 40) 4)]) (hH := by kernel_rfl)) ?_
 refine qx hP hn ?_
 refine s_op k_mv ?_
 refine s_op (k_tmp 0 (h := k_call [] (con := growInt_0) (hargs := by exact .cons rfl (conv_ptrJ (by rfl) rfl rfl (bk_J 1 (by decide) (by decide))) .nil))) ?_
 refine qx hP hn ?_
 refine s_op k_mv ?_
 refine s_op (k_tmp 0 (h := k_call [] (con := growText_0) (hargs := by exact .cons rfl (conv_ptrJ (by rfl) rfl rfl (bk_J 2 (by decide) (by decide))) .nil))) ?_
 refine qx hP hn ?_
 refine s_op k_mv ?_
 refine s_op (k_tmp 0 (h := k_call [] (con := growNum_0) (hargs := by exact .cons rfl (conv_ptrJ (by rfl) rfl rfl (bk_J 3 (by decide) (by decide))) .nil))) ?_
 refine qx hP hn ?_
 refine s_op k_mv ?_
 refine s_op (k_tmp 0 (h := k_call [] (con := growSum_0) (hargs := by exact .cons rfl (conv_ptrJ (by rfl) rfl rfl (bk_J 4 (by decide) (by decide))) .nil))) ?_
 refine s_nil trivial (n_wp (w_seq ?_))
 refine w_weak (weak_tm (T' := [(0, .s (.ptr 0 0 0))])) ?_
 refine g_reg hP hn ?_
 refine s_op k_mv ?_
 refine s_op (k_tmp 0 (h := k_call [] (con := growTag_0) (hargs := by exact .cons rfl (conv_ptrJ (by rfl) rfl rfl (bk_J 5 (by decide) (by decide))) .nil))) ?_
 refine qx hP hn ?_
 refine s_op k_mv ?_
 refine s_op (k_tmp 0 (h := k_call [] (con := growSpot_0) (hargs := by exact .cons rfl (conv_ptrJ (by rfl) rfl rfl (bk_J 6 (by decide) (by decide))) .nil))) ?_
 refine qx hP hn ?_
 refine s_op k_mv ?_
 refine s_op (k_tmp 0 (h := k_call [] (con := growGen_0) (hargs := by exact .cons rfl (conv_ptrJ (by rfl) rfl rfl (bk_J 7 (by decide) (by decide))) .nil))) ?_
 refine qx hP hn ?_
 refine s_op k_mv ?_
 refine s_op (k_tmp 0 (h := k_call [] (con := growLane_0) (hargs := by exact .cons rfl (conv_ptrJ (by rfl) rfl rfl (bk_J 8 (by decide) (by decide))) .nil))) ?_
 refine qx hP hn ?_
 refine s_op k_mv ?_
 refine s_op (k_tmp 0 (h := k_call [] (con := growParam_0) (hargs := by exact .cons rfl (conv_ptrJ (by rfl) rfl rfl (bk_J 9 (by decide) (by decide))) .nil))) ?_
 refine s_nil trivial (n_wp (w_seq ?_))
 refine w_weak (weak_tm (T' := [(0, .s (.ptr 0 0 0))])) ?_
 refine g_reg hP hn ?_
 refine s_op k_mv ?_
 refine s_op (k_tmp 0 (h := k_call [] (con := growPacket_0) (hargs := by exact .cons rfl (conv_ptrJ (by rfl) rfl rfl (bk_J 10 (by decide) (by decide))) .nil))) ?_
 refine qx hP hn ?_
 refine s_op k_mv ?_
 refine s_op (k_tmp 0 (h := k_call [] (con := growFrame_0) (hargs := by exact .cons rfl (conv_ptrJ (by rfl) rfl rfl (bk_J 11 (by decide) (by decide))) .nil))) ?_
 refine qx hP hn ?_
 refine s_op k_mv ?_
 refine s_op (k_tmp 0 (h := k_call [] (con := growMail_0) (hargs := by exact .cons rfl (conv_ptrJ (by rfl) rfl rfl (bk_J 12 (by decide) (by decide))) .nil))) ?_
 refine qx hP hn ?_
 refine s_op k_mv ?_
 refine s_op (k_tmp 0 (h := k_call [] (con := growSession_0) (hargs := by exact .cons rfl (conv_ptrJ (by rfl) rfl rfl (bk_J 13 (by decide) (by decide))) .nil))) ?_
 refine qx hP hn ?_
 refine s_op k_mv ?_
 refine s_op (k_tmp 0 (h := k_call [] (con := growRecord_0) (hargs := by exact .cons rfl (conv_ptrJ (by rfl) rfl rfl (bk_J 14 (by decide) (by decide))) .nil))) ?_
 refine s_nil trivial (n_wp (w_seq ?_))
 refine w_weak (weak_tm (T' := [(0, .s (.ptr 0 0 0))])) ?_
 refine g_reg hP hn ?_
 refine s_op k_mv ?_
 refine s_op (k_call [0, 1, 2, 3, 4, 5, 6, 7] (con := look_AACC X0 hX0 X1 hX1)) ?_
 refine s_op k_mv ?_
 refine s_on rfl rfl rfl k_mv ?_
 refine s_on rfl rfl rfl (k_tmp 0 (h := k_call [] (con := lookInt_0) (hargs := by exact .cons rfl (conv_ptrJ (by rfl) rfl rfl (bk_J 1 (by decide) (by decide))) .nil))) ?_
 refine o2 ?_
 refine s_on rfl rfl rfl k_mv ?_
 refine s_on rfl rfl rfl (k_tmp 0 (h := k_call [] (con := lookText_0) (hargs := by exact .cons rfl (conv_ptrJ (by rfl) rfl rfl (bk_J 2 (by decide) (by decide))) .nil))) ?_
 refine o2 ?_
 refine s_on rfl rfl rfl k_mv ?_
 refine s_on rfl rfl rfl (k_tmp 0 (h := k_call [] (con := lookNum_0) (hargs := by exact .cons rfl (conv_ptrJ (by rfl) rfl rfl (bk_J 3 (by decide) (by decide))) .nil))) ?_
 refine o2 ?_
 refine s_on rfl rfl rfl k_mv ?_
 refine s_on rfl rfl rfl (k_tmp 0 (h := k_call [] (con := lookSum_0) (hargs := by exact .cons rfl (conv_ptrJ (by rfl) rfl rfl (bk_J 4 (by decide) (by decide))) .nil))) ?_
 refine o2 ?_
 refine s_on rfl rfl rfl k_mv ?_
 refine s_on rfl rfl rfl (k_tmp 0 (h := k_call [] (con := lookTag_0) (hargs := by exact .cons rfl (conv_ptrJ (by rfl) rfl rfl (bk_J 5 (by decide) (by decide))) .nil))) ?_
 refine o2 ?_
 refine s_on rfl rfl rfl k_mv ?_
 refine s_on rfl rfl rfl (k_tmp 0 (h := k_call [] (con := lookSpot_0) (hargs := by exact .cons rfl (conv_ptrJ (by rfl) rfl rfl (bk_J 6 (by decide) (by decide))) .nil))) ?_
 refine o2 ?_
 refine s_on rfl rfl rfl k_mv ?_
 refine s_on rfl rfl rfl (k_tmp 0 (h := k_call [] (con := lookGen_0) (hargs := by exact .cons rfl (conv_ptrJ (by rfl) rfl rfl (bk_J 7 (by decide) (by decide))) .nil))) ?_
 refine o2 ?_
 refine s_on rfl rfl rfl k_mv ?_
 refine s_on rfl rfl rfl (k_tmp 0 (h := k_call [] (con := lookLane_0) (hargs := by exact .cons rfl (conv_ptrJ (by rfl) rfl rfl (bk_J 8 (by decide) (by decide))) .nil))) ?_
 refine o2 ?_
 refine s_on rfl rfl rfl k_mv ?_
 refine s_on rfl rfl rfl (k_tmp 0 (h := k_call [] (con := lookParam_0) (hargs := by exact .cons rfl (conv_ptrJ (by rfl) rfl rfl (bk_J 9 (by decide) (by decide))) .nil))) ?_
 refine o2 ?_
 refine s_on rfl rfl rfl k_mv ?_
 refine s_on rfl rfl rfl (k_tmp 0 (h := k_call [] (con := lookPacket_0) (hargs := by exact .cons rfl (conv_ptrJ (by rfl) rfl rfl (bk_J 10 (by decide) (by decide))) .nil))) ?_
 refine o2 ?_
 refine s_on rfl rfl rfl k_mv ?_
 refine s_on rfl rfl rfl (k_tmp 0 (h := k_call [] (con := lookFrame_0) (hargs := by exact .cons rfl (conv_ptrJ (by rfl) rfl rfl (bk_J 11 (by decide) (by decide))) .nil))) ?_
 refine o2 ?_
 refine s_on rfl rfl rfl k_mv ?_
 refine s_on rfl rfl rfl (k_tmp 0 (h := k_call [] (con := lookMail_0) (hargs := by exact .cons rfl (conv_ptrJ (by rfl) rfl rfl (bk_J 12 (by decide) (by decide))) .nil))) ?_
 refine o2 ?_
 refine s_on rfl rfl rfl k_mv ?_
 refine s_on rfl rfl rfl (k_tmp 0 (h := k_call [] (con := lookSession_0) (hargs := by exact .cons rfl (conv_ptrJ (by rfl) rfl rfl (bk_J 13 (by decide) (by decide))) .nil))) ?_
 refine o2 ?_
 refine s_on rfl rfl rfl k_mv ?_
 refine s_on rfl rfl rfl (k_tmp 0 (h := k_call [] (con := lookRecord_0) (hargs := by exact .cons rfl (conv_ptrJ (by rfl) rfl rfl (bk_J 14 (by decide) (by decide))) .nil))) ?_
 refine o2 ?_
 refine s_nil trivial (n_wp (w_ret ?_))
 exact d_ret hP hn hE [0, 1, 2, 3, 4, 5, 6, 7] (by first | exact r_tmp Tryz.results14 | exact r_tmpa Tryz.results14)

end Go.Proofs.X
end

section
set_option maxRecDepth 100000
set_option maxHeartbeats 4000000
open Go Go.Bx Go.Proofs
namespace Go.Proofs.X
set_option maxRecDepth 100000
set_option maxHeartbeats 4000000
attribute [local irreducible] hmB streamI seal1 sealB ahB be fiB hmO tk rmac rsumL SB BK ks
theorem law19_AACCn (M C B D : List Int) (l n : Nat) (h1 : ¬ 5000 < B.length) (h2 : ¬ 5000 < D.length) (ea : Int) (hsa : Con Tryz.prog 20 [.agg [.ints .u8 32 M, .ints .u8 16 C], .s (.int .u32 ((l : Nat) : Int)), .s (.int .u64 ((n : Nat) : Int)), .s (.fzi .u8 B)] [] (.tup [.s .nils, .s (.int .i64 ea)]) []) (hsb : Con Tryz.prog 21 [.agg [.ints .u8 32 M, .ints .u8 16 C], .s (.int .u32 ((l : Nat) : Int)), .s (.int .u64 ((n : Nat) : Int)), .s (.fzi .u8 B)] [] (.tup [.s .nils, .s (.int .i64 ea)]) []) (lo no eo : Int) (hoa : Con Tryz.prog 22 [.agg [.ints .u8 32 M, .ints .u8 16 C], .s (.fzi .u8 D)] [] (.tup [.s (.int .u32 lo), .s (.int .u64 no), .s .nils, .s (.int .i64 eo)]) []) (hob : Con Tryz.prog 23 [.agg [.ints .u8 32 M, .ints .u8 16 C], .s (.fzi .u8 D)] [] (.tup [.s (.int .u32 lo), .s (.int .u64 no), .s .nils, .s (.int .i64 eo)]) []) (ll el : Int) (hla : Con Tryz.prog 24 [.s (.fzi .u8 D)] [] (.tup [.s (.int .u32 ll), .s (.int .i64 el)]) []) (hlb : Con Tryz.prog 25 [.s (.fzi .u8 D)] [] (.tup [.s (.int .u32 ll), .s (.int .i64 el)]) []) : Con Tryz.prog 5 [.agg [.ints .u8 32 M, .ints .u8 16 C, .one (.int .u32 ((l : Nat) : Int)), .one (.int .u64 ((n : Nat) : Int))], .s (.fzi .u8 B), .s (.fzi .u8 D)] [] (.s (.bool true)) [] := by
 refine con_in 149 Tryz.func5 rfl rfl (m := 0) rfl ?_
 intro E hP hn hE
 refine qz hP hn ?_
 refine s_op k_bxf ?_
 refine s_op k_as ?_
 refine s_nil trivial (n_wp (w_seq (qz hP hn ?_)))
 refine o2 ?_
 refine s_op (l_bin rfl rfl (b_gtr (r := false) (decide_eq_false (by omega)))) ?_
 refine s_op k_mv ?_
 refine s_on rfl rfl rfl k_mv ?_
 refine s_on rfl rfl rfl k_len ?_
 refine s_on rfl rfl rfl (l_bin rfl rfl (b_gtr (r := false) (decide_eq_false (by omega)))) ?_
 refine s_op k_pk ?_
 refine s_nil trivial (n_wp ?_)
 refine w_F rfl ?_ 
 refine w_skip (n_wp (qz hP hn ?_))
 refine s_op k_mv ?_
 refine s_op (k_call [] (con := twin_c B (by omega)) (H' := [none, IB (B.length + 1) (B ++ [77])]) (hH := by kernel_rfl)) ?_
 refine s_op k_as ?_
 refine qx hP hn ?_
 refine s_op k_mv ?_
 refine s_op (k_call [] (con := twin_c D (by omega)) (H' := [none, IB (B.length + 1) (B ++ [77]), IB (D.length + 1) (D ++ [77])]) (hH := by kernel_rfl)) ?_
 refine s_op k_as ?_
 refine qx hP hn ?_
 refine s_op k_fa ?_
 refine s_op (k_ld (h := by exact a_loadf_agg (sub := [.ints .u8 32 M, .ints .u8 16 C]) (r := [.ints .u8 32 M, .ints .u8 16 C, .one (.int .u32 ((l : Nat) : Int)), .one (.int .u64 ((n : Nat) : Int))]) rfl (by exact Nat.le_of_ble_eq_true rfl) (by kernel_rfl) (by kernel_rfl))) ?_
 refine s_op k_fa ?_
 refine s_op (k_ld (h := by exact a_loadf (v := .int .u32 ((l : Nat) : Int)) rfl (by exact Nat.le_of_ble_eq_true rfl) (by kernel_rfl))) ?_
 refine s_op k_fa ?_
 refine s_op (k_ld (h := by exact a_loadf (v := .int .u64 ((n : Nat) : Int)) rfl (by exact Nat.le_of_ble_eq_true rfl) (by kernel_rfl))) ?_
 refine s_op k_mv ?_
 refine s_op (k_tmp 1 (h := k_call [] (con := hsa) (hargs := by exact .cons rfl cv (.cons rfl cv (.cons rfl cv (.cons rfl (conv_sl (kk := .u8) (n := B.length + 1) (l := B ++ [77]) (by rfl) rfl rfl (by omega) (by omega) (by simp) (by simp)) .nil)))))) ?_
 refine o3 ?_
 refine o2 ?_
 refine qx hP hn ?_
 refine s_op k_fa ?_
 refine s_op (k_ld (h := by exact a_loadf_agg (sub := [.ints .u8 32 M, .ints .u8 16 C]) (r := [.ints .u8 32 M, .ints .u8 16 C, .one (.int .u32 ((l : Nat) : Int)), .one (.int .u64 ((n : Nat) : Int))]) rfl (by exact Nat.le_of_ble_eq_true rfl) (by kernel_rfl) (by kernel_rfl))) ?_
 refine s_op k_fa ?_
 refine s_op (k_ld (h := by exact a_loadf (v := .int .u32 ((l : Nat) : Int)) rfl (by exact Nat.le_of_ble_eq_true rfl) (by kernel_rfl))) ?_
 refine s_op k_fa ?_
 refine s_op (k_ld (h := by exact a_loadf (v := .int .u64 ((n : Nat) : Int)) rfl (by exact Nat.le_of_ble_eq_true rfl) (by kernel_rfl))) ?_
 refine s_op k_mv ?_
 refine s_op (k_call [] (con := hsb)) ?_
 refine o3 ?_
 refine o2 ?_
 refine qx hP hn ?_
 refine s_op k_fa ?_
 refine s_op (k_ld (h := by exact a_loadf_agg (sub := [.ints .u8 32 M, .ints .u8 16 C]) (r := [.ints .u8 32 M, .ints .u8 16 C, .one (.int .u32 ((l : Nat) : Int)), .one (.int .u64 ((n : Nat) : Int))]) rfl (by exact Nat.le_of_ble_eq_true rfl) (by kernel_rfl) (by kernel_rfl))) ?_
 refine s_op k_mv ?_
 refine s_op (k_tmp 2 (h := k_call [] (con := hoa) (hargs := by exact .cons rfl cv (.cons rfl (conv_sl (kk := .u8) (n := D.length + 1) (l := D ++ [77]) (by rfl) rfl rfl (by omega) (by omega) (by simp) (by simp)) .nil)))) ?_
 refine o4 ?_
 refine o3 ?_
 refine o2 ?_
 refine qx hP hn ?_
 refine s_op k_fa ?_
 refine s_op (k_ld (h := by exact a_loadf_agg (sub := [.ints .u8 32 M, .ints .u8 16 C]) (r := [.ints .u8 32 M, .ints .u8 16 C, .one (.int .u32 ((l : Nat) : Int)), .one (.int .u64 ((n : Nat) : Int))]) rfl (by exact Nat.le_of_ble_eq_true rfl) (by kernel_rfl) (by kernel_rfl))) ?_
 refine s_op k_mv ?_
 refine s_op (k_call [] (con := hob)) ?_
 refine o4 ?_
 refine o3 ?_
 refine o2 ?_
 refine qx hP hn ?_
 refine s_op k_mv ?_
 refine s_op (k_tmp 2 (h := k_call [] (con := hla) (hargs := by exact .cons rfl (conv_sl (kk := .u8) (n := D.length + 1) (l := D ++ [77]) (by rfl) rfl rfl (by omega) (by omega) (by simp) (by simp)) .nil))) ?_
 refine o3 ?_
 refine o2 ?_
 refine qx hP hn ?_
 refine s_op k_mv ?_
 refine s_op (k_call [] (con := hlb)) ?_
 refine o3 ?_
 refine o2 ?_
 refine s_nil trivial (n_wp (w_seq (qz hP hn ?_)))
 refine o2 ?_
 refine s_op (l_bin rfl rfl (b_neq (r := false) (decide_eq_false (fun h => h rfl)))) ?_
 refine s_op k_mv ?_
 refine s_on rfl rfl rfl k_mv ?_
 refine s_on rfl rfl rfl k_mv ?_
 refine s_on rfl rfl rfl (l_bin rfl rfl (b_neq (r := false) (decide_eq_false (fun h => h rfl)))) ?_
 refine o2 ?_
 refine s_on rfl rfl rfl k_mv ?_
 refine s_on rfl rfl rfl k_mv ?_
 refine s_on rfl rfl rfl (l_bin rfl rfl (b_neq (r := false) (decide_eq_false (fun h => h rfl)))) ?_
 refine o2 ?_
 refine s_on rfl rfl rfl k_mv ?_
 refine s_on rfl rfl rfl k_mv ?_
 refine s_on rfl rfl rfl (l_bin rfl rfl (b_neq (r := false) (decide_eq_false (fun h => h rfl)))) ?_
 refine o2 ?_
 refine s_on rfl rfl rfl k_mv ?_
 refine s_on rfl rfl rfl k_mv ?_
 refine s_on rfl rfl rfl (l_bin rfl rfl (b_neq (r := false) (decide_eq_false (fun h => h rfl)))) ?_
 refine o2 ?_
 refine s_on rfl rfl rfl k_mv ?_
 refine s_on rfl rfl rfl k_mv ?_
 refine s_on rfl rfl rfl (l_bin rfl rfl (b_neq (r := false) (decide_eq_false (fun h => h rfl)))) ?_
 refine o2 ?_
 refine s_on rfl rfl rfl k_mv ?_
 refine s_on rfl rfl rfl k_mv ?_
 refine s_on rfl rfl rfl (k_call [] (con := same_n [] (Nat.zero_le _))) ?_
 refine s_on rfl rfl rfl k_not ?_
 refine o2 ?_
 refine s_on rfl rfl rfl k_mv ?_
 refine s_on rfl rfl rfl k_mv ?_
 refine s_on rfl rfl rfl (k_call [] (con := same_n [] (Nat.zero_le _))) ?_
 refine s_on rfl rfl rfl k_not ?_
 refine o2 ?_
 refine s_on rfl rfl rfl k_mv ?_
 refine s_on rfl rfl rfl k_mv ?_
 refine s_on rfl rfl rfl (k_call [1] (con := left_n B (by omega)) (H' := [none, IB (B.length + 1) (B ++ [77]), IB (D.length + 1) (D ++ [77])]) (hH := by kernel_rfl)) ?_
 refine s_on rfl rfl rfl k_not ?_
 refine o2 ?_
 refine s_on rfl rfl rfl k_mv ?_
 refine s_on rfl rfl rfl k_mv ?_
 refine s_on rfl rfl rfl (k_call [2] (con := left_n D (by omega)) (H' := [none, IB (B.length + 1) (B ++ [77]), IB (D.length + 1) (D ++ [77])]) (hH := by kernel_rfl)) ?_
 refine s_on rfl rfl rfl k_not ?_
 refine s_op k_pk ?_
 refine s_nil trivial (n_wp ?_)
 refine w_F rfl ?_ 
 refine w_skip (n_wp (qz hP hn ?_))
 refine s_op k_al ?_
 refine qx hP hn ?_
 refine s_op k_mv ?_
 refine s_op (k_call [3, 1] (con := bytes_A B) (H' := [none, IB (B.length + 1) (B ++ [77]), IB (D.length + 1) (D ++ [77]), BKb 1 (.gro 4 3 1), RB (R3 (.slice 1 0 0 B.length (B.length + 1)) .nils 1 [])]) (hH := by kernel_rfl)) ?_
 refine qx hP hn ?_
 refine s_op k_mv ?_
 refine s_op (k_call [3, 1, 2, 4] (con := bytes_AA B D) (H' := [none, IB (B.length + 1) (B ++ [77]), IB (D.length + 1) (D ++ [77]), BKb 2 (.gro 5 3 2), none, RB (R3 (.slice 1 0 0 B.length (B.length + 1)) .nils 1 (R3 (.slice 2 0 0 D.length (D.length + 1)) .nils 2 []))]) (hH := by kernel_rfl)) ?_
 refine qx hP hn ?_
 refine s_op k_mv ?_
 refine s_op (k_call [3, 1, 2, 5] (con := bytes_AAC B D) (H' := [none, IB (B.length + 1) (B ++ [77]), IB (D.length + 1) (D ++ [77]), BKb 3 (.gro 6 3 3), none, none, RB (R3 (.slice 1 0 0 B.length (B.length + 1)) .nils 1 (R3 (.slice 2 0 0 D.length (D.length + 1)) .nils 2 (R3 .nils .nils 3 [])))]) (hH := by kernel_rfl)) ?_
 refine qx hP hn ?_
 refine s_op k_mv ?_
 refine s_op (k_call [3, 1, 2, 6] (con := bytes_AACC B D) (H' := [none, IB (B.length + 1) (B ++ [77]), IB (D.length + 1) (D ++ [77]), BKb 4 (.gro 7 3 4), none, none, none, RB (R3 (.slice 1 0 0 B.length (B.length + 1)) .nils 1 (R3 (.slice 2 0 0 D.length (D.length + 1)) .nils 2 (R3 .nils .nils 3 (R3 .nils .nils 4 []))))]) (hH := by kernel_rfl)) ?_
 refine qx hP hn ?_
 refine s_op (k_call [3, 1, 2, 7] (con := apart_AACC B (by omega) D (by omega))) ?_
 refine s_op k_as ?_
 refine s_nil trivial (n_wp (w_ret ?_))
 exact d_ret hP hn hE [] (by first | exact r_tmp Tryz.results5 | exact r_tmpa Tryz.results5)
theorem law19_AACCe (M C B D : List Int) (l n : Nat) (h1 : ¬ 5000 < B.length) (h2 : ¬ 5000 < D.length) (ea : Int) (hsa : Con Tryz.prog 20 [.agg [.ints .u8 32 M, .ints .u8 16 C], .s (.int .u32 ((l : Nat) : Int)), .s (.int .u64 ((n : Nat) : Int)), .s (.fzi .u8 B)] [] (.tup [.s .nils, .s (.int .i64 ea)]) []) (hsb : Con Tryz.prog 21 [.agg [.ints .u8 32 M, .ints .u8 16 C], .s (.int .u32 ((l : Nat) : Int)), .s (.int .u64 ((n : Nat) : Int)), .s (.fzi .u8 B)] [] (.tup [.s .nils, .s (.int .i64 ea)]) []) (lo no eo : Int) (hoa : Con Tryz.prog 22 [.agg [.ints .u8 32 M, .ints .u8 16 C], .s (.fzi .u8 D)] [] (.tup [.s (.int .u32 lo), .s (.int .u64 no), .s .nils, .s (.int .i64 eo)]) []) (hob : Con Tryz.prog 23 [.agg [.ints .u8 32 M, .ints .u8 16 C], .s (.fzi .u8 D)] [] (.tup [.s (.int .u32 lo), .s (.int .u64 no), .s (.fzi .u8 []), .s (.int .i64 eo)]) []) (ll el : Int) (hla : Con Tryz.prog 24 [.s (.fzi .u8 D)] [] (.tup [.s (.int .u32 ll), .s (.int .i64 el)]) []) (hlb : Con Tryz.prog 25 [.s (.fzi .u8 D)] [] (.tup [.s (.int .u32 ll), .s (.int .i64 el)]) []) : Con Tryz.prog 5 [.agg [.ints .u8 32 M, .ints .u8 16 C, .one (.int .u32 ((l : Nat) : Int)), .one (.int .u64 ((n : Nat) : Int))], .s (.fzi .u8 B), .s (.fzi .u8 D)] [] (.s (.bool true)) [] := by
 refine con_in 149 Tryz.func5 rfl rfl (m := 0) rfl ?_
 intro E hP hn hE
 refine qz hP hn ?_
 refine s_op k_bxf ?_
 refine s_op k_as ?_
 refine s_nil trivial (n_wp (w_seq (qz hP hn ?_)))
 refine o2 ?_
 refine s_op (l_bin rfl rfl (b_gtr (r := false) (decide_eq_false (by omega)))) ?_
 refine s_op k_mv ?_
 refine s_on rfl rfl rfl k_mv ?_
 refine s_on rfl rfl rfl k_len ?_
 refine s_on rfl rfl rfl (l_bin rfl rfl (b_gtr (r := false) (decide_eq_false (by omega)))) ?_
 refine s_op k_pk ?_
 refine s_nil trivial (n_wp ?_)
 refine w_F rfl ?_ 
 refine w_skip (n_wp (qz hP hn ?_))
 refine s_op k_mv ?_
 refine s_op (k_call [] (con := twin_c B (by omega)) (H' := [none, IB (B.length + 1) (B ++ [77])]) (hH := by kernel_rfl)) ?_
 refine s_op k_as ?_
 refine qx hP hn ?_
 refine s_op k_mv ?_
 refine s_op (k_call [] (con := twin_c D (by omega)) (H' := [none, IB (B.length + 1) (B ++ [77]), IB (D.length + 1) (D ++ [77])]) (hH := by kernel_rfl)) ?_
 refine s_op k_as ?_
 refine qx hP hn ?_
 refine s_op k_fa ?_
 refine s_op (k_ld (h := by exact a_loadf_agg (sub := [.ints .u8 32 M, .ints .u8 16 C]) (r := [.ints .u8 32 M, .ints .u8 16 C, .one (.int .u32 ((l : Nat) : Int)), .one (.int .u64 ((n : Nat) : Int))]) rfl (by exact Nat.le_of_ble_eq_true rfl) (by kernel_rfl) (by kernel_rfl))) ?_
 refine s_op k_fa ?_
 refine s_op (k_ld (h := by exact a_loadf (v := .int .u32 ((l : Nat) : Int)) rfl (by exact Nat.le_of_ble_eq_true rfl) (by kernel_rfl))) ?_
 refine s_op k_fa ?_
 refine s_op (k_ld (h := by exact a_loadf (v := .int .u64 ((n : Nat) : Int)) rfl (by exact Nat.le_of_ble_eq_true rfl) (by kernel_rfl))) ?_
 refine s_op k_mv ?_
 refine s_op (k_tmp 1 (h := k_call [] (con := hsa) (hargs := by exact .cons rfl cv (.cons rfl cv (.cons rfl cv (.cons rfl (conv_sl (kk := .u8) (n := B.length + 1) (l := B ++ [77]) (by rfl) rfl rfl (by omega) (by omega) (by simp) (by simp)) .nil)))))) ?_
 refine o3 ?_
 refine o2 ?_
 refine qx hP hn ?_
 refine s_op k_fa ?_
 refine s_op (k_ld (h := by exact a_loadf_agg (sub := [.ints .u8 32 M, .ints .u8 16 C]) (r := [.ints .u8 32 M, .ints .u8 16 C, .one (.int .u32 ((l : Nat) : Int)), .one (.int .u64 ((n : Nat) : Int))]) rfl (by exact Nat.le_of_ble_eq_true rfl) (by kernel_rfl) (by kernel_rfl))) ?_
 refine s_op k_fa ?_
 refine s_op (k_ld (h := by exact a_loadf (v := .int .u32 ((l : Nat) : Int)) rfl (by exact Nat.le_of_ble_eq_true rfl) (by kernel_rfl))) ?_
 refine s_op k_fa ?_
 refine s_op (k_ld (h := by exact a_loadf (v := .int .u64 ((n : Nat) : Int)) rfl (by exact Nat.le_of_ble_eq_true rfl) (by kernel_rfl))) ?_
 refine s_op k_mv ?_
 refine s_op (k_call [] (con := hsb)) ?_
 refine o3 ?_
 refine o2 ?_
 refine qx hP hn ?_
 refine s_op k_fa ?_
 refine s_op (k_ld (h := by exact a_loadf_agg (sub := [.ints .u8 32 M, .ints .u8 16 C]) (r := [.ints .u8 32 M, .ints .u8 16 C, .one (.int .u32 ((l : Nat) : Int)), .one (.int .u64 ((n : Nat) : Int))]) rfl (by exact Nat.le_of_ble_eq_true rfl) (by kernel_rfl) (by kernel_rfl))) ?_
 refine s_op k_mv ?_
 refine s_op (k_tmp 2 (h := k_call [] (con := hoa) (hargs := by exact .cons rfl cv (.cons rfl (conv_sl (kk := .u8) (n := D.length + 1) (l := D ++ [77]) (by rfl) rfl rfl (by omega) (by omega) (by simp) (by simp)) .nil)))) ?_
 refine o4 ?_
 refine o3 ?_
 refine o2 ?_
 refine qx hP hn ?_
 refine s_op k_fa ?_
 refine s_op (k_ld (h := by exact a_loadf_agg (sub := [.ints .u8 32 M, .ints .u8 16 C]) (r := [.ints .u8 32 M, .ints .u8 16 C, .one (.int .u32 ((l : Nat) : Int)), .one (.int .u64 ((n : Nat) : Int))]) rfl (by exact Nat.le_of_ble_eq_true rfl) (by kernel_rfl) (by kernel_rfl))) ?_
 refine s_op k_mv ?_
 refine s_op (k_call [] (con := hob)) ?_
 refine o4 ?_
 refine o3 ?_
 refine o2 ?_
 refine qx hP hn ?_
 refine s_op k_mv ?_
 refine s_op (k_tmp 2 (h := k_call [] (con := hla) (hargs := by exact .cons rfl (conv_sl (kk := .u8) (n := D.length + 1) (l := D ++ [77]) (by rfl) rfl rfl (by omega) (by omega) (by simp) (by simp)) .nil))) ?_
 refine o3 ?_
 refine o2 ?_
 refine qx hP hn ?_
 refine s_op k_mv ?_
 refine s_op (k_call [] (con := hlb)) ?_
 refine o3 ?_
 refine o2 ?_
 refine s_nil trivial (n_wp (w_seq (qz hP hn ?_)))
 refine o2 ?_
 refine s_op (l_bin rfl rfl (b_neq (r := false) (decide_eq_false (fun h => h rfl)))) ?_
 refine s_op k_mv ?_
 refine s_on rfl rfl rfl k_mv ?_
 refine s_on rfl rfl rfl k_mv ?_
 refine s_on rfl rfl rfl (l_bin rfl rfl (b_neq (r := false) (decide_eq_false (fun h => h rfl)))) ?_
 refine o2 ?_
 refine s_on rfl rfl rfl k_mv ?_
 refine s_on rfl rfl rfl k_mv ?_
 refine s_on rfl rfl rfl (l_bin rfl rfl (b_neq (r := false) (decide_eq_false (fun h => h rfl)))) ?_
 refine o2 ?_
 refine s_on rfl rfl rfl k_mv ?_
 refine s_on rfl rfl rfl k_mv ?_
 refine s_on rfl rfl rfl (l_bin rfl rfl (b_neq (r := false) (decide_eq_false (fun h => h rfl)))) ?_
 refine o2 ?_
 refine s_on rfl rfl rfl k_mv ?_
 refine s_on rfl rfl rfl k_mv ?_
 refine s_on rfl rfl rfl (l_bin rfl rfl (b_neq (r := false) (decide_eq_false (fun h => h rfl)))) ?_
 refine o2 ?_
 refine s_on rfl rfl rfl k_mv ?_
 refine s_on rfl rfl rfl k_mv ?_
 refine s_on rfl rfl rfl (l_bin rfl rfl (b_neq (r := false) (decide_eq_false (fun h => h rfl)))) ?_
 refine o2 ?_
 refine s_on rfl rfl rfl k_mv ?_
 refine s_on rfl rfl rfl k_mv ?_
 refine s_on rfl rfl rfl (k_call [] (con := same_n [] (Nat.zero_le _))) ?_
 refine s_on rfl rfl rfl k_not ?_
 refine o2 ?_
 refine s_on rfl rfl rfl k_mv ?_
 refine s_on rfl rfl rfl k_mv ?_
 refine s_on rfl rfl rfl (k_call [] (con := same_n [] (Nat.zero_le _))) ?_
 refine s_on rfl rfl rfl k_not ?_
 refine o2 ?_
 refine s_on rfl rfl rfl k_mv ?_
 refine s_on rfl rfl rfl k_mv ?_
 refine s_on rfl rfl rfl (k_call [1] (con := left_n B (by omega)) (H' := [none, IB (B.length + 1) (B ++ [77]), IB (D.length + 1) (D ++ [77])]) (hH := by kernel_rfl)) ?_
 refine s_on rfl rfl rfl k_not ?_
 refine o2 ?_
 refine s_on rfl rfl rfl k_mv ?_
 refine s_on rfl rfl rfl k_mv ?_
 refine s_on rfl rfl rfl (k_call [2] (con := left_n D (by omega)) (H' := [none, IB (B.length + 1) (B ++ [77]), IB (D.length + 1) (D ++ [77])]) (hH := by kernel_rfl)) ?_
 refine s_on rfl rfl rfl k_not ?_
 refine s_op k_pk ?_
 refine s_nil trivial (n_wp ?_)
 refine w_F rfl ?_ 
 refine w_skip (n_wp (qz hP hn ?_))
 refine s_op k_al ?_
 refine qx hP hn ?_
 refine s_op k_mv ?_
 refine s_op (k_call [3, 1] (con := bytes_A B) (H' := [none, IB (B.length + 1) (B ++ [77]), IB (D.length + 1) (D ++ [77]), BKb 1 (.gro 4 3 1), RB (R3 (.slice 1 0 0 B.length (B.length + 1)) .nils 1 [])]) (hH := by kernel_rfl)) ?_
 refine qx hP hn ?_
 refine s_op k_mv ?_
 refine s_op (k_call [3, 1, 2, 4] (con := bytes_AA B D) (H' := [none, IB (B.length + 1) (B ++ [77]), IB (D.length + 1) (D ++ [77]), BKb 2 (.gro 5 3 2), none, RB (R3 (.slice 1 0 0 B.length (B.length + 1)) .nils 1 (R3 (.slice 2 0 0 D.length (D.length + 1)) .nils 2 []))]) (hH := by kernel_rfl)) ?_
 refine qx hP hn ?_
 refine s_op k_mv ?_
 refine s_op (k_call [3, 1, 2, 5] (con := bytes_AAC B D) (H' := [none, IB (B.length + 1) (B ++ [77]), IB (D.length + 1) (D ++ [77]), BKb 3 (.gro 6 3 3), none, none, RB (R3 (.slice 1 0 0 B.length (B.length + 1)) .nils 1 (R3 (.slice 2 0 0 D.length (D.length + 1)) .nils 2 (R3 .nils .nils 3 [])))]) (hH := by kernel_rfl)) ?_
 refine qx hP hn ?_
 refine s_op k_mv ?_
 refine s_op (k_call [3, 1, 2, 6] (con := bytes_AACC B D) (H' := [none, IB (B.length + 1) (B ++ [77]), IB (D.length + 1) (D ++ [77]), BKb 4 (.gro 7 3 4), none, none, none, RB (R3 (.slice 1 0 0 B.length (B.length + 1)) .nils 1 (R3 (.slice 2 0 0 D.length (D.length + 1)) .nils 2 (R3 .nils .nils 3 (R3 .nils .nils 4 []))))]) (hH := by kernel_rfl)) ?_
 refine qx hP hn ?_
 refine s_op (k_call [3, 1, 2, 7] (con := apart_AACC B (by omega) D (by omega))) ?_
 refine s_op k_as ?_
 refine s_nil trivial (n_wp (w_ret ?_))
 exact d_ret hP hn hE [] (by first | exact r_tmp Tryz.results5 | exact r_tmpa Tryz.results5)

end Go.Proofs.X
end

section
open Go Go.Bx Go.Proofs
namespace Go.Proofs.X
set_option maxRecDepth 100000
set_option maxHeartbeats 4000000
attribute [local irreducible] hmB streamI seal1 sealB ahB be fiB hmO tk rmac rsumL SB BK ks
theorem lanes_c (D : List Int) (hu : U8' D) : ∃ ll el : Int, Con Tryz.prog 24 [.s (.fzi .u8 D)] [] (.tup [.s (.int .u32 ll), .s (.int .i64 el)]) [] ∧ Con Tryz.prog 25 [.s (.fzi .u8 D)] [] (.tup [.s (.int .u32 ll), .s (.int .i64 el)]) [] := by
  by_cases h : 2048 < D.length
  · exact ⟨_, _, lane_long_c D h, rlane_long D h⟩
  · by_cases h2 : D.length < 29
    · exact ⟨_, _, lane_short_c D h2, rlane_short D h2⟩
    · by_cases h9 : D.getD 0 0 = 9
      · exact ⟨_, _, lane_n D (by omega) (by omega) h9 hu, rlane_ok D (by omega) (by omega) h9 hu⟩
      · exact ⟨_, _, lane_form_c D (by omega) (by omega) h9, rlane_form D (by omega) (by omega) h9⟩
theorem seal_m2 (M C B : List Int) (l n : Nat) (hM : M.length = 32) (hC : C.length = 16) (hC8 : U8 C) (hl : l < 4294967296) (hn64 : n < 18446744073709551616) (h : B.length ≤ 2019) : Con Tryz.prog 20 [.agg [.ints .u8 32 M, .ints .u8 16 C], .s (.int .u32 ((l : Nat) : Int)), .s (.int .u64 ((n : Nat) : Int)), .s (.fzi .u8 B)] [] (.tup [.s (.slice 0 0 0 (sealB M C l n B).length (sealB M C l n B).length), .s (.int .i64 0)]) [some ⟨true, [.ints .u8 (sealB M C l n B).length (sealB M C l n B)]⟩] := by
  have c := seal_m M C B l n hM hC hC8 hl hn64 h
  rwa [← sealB_len M C l n B] at c
theorem open_m2 (M C D : List Int) (hM : M.length = 32) (hC : C.length = 16) (hC8 : U8 C) (hU : U8' D) (h29 : 29 ≤ D.length) (h2 : D.length ≤ 2048) (h9 : D.getD 0 0 = 9) (hmac : (hmB M (D.take (D.length - 16))).take 16 = D.drop (D.length - 16)) (hb0 : 0 < (bodyB D).length) : Con Tryz.prog 22 [.agg [.ints .u8 32 M, .ints .u8 16 C], .s (.fzi .u8 D)] [] (.tup [.s (.int .u32 ((laneB D : Nat) : Int)), .s (.int .u64 ((numB D : Nat) : Int)), .s (.slice 0 0 0 (streamI C (fiB D) (bodyB D)).length (streamI C (fiB D) (bodyB D)).length), .s (.int .i64 0)]) [some ⟨true, [.ints .u8 (streamI C (fiB D) (bodyB D)).length (streamI C (fiB D) (bodyB D))]⟩] := by
  have c := open_m M C D hM hC hC8 hU h29 h2 h9 hmac hb0
  rwa [← streamI_ln C (fiB D) (bodyB D)] at c
theorem law19_c (M C B D : List Int) (l n : Nat) (hM : M.length = 32) (hC : C.length = 16) (hC8 : U8 C) (hl : l < 4294967296) (hn64 : n < 18446744073709551616) (hu : U8' D) : Con Tryz.prog 5 [.agg [.ints .u8 32 M, .ints .u8 16 C, .one (.int .u32 ((l : Nat) : Int)), .one (.int .u64 ((n : Nat) : Int))], .s (.fzi .u8 B), .s (.fzi .u8 D)] [] (.s (.bool true)) [] := by
  by_cases h1 : 5000 < B.length
  · exact law19_z1 M C B D l n h1
  by_cases h2 : 5000 < D.length
  · exact law19_z2 M C B D l n h1 h2
  obtain ⟨ll, el, hla, hlb⟩ := lanes_c D hu
  have key : ∀ {SX : List Int} {ea : Int}, (SX.length ≤ 5000 ∧ Con Tryz.prog 20 [.agg [.ints .u8 32 M, .ints .u8 16 C], .s (.int .u32 ((l : Nat) : Int)), .s (.int .u64 ((n : Nat) : Int)), .s (.fzi .u8 B)] [] (.tup [.s (.slice 0 0 0 SX.length SX.length), .s (.int .i64 ea)]) [IB SX.length SX] ∧ Con Tryz.prog 21 [.agg [.ints .u8 32 M, .ints .u8 16 C], .s (.int .u32 ((l : Nat) : Int)), .s (.int .u64 ((n : Nat) : Int)), .s (.fzi .u8 B)] [] (.tup [.s (.fzi .u8 SX), .s (.int .i64 ea)]) []) ∨ (Con Tryz.prog 20 [.agg [.ints .u8 32 M, .ints .u8 16 C], .s (.int .u32 ((l : Nat) : Int)), .s (.int .u64 ((n : Nat) : Int)), .s (.fzi .u8 B)] [] (.tup [.s .nils, .s (.int .i64 ea)]) [] ∧ Con Tryz.prog 21 [.agg [.ints .u8 32 M, .ints .u8 16 C], .s (.int .u32 ((l : Nat) : Int)), .s (.int .u64 ((n : Nat) : Int)), .s (.fzi .u8 B)] [] (.tup [.s .nils, .s (.int .i64 ea)]) []) → Con Tryz.prog 5 [.agg [.ints .u8 32 M, .ints .u8 16 C, .one (.int .u32 ((l : Nat) : Int)), .one (.int .u64 ((n : Nat) : Int))], .s (.fzi .u8 B), .s (.fzi .u8 D)] [] (.s (.bool true)) [] := by
    intro SX ea hs
    have nn : ∀ lo no eo : Int, Con Tryz.prog 22 [.agg [.ints .u8 32 M, .ints .u8 16 C], .s (.fzi .u8 D)] [] (.tup [.s (.int .u32 lo), .s (.int .u64 no), .s .nils, .s (.int .i64 eo)]) [] → Con Tryz.prog 23 [.agg [.ints .u8 32 M, .ints .u8 16 C], .s (.fzi .u8 D)] [] (.tup [.s (.int .u32 lo), .s (.int .u64 no), .s .nils, .s (.int .i64 eo)]) [] → Con Tryz.prog 5 [.agg [.ints .u8 32 M, .ints .u8 16 C, .one (.int .u32 ((l : Nat) : Int)), .one (.int .u64 ((n : Nat) : Int))], .s (.fzi .u8 B), .s (.fzi .u8 D)] [] (.s (.bool true)) [] := fun lo no eo ha hb => by
      rcases hs with ⟨s1, s2, s3⟩ | ⟨s2, s3⟩
      · exact law19_AABCn M C B D l n h1 h2 SX s1 ea s2 s3 lo no eo ha hb ll el hla hlb
      · exact law19_AACCn M C B D l n h1 h2 ea s2 s3 lo no eo ha hb ll el hla hlb
    by_cases g1 : 2048 < D.length
    · exact nn _ _ _ (open_long M C D g1) (ropen_long M C D g1)
    by_cases g2 : D.length < 29
    · exact nn _ _ _ (open_short M C D g2) (ropen_short M C D g2)
    by_cases g9 : D.getD 0 0 = 9
    · by_cases hmac : (hmB M (D.take (D.length - 16))).take 16 = D.drop (D.length - 16)
      · have ro := ropen_ok M C D hM hC hC8 hu (by omega) (by omega) g9 hmac
        by_cases hb0 : 0 < (bodyB D).length
        · have oo := open_m2 M C D hM hC hC8 hu (by omega) (by omega) g9 hmac hb0
          have ol : (streamI C (fiB D) (bodyB D)).length ≤ 5000 := by rw [streamI_ln]; simp [bodyB]; omega
          rcases hs with ⟨s1, s2, s3⟩ | ⟨s2, s3⟩
          · exact law19_AABB M C B D l n h1 h2 SX s1 ea s2 s3 _ ol _ _ _ oo ro ll el hla hlb
          · exact law19_AACB M C B D l n h1 h2 ea s2 s3 _ ol _ _ _ oo ro ll el hla hlb
        · have hb : bodyB D = [] := List.length_eq_zero_iff.1 (by omega)
          have oo := open_0 M C D hM hC hC8 hu (by omega) (by omega) g9 hmac hb
          rw [hb, streamI_nil] at ro
          rcases hs with ⟨s1, s2, s3⟩ | ⟨s2, s3⟩
          · exact law19_AABCe M C B D l n h1 h2 SX s1 ea s2 s3 _ _ _ oo ro ll el hla hlb
          · exact law19_AACCe M C B D l n h1 h2 ea s2 s3 _ _ _ oo ro ll el hla hlb
      · exact nn _ _ _ (open_bad M C D hM hC hC8 hu (by omega) (by omega) g9 hmac) (ropen_bad M C D hM hC hC8 hu (by omega) (by omega) g9 hmac)
    · exact nn _ _ _ (open_form M C D (by omega) (by omega) g9) (ropen_form M C D (by omega) (by omega) g9)
  by_cases hB : B.length ≤ 2019
  · exact key (SX := sealB M C l n B) (.inl ⟨by rw [sealB_len]; omega, seal_m2 M C B l n hM hC hC8 hl hn64 hB, rseal_c M C B l n hM hC hC8 hl hn64 hB⟩)
  · exact key (SX := []) (.inr ⟨seal_long_c M C B _ _ (by omega), rseal_long M C B _ _ (by omega) (by omega)⟩)

end Go.Proofs.X
end

section
/- Numbers among the arguments. No program. -/
open Go Go.Bx
namespace Go.Proofs.X
open Go.ChangeShapes Go.WideShapes
theorem wf_u64s {y : Int} (h : (Lit.int .u64 y).wf = true) : ∃ n : Nat, y = (n : Int) ∧ n < 18446744073709551616 := by
  simp [Lit.wf, IntKind.min, IntKind.max, IntKind.signed, IntKind.bits] at h
  exact ⟨y.toNat, by omega, by omega⟩
theorem wf_u32s {y : Int} (h : (Lit.int .u32 y).wf = true) : ∃ n : Nat, y = (n : Int) ∧ n < 4294967296 := by
  simp [Lit.wf, IntKind.min, IntKind.max, IntKind.signed, IntKind.bits] at h
  exact ⟨y.toNat, by omega, by omega⟩
end Go.Proofs.X
end
