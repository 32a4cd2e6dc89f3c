/- A part of the proofs of this claim: BCloC, BCloD, BCloE, BCloF, BCloG, BCloH, BLft, BLfc. No conditions. -/
import Derived.Test.YtcddchknofjbhaaGreatA12
import Derived.Test.YtcddchknofjbhaaGreatD0
import Derived.Test.YtcddchknofjbhaaGreatA10
set_option linter.unusedVariables false
set_option linter.unusedSimpArgs false
section
set_option maxRecDepth 100000
set_option maxHeartbeats 4000000
open Go Go.Bx Go.Proofs
namespace Go.Proofs.X
theorem nb {n m : Nat} (h : Nat.ble n m = true := by rfl) : n ≤ m := Nat.le_of_ble_eq_true h
theorem hh {H r : Heap} {id : Nat} {k : Option Blk} (h : H.set id k = r := by repeat (first | exact hset_0 | apply hset_s)) : H.set id k = r := h
abbrev E0 : Seg := .one (.int .u32 ((0 : Nat) : Int))
theorem kr {α : Sort _} {a b : α} (h : a = b := by kernel_rfl) : a = b := h
attribute [local irreducible] be gN ckS up8 chk pk0 pkB mayK wd asB mcB kyB koB kmB kM kC cmpT omB ocB imB icB saB heB bitsN expP fineP inP mayP
abbrev S1 : List Int := [1, 0, 0, 0, 0, 0, 0, 0, 0, 0, 0, 0, 0, 0, 0, 0, 0, 0, 0, 0, 0, 0, 0, 0, 0, 0, 0, 0, 0, 0, 0, 0]

theorem alive_w (p q g a : Nat) (SD : List Int) (b : Nat) (SB : List Int) (s0 s1 : Nat) (ID TA TB : List Int) (xa xb : Nat) (U1 U2 U3 U4 U5 U6 V1 V2 V3 V4 V5 V6 : List Int) (L1 L2 : List Pc) (Bp : List Int) (hBp : Bp.length ≤ 1000000) (hkn : Con Tryz.prog 21 [] [] (.agg [N4 p, N4 q, N4 g, N4 a, B32 SD, N4 p, N4 q, N4 g, N4 b, B32 SB, N4 s0, N4 s1, B32 ID]) []) (htwo : Con Tryz.prog 6 [.agg [N4 p, N4 q, N4 g, N4 a, B32 SD, N4 p, N4 q, N4 g, N4 b, B32 SB, N4 s0, N4 s1, B32 ID]] [] (.tup [.agg [B32 ID, B16 TB, E0, B32 U1, B16 U2, B32 U3, B16 U4, B32 U5, B32 U6, B32 ID, B16 TA, E0, B32 V1, B16 V2, B32 V3, B16 V4, B32 V5, B32 V6], .agg [N4 xa, N4 xb], .s (.bool true)]) []) (hnew : Con Tryz.prog 8 [.agg [N4 p, N4 q, N4 g, N4 a, B32 SD], .agg [B32 ID, B16 TB, E0, B32 U1, B16 U2, B32 U3, B16 U4, B32 U5, B32 U6], .agg [N4 xb], .agg [B32 S1], .s (.int .u32 ((9 : Nat) : Int))] [] (.tup [.s (.ptr 0 0 0), .s (.int .i64 0)]) [some ⟨true, [N4 p, N4 q, N4 g, N4 a, B32 SD, B32 ID, B16 TB, E0, B32 U1, B16 U2, B32 U3, B16 U4, B32 U5, B32 U6, B16 TA, N4 xb, B32 S1, .one (.int .u32 0), .one (.int .u32 ((9 : Nat) : Int)), .one (.fzi .u8 Bp), .one (.int .i64 4), .one (.int .i64 5), .one (.gro 1 3 1)]⟩, some ⟨true, [.rows 1 3 (rowsF fun i => ([[.one (.int .u32 0), .one (.int .u32 ((9 : Nat) : Int)), .one (.fzi .u8 Bp)]] : List (List Seg)).getD i [])]⟩]) (hget : Con Tryz.prog 10 [.s (.fzi .u8 Bp)] [] (.tup [.agg (PKT 6 TA TB L1), .s (.int .i64 0)]) []) (hans : Con Tryz.prog 11 [.agg [N4 p, N4 q, N4 g, N4 b, B32 SB], .agg [B32 ID, B16 TA, E0, B32 V1, B16 V2, B32 V3, B16 V4, B32 V5, B32 V6], .agg [N4 xa], .agg (PKT 6 TA TB L1)] [] (.tup [.agg (PKT 7 TB TA L2), .s (.int .i64 0)]) []) (hcame : Con Tryz.prog 13 [.s (.ptr 0 0 0), .agg (PKT 7 TB TA L2)] [some ⟨true, [N4 p, N4 q, N4 g, N4 a, B32 SD, B32 ID, B16 TB, E0, B32 U1, B16 U2, B32 U3, B16 U4, B32 U5, B32 U6, B16 TA, N4 xb, B32 S1, .one (.int .u32 0), .one (.int .u32 ((9 : Nat) : Int)), .one (.fzi .u8 Bp), .one (.int .i64 4), .one (.int .i64 5), .one .nils]⟩] (.s (.int .i64 0)) [some ⟨true, [N4 p, N4 q, N4 g, N4 a, B32 SD, B32 ID, B16 TB, E0, B32 U1, B16 U2, B32 U3, B16 U4, B32 U5, B32 U6, B16 TA, N4 xb, B32 S1, .one (.int .u32 0), .one (.int .u32 ((9 : Nat) : Int)), .one (.fzi .u8 Bp), .one (.int .i64 4), .one (.int .i64 5), .one .nils]⟩])  : Con Tryz.prog 7 [] [] (.s (.bool true)) [] := by
 refine con_in 101 Tryz.func7 rfl rfl (m := 0) rfl ?_
 intro E hP hn hE
 have hsp : (9 : Nat) ≠ 0 := by decide
 refine qz hP hn ?_
 refine s_op k_as ?_
 refine qx hP hn ?_
 refine s_op (k_call [] (con := hkn)) ?_
 refine s_op k_al ?_
 refine s_st (k_st (h := by exact a_store_agg rfl rfl rfl (put_w kr) nb kr hh)) ?_
 refine qx hP hn ?_
 refine s_op (k_ld (h := by exact a_load_whole rfl rfl kr)) ?_
 refine s_op (k_call [] (con := htwo)) ?_
 refine o4 ?_
 refine o2 ?_
 refine s_st (k_st (h := by exact a_store_agg rfl rfl rfl (put_w kr) nb kr hh)) ?_
 refine s_st (k_st (h := by exact a_store_agg rfl rfl rfl (put_w kr) nb kr hh)) ?_
 refine s_op k_as ?_
 refine s_nil trivial (n_wp (w_seq (w_seq ?_)))
 refine w_weak (frz_ptr 1 136 (hn := by kernel_rfl) (hid := by kernel_rfl)) ?_
 refine w_weak (frz_ptr 2 418 (hn := by kernel_rfl) (hid := by kernel_rfl)) ?_
 refine w_weak (frz_ptr 3 8 (hn := by kernel_rfl) (hid := by kernel_rfl)) ?_
 refine g_reg hP hn ?_
 refine o2 ?_
 refine s_nil trivial (n_wp ?_)
 refine w_F rfl ?_ 
 refine w_skip (n_wp (qz hP hn ?_))
 refine s_op k_fa ?_
 refine s_op (k_ld (h := by exact a_loadf_agg (sub := [N4 p, N4 q, N4 g, N4 a, B32 SD]) (r := [N4 p, N4 q, N4 g, N4 a, B32 SD, N4 p, N4 q, N4 g, N4 b, B32 SB, N4 s0, N4 s1, B32 ID]) rfl nb kr kr)) ?_
 refine s_op (k_ixF 0 0) ?_
 refine s_op (k_ld (h := by exact a_loadf_agg (sub := [B32 ID, B16 TB, E0, B32 U1, B16 U2, B32 U3, B16 U4, B32 U5, B32 U6]) (r := [B32 ID, B16 TB, E0, B32 U1, B16 U2, B32 U3, B16 U4, B32 U5, B32 U6, B32 ID, B16 TA, E0, B32 V1, B16 V2, B32 V3, B16 V4, B32 V5, B32 V6]) rfl nb kr kr)) ?_
 refine s_op (k_ixF 4 1) ?_
 refine s_op (k_ld (h := by exact a_loadf_agg (sub := [N4 xb]) (r := [N4 xb]) rfl nb kr kr)) ?_
 refine s_op (k_bd (by exact a_buildK S1 (by kernel_rfl) (by kernel_rfl) rfl)) ?_
 refine s_op (k_call [] (con := hnew) (v := .tup [.s (.ptr 3 0 0), .s (.int .i64 0)]) (hv := rfl) (H' := [none, none, none, some ⟨true, [N4 p, N4 q, N4 g, N4 a, B32 SD, B32 ID, B16 TB, E0, B32 U1, B16 U2, B32 U3, B16 U4, B32 U5, B32 U6, B16 TA, N4 xb, B32 S1, .one (.int .u32 0), .one (.int .u32 ((9 : Nat) : Int)), .one (.fzi .u8 Bp), .one (.int .i64 4), .one (.int .i64 5), .one (.gro 4 3 1)]⟩, some ⟨true, [.rows 1 3 (rowsF fun i => ([[.one (.int .u32 0), .one (.int .u32 ((9 : Nat) : Int)), .one (.fzi .u8 Bp)]] : List (List Seg)).getD i [])]⟩]) (hH := by kernel_rfl)) ?_
 refine o3 ?_
 refine o2 ?_
 refine s_nil trivial (n_wp (w_seq (qz hP hn ?_)))
 refine s_op k_mv ?_
 refine s_op (l_bin rfl rfl (b_neq (r := false) (decide_eq_false (fun h => h rfl)))) ?_
 refine s_nil trivial (n_wp ?_)
 refine w_F rfl ?_ 
 refine w_skip (n_wp (qz hP hn ?_))
 refine s_op k_mv ?_
 refine s_op (k_call [3, 4] (con := say_1 p q g a SD ID TB (0 : Nat) U1 U2 U3 U4 U5 U6 TA xb S1 9 Bp 4 5 hsp) (H' := [none, none, none, some ⟨true, [N4 p, N4 q, N4 g, N4 a, B32 SD, B32 ID, B16 TB, E0, B32 U1, B16 U2, B32 U3, B16 U4, B32 U5, B32 U6, B16 TA, N4 xb, B32 S1, .one (.int .u32 0), .one (.int .u32 ((9 : Nat) : Int)), .one (.fzi .u8 Bp), .one (.int .i64 4), .one (.int .i64 5), .one .nils]⟩, none]) (hH := by kernel_rfl)) ?_
 refine s_op k_as ?_
 refine s_nil trivial (n_wp (w_seq (qz hP hn ?_)))
 refine o2 ?_
 refine s_op (l_bin rfl rfl (b_neq (r := false) (by decide))) ?_
 refine s_nil trivial (n_wp ?_)
 refine w_F rfl ?_ 
 refine w_skip (n_wp (qz hP hn ?_))
 refine o3 ?_
 refine s_op (k_ld (by exact a_loadf (v := .fzi .u8 Bp) rfl (by omega) rfl)) ?_
 refine s_op (k_call [] (con := hget)) ?_
 refine o4 ?_
 refine s_st (k_st (h := by exact a_store_agg rfl rfl rfl (put_w kr) nb kr hh)) ?_
 refine s_op k_as ?_
 refine qx hP hn ?_
 refine s_op k_fa ?_
 refine s_op (k_ld (h := by exact a_loadf_agg (sub := [N4 p, N4 q, N4 g, N4 b, B32 SB]) (r := [N4 p, N4 q, N4 g, N4 b, B32 SB, N4 s0, N4 s1, B32 ID]) rfl nb kr kr)) ?_
 refine s_op (k_ixF 209 1) ?_
 refine s_op (k_ld (h := by exact a_loadf_agg (sub := [B32 ID, B16 TA, E0, B32 V1, B16 V2, B32 V3, B16 V4, B32 V5, B32 V6]) (r := [B32 ID, B16 TA, E0, B32 V1, B16 V2, B32 V3, B16 V4, B32 V5, B32 V6]) rfl nb kr kr)) ?_
 refine s_op (k_ixF 0 0) ?_
 refine s_op (k_ld (h := by exact a_loadf_agg (sub := [N4 xa]) (r := [N4 xa, N4 xb]) rfl nb kr kr)) ?_
 refine s_op (k_ld (h := by exact a_load_whole rfl rfl kr)) ?_
 refine s_op (k_call [] (con := hans)) ?_
 refine o4 ?_
 refine s_st (k_st (h := by exact a_store_agg rfl rfl rfl (put_w kr) nb kr hh)) ?_
 refine s_op k_as ?_
 refine qx hP hn ?_
 refine s_op k_mv ?_
 refine s_op (k_ld (h := by exact a_load_whole rfl rfl kr)) ?_
 refine s_op (k_call [3] (con := hcame)) ?_
 refine s_op k_as ?_
 refine s_nil trivial (n_wp (w_seq ?_))
 refine w_weak (frz_ptr 10 34 (hn := by kernel_rfl) (hid := by kernel_rfl)) ?_
 refine g_reg hP hn ?_
 refine o3 ?_
 refine qx hP hn ?_
 refine s_op k_as ?_
 refine s_nil trivial (n_wp (w_seq (qz hP hn ?_)))
 refine s_op k_as ?_
 refine s_nil trivial (n_wp (w_block ?_))
 refine c_loop (fun m_ T H => ∃ n lf tr mn : Nat, ∃ ls : Int, n ≤ 24 ∧ m_ = 24 - n ∧ lf = 4 - min n 23 % 4 ∧ tr = 5 - min n 23 / 4 ∧ mn = 1 + min n 23 / 4 ∧ (n = 24 → ls = 13) ∧ T = [(5, .s (.ptr 0 0 0)), (9, .s (.int .i64 0)), (10, .s (.fptr 34 (cellsF (PKT 7 TB TA L2)) 0 0)), (11, .s (.int .i64 0)), (12, .s (.int .i64 0)), (13, .s (.int .i64 ((mn : Nat) : Int))), (14, .s (.int .i64 ls)), (15, .s (.int .i64 ((n : Nat) : Int)))] ∧ H = [some ⟨true, [N4 p, N4 q, N4 g, N4 a, B32 SD, B32 ID, B16 TB, E0, B32 U1, B16 U2, B32 U3, B16 U4, B32 U5, B32 U6, B16 TA, N4 xb, B32 S1, .one (.int .u32 0), .one (.int .u32 ((9 : Nat) : Int)), .one (.fzi .u8 Bp), .one (.int .i64 ((lf : Nat) : Int)), .one (.int .i64 ((tr : Nat) : Int)), .one .nils]⟩]) (24) ⟨0, 4, 5, 1, 0, by omega, rfl, rfl, rfl, rfl, (fun h => absurd h (by decide)), rfl, rfl⟩ (wk hE [3]) ?_
 rintro n_ T_ H_ ⟨n, lf, tr, mn, ls, hi, rfl, hlf, htr, hmn, hls, rfl, rfl⟩
 refine w_seq (qz hP hn ?_)
 refine o2 ?_
 refine s_nil trivial (n_wp ?_)
 refine w_if rfl (fun h_t68 => ?_) (fun h_t68 => ?_)
 · refine w_skip (n_wp (w_seq (w_block (w_seq ?_))))
   rcases (show 1 < lf ∨ (lf ≤ 1 ∧ tr ≠ 0) ∨ (lf ≤ 1 ∧ tr = 0) by omega) with hw | hw | hw
   · skip
     refine g_reg hP hn ?_
     refine s_op k_mv ?_
     refine s_op (k_call [0] (con := tick_w p q g a SD ID TB (0 : Nat) U1 U2 U3 U4 U5 U6 TA xb S1 9 Bp lf tr hsp (by omega) (by omega) hw)) ?_
     refine s_op k_as ?_
     refine qy hP hn ?_
     refine o2 ?_
     refine s_op (k_call [0] (con := say_0 p q g a SD ID TB (0 : Nat) U1 U2 U3 U4 U5 U6 TA xb S1 9 Bp ((lf - 1 : Nat) : Int) ((tr : Nat) : Int) hsp)) ?_
     refine o3 ?_
     refine s_nil trivial (n_blo (n_wp (g_reg hP hn ?_)))
     refine o3 ?_
     refine s_nil trivial ?_
     exact n_round (24 - (n + 1)) (by omega) ⟨n + 1, lf - 1, tr, mn + 0, 0, by omega, rfl, by omega, by omega, by omega, by omega, rfl, rfl⟩ (wk hE [0])
   · skip
     refine g_reg hP hn ?_
     refine s_op k_mv ?_
     refine s_op (k_call [0] (con := tick_s p q g a SD ID TB (0 : Nat) U1 U2 U3 U4 U5 U6 TA xb S1 9 Bp lf tr hsp (by omega) (by omega) hw.1 hw.2 hBp)) ?_
     refine s_op k_as ?_
     refine qy hP hn ?_
     refine o2 ?_
     refine s_op (k_call [0, 1] (con := say_1 p q g a SD ID TB (0 : Nat) U1 U2 U3 U4 U5 U6 TA xb S1 9 Bp 4 ((tr - 1 : Nat) : Int) hsp)) ?_
     refine o3 ?_
     refine s_nil trivial (n_blo (n_wp (g_reg hP hn ?_)))
     refine o3 ?_
     refine s_nil trivial ?_
     exact n_round (24 - (n + 1)) (by omega) ⟨n + 1, 4, tr - 1, mn + 1, 0, by omega, rfl, by omega, by omega, by omega, by omega, rfl, rfl⟩ (wk hE [0])
   · skip
     refine g_reg hP hn ?_
     refine s_op k_mv ?_
     refine s_op (k_call [0] (con := tick_o p q g a SD ID TB (0 : Nat) U1 U2 U3 U4 U5 U6 TA xb S1 9 Bp lf tr hsp (by omega) (by omega) hw.1 hw.2)) ?_
     refine s_op k_as ?_
     refine qy hP hn ?_
     refine o2 ?_
     refine s_op (k_call [0] (con := say_0 p q g a SD ID TB (0 : Nat) U1 U2 U3 U4 U5 U6 TA xb S1 9 Bp ((lf : Nat) : Int) ((tr : Nat) : Int) hsp)) ?_
     refine o3 ?_
     refine s_nil trivial (n_blo (n_wp (g_reg hP hn ?_)))
     refine o3 ?_
     refine s_nil trivial ?_
     exact n_round (24 - (n + 1)) (by omega) ⟨n + 1, lf, tr, mn + 0, 13, by omega, rfl, by omega, by omega, by omega, by omega, rfl, rfl⟩ (wk hE [0])
 · obtain rfl : n = 24 := by omega
   obtain rfl := hls rfl
   obtain rfl : mn = 6 := by omega
   refine w_exit (x_thn (x_thn (x_eq (n_wp (qz hP hn ?_)))))
   refine o3 ?_
   refine s_on rfl rfl rfl k_mv ?_
   refine s_on rfl rfl rfl k_eql ?_
   refine o2 ?_
   refine s_on rfl rfl rfl k_fa ?_
   refine s_on rfl rfl rfl k_ld ?_
   refine s_on rfl rfl rfl k_eql ?_
   refine o2 ?_
   refine s_on rfl rfl rfl k_mv ?_
   refine s_on rfl rfl rfl k_eql ?_
   refine o2 ?_
   refine s_on rfl rfl rfl k_mv ?_
   refine s_on rfl rfl rfl k_eql ?_
   refine o2 ?_
   refine s_on rfl rfl rfl k_mv ?_
   refine s_on rfl rfl rfl k_eql ?_
   refine o2 ?_
   refine s_nil trivial (n_wp (w_ret ?_))
   exact d_ret hP hn hE [] (by first | exact r_tmp Tryz.results7 | exact r_tmpa Tryz.results7)

end Go.Proofs.X
end

section
set_option maxRecDepth 100000
set_option maxHeartbeats 4000000
open Go Go.Bx Go.Proofs
namespace Go.Proofs.X
attribute [local irreducible] be gN ckS up8 chk pk0 pkB mayK wd asB mcB kyB koB kmB kM kC cmpT omB ocB imB icB saB heB bitsN expP fineP inP mayP
theorem other_n (p q g a : Nat) (SA : List Int) (p2 q2 g2 b : Nat) (SB : List Int) (s0 s1 : Nat) (ID : List Int) (SS S2 : List Int) (htwo : Con Tryz.prog 6 [.agg [N4 p, N4 q, N4 g, N4 a, B32 SA, N4 p2, N4 q2, N4 g2, N4 b, B32 SB, N4 s0, N4 s1, B32 ID]] [] (.tup [.agg [.ints .u8 32 (zs (List.replicate 32 0)), .ints .u8 16 (zs (List.replicate 16 0)), .one (.int .u32 0), .ints .u8 32 (zs (List.replicate 32 0)), .ints .u8 16 (zs (List.replicate 16 0)), .ints .u8 32 (zs (List.replicate 32 0)), .ints .u8 16 (zs (List.replicate 16 0)), .ints .u8 32 (zs (List.replicate 32 0)), .ints .u8 32 (zs (List.replicate 32 0)), .ints .u8 32 (zs (List.replicate 32 0)), .ints .u8 16 (zs (List.replicate 16 0)), .one (.int .u32 0), .ints .u8 32 (zs (List.replicate 32 0)), .ints .u8 16 (zs (List.replicate 16 0)), .ints .u8 32 (zs (List.replicate 32 0)), .ints .u8 16 (zs (List.replicate 16 0)), .ints .u8 32 (zs (List.replicate 32 0)), .ints .u8 32 (zs (List.replicate 32 0))], .agg [.ints .u64 4 (zs (List.replicate 4 0)), .ints .u64 4 (zs (List.replicate 4 0))], .s (.bool false)]) []) (hal : Con Tryz.prog 7 [] [] (.s (.bool true)) []) : Con Tryz.prog 5 [.agg [N4 p, N4 q, N4 g, N4 a, B32 SA, N4 p2, N4 q2, N4 g2, N4 b, B32 SB, N4 s0, N4 s1, B32 ID], .agg [B32 SS, B32 S2]] [] (.s (.bool true)) [] := by
 refine con_in 135 Tryz.func5 rfl rfl (m := 0) rfl ?_
 intro E hP hn hE
 refine qz hP hn ?_
 refine s_op k_bxf ?_
 refine s_op k_bxf ?_
 refine s_op k_as ?_
 refine qx hP hn ?_
 refine s_op (k_ld (h := by exact a_loadf_agg (sub := [N4 p, N4 q, N4 g, N4 a, B32 SA, N4 p2, N4 q2, N4 g2, N4 b, B32 SB, N4 s0, N4 s1, B32 ID]) (r := [N4 p, N4 q, N4 g, N4 a, B32 SA, N4 p2, N4 q2, N4 g2, N4 b, B32 SB, N4 s0, N4 s1, B32 ID]) rfl nb kr kr)) ?_
 refine s_op (k_call [] (con := htwo)) ?_
 refine o4 ?_
 refine o2 ?_
 refine s_st (k_st (h := by exact a_store_agg rfl rfl rfl (put_w kr) nb kr hh)) ?_
 refine s_st (k_st (h := by exact a_store_agg rfl rfl rfl (put_w kr) nb kr hh)) ?_
 refine s_op k_as ?_
 refine s_nil trivial (n_wp (w_seq (qz hP hn ?_)))
 refine o2 ?_
 refine s_nil trivial (n_wp ?_)
 refine w_T rfl ?_ 
 refine qz hP hn ?_
 refine s_op (k_call [] (con := hal)) ?_
 refine s_op k_as ?_
 refine s_nil trivial (n_wp (w_ret (r_thn ?_)))
 exact d_ret hP hn hE [] (by first | exact r_tmp Tryz.results5 | exact r_tmpa Tryz.results5)

end Go.Proofs.X
end

section
set_option maxRecDepth 100000
set_option maxHeartbeats 4000000
open Go Go.Bx Go.Proofs
namespace Go.Proofs.X
attribute [local irreducible] be gN ckS up8 chk pk0 pkB mayK plL wd tagS asB mcB kyB koB kmB kM kC cmpT omB ocB imB icB saB heB bitsN expP fineP inP mayP
theorem came_e1 (p q g a : Nat) (SD ID PE : List Int) (ep : Nat) (OM OC IM IC SA HE TG : List Int) (y : Nat) (SS : List Int) (sp : Nat) (Bp : List Int) (left tries : Int) (hsp : sp ≠ 0) (k : Nat) (A B : List Int) (L : List Pc) (s : List Int) (hs : s.length = 32) (hSS : SS.length = 32) (e : Int) (he : e ≠ 0) (hrd : Con Tryz.prog 37 [.agg [N4 p, N4 q, N4 g, N4 a, B32 SD, B32 ID, B16 PE, .one (.int .u32 ((ep : Nat) : Int)), B32 OM, B16 OC, B32 IM, B16 IC, B32 SA, B32 HE, B16 TG], .agg (PKT k A B L), .agg [N4 y], .s (.int .u8 ((7 : Nat) : Int)), .s (.fzi .u16 (zs [961, 61505, 61697]))] [] (.tup [.agg [B32 s], .s (.int .i64 e)]) [])  : Con Tryz.prog 13 [.s (.ptr 0 0 0), .agg (PKT k A B L)] [some ⟨true, [N4 p, N4 q, N4 g, N4 a, B32 SD, B32 ID, B16 PE, .one (.int .u32 ((ep : Nat) : Int)), B32 OM, B16 OC, B32 IM, B16 IC, B32 SA, B32 HE, B16 TG, N4 y, B32 SS, .one (.int .u32 0), .one (.int .u32 ((sp : Nat) : Int)), .one (.fzi .u8 Bp), .one (.int .i64 left), .one (.int .i64 tries), .one (.gro 1 3 1)]⟩, some ⟨true, [.rows 1 3 (rowsF fun i => ([[.one (.int .u32 0), .one (.int .u32 ((sp : Nat) : Int)), .one (.fzi .u8 Bp)]] : List (List Seg)).getD i [])]⟩] (.s (.int .i64 e)) [some ⟨true, [N4 p, N4 q, N4 g, N4 a, B32 SD, B32 ID, B16 PE, .one (.int .u32 ((ep : Nat) : Int)), B32 OM, B16 OC, B32 IM, B16 IC, B32 SA, B32 HE, B16 TG, N4 y, B32 SS, .one (.int .u32 0), .one (.int .u32 ((sp : Nat) : Int)), .one (.fzi .u8 Bp), .one (.int .i64 left), .one (.int .i64 tries), .one (.gro 1 3 1)]⟩, some ⟨true, [.rows 1 3 (rowsF fun i => ([[.one (.int .u32 0), .one (.int .u32 ((sp : Nat) : Int)), .one (.fzi .u8 Bp)]] : List (List Seg)).getD i [])]⟩] := by
 refine con_in 35 Tryz.func13 rfl rfl (m := 2) rfl ?_
 intro E hP hn hE
 refine qz hP hn ?_
 refine s_op k_bxf ?_
 refine s_op k_as ?_
 refine s_nil trivial (n_wp (w_seq (qz hP hn ?_)))
 refine s_op k_mv ?_
 refine s_op (k_call [0, 1] (con := there_1 p q g a SD ID PE ep OM OC IM IC SA HE TG y SS sp Bp left tries hsp)) ?_
 refine s_op k_not ?_
 refine s_nil trivial (n_wp ?_)
 refine w_F rfl ?_ 
 refine w_skip (n_wp (w_seq ?_))
 refine g_any hP hn ?_
 refine o3 ?_
 refine s_op (k_ld (h := by exact a_load_agg (sub := [N4 p, N4 q, N4 g, N4 a, B32 SD, B32 ID, B16 PE, .one (.int .u32 ((ep : Nat) : Int)), B32 OM, B16 OC, B32 IM, B16 IC, B32 SA, B32 HE, B16 TG]) (r := [N4 p, N4 q, N4 g, N4 a, B32 SD, B32 ID, B16 PE, .one (.int .u32 ((ep : Nat) : Int)), B32 OM, B16 OC, B32 IM, B16 IC, B32 SA, B32 HE, B16 TG, N4 y, B32 SS, .one (.int .u32 0), .one (.int .u32 ((sp : Nat) : Int)), .one (.fzi .u8 Bp), .one (.int .i64 left), .one (.int .i64 tries), .one (.gro 1 3 1)]) rfl rfl kr kr)) ?_
 refine o4 ?_
 refine s_op (k_ld (h := by exact a_load_agg (sub := [N4 y]) (r := [N4 y, B32 SS, .one (.int .u32 0), .one (.int .u32 ((sp : Nat) : Int)), .one (.fzi .u8 Bp), .one (.int .i64 left), .one (.int .i64 tries), .one (.gro 1 3 1)]) rfl rfl kr kr)) ?_
 refine s_op k_bsf ?_
 refine s_op (k_call [] (con := hrd)) ?_
 refine o4 ?_
 refine s_st k_st ?_
 refine s_op k_as ?_
 refine s_nil (by kernel_rfl) ?_
 refine n_wp (w_seq (w_seq ?_))
 refine g_any hP hn ?_
 refine s_op k_mv ?_
 refine s_op (l_bin rfl rfl (b_eql (r := false) (decide_eq_false he))) ?_
 refine s_op k_mv ?_
 refine s_off rfl rfl rfl ?_
 refine s_off rfl rfl rfl ?_
 refine s_off rfl rfl rfl ?_
 refine s_off rfl rfl rfl ?_
 refine s_off rfl rfl rfl ?_
 refine s_off rfl rfl rfl ?_
 refine s_op k_pk ?_
 refine s_nil (by kernel_rfl) ?_
 refine n_wp ?_
 refine w_F rfl ?_ 
 refine w_skip (n_wp (qz hP hn ?_))
 refine o2 ?_
 refine s_nil trivial (n_wp (w_ret ?_))
 exact d_ret hP hn hE [0, 1] (by first | exact r_tmp Tryz.results13 | exact r_tmpa Tryz.results13)

theorem came_y1 (p q g a : Nat) (SD ID PE : List Int) (ep : Nat) (OM OC IM IC SA HE TG : List Int) (y : Nat) (SS : List Int) (sp : Nat) (Bp : List Int) (left tries : Int) (hsp : sp ≠ 0) (k : Nat) (A B : List Int) (L : List Pc) (s : List Int) (hs : s.length = 32) (hSS : SS.length = 32) (hy : s = SS) (hrd : Con Tryz.prog 37 [.agg [N4 p, N4 q, N4 g, N4 a, B32 SD, B32 ID, B16 PE, .one (.int .u32 ((ep : Nat) : Int)), B32 OM, B16 OC, B32 IM, B16 IC, B32 SA, B32 HE, B16 TG], .agg (PKT k A B L), .agg [N4 y], .s (.int .u8 ((7 : Nat) : Int)), .s (.fzi .u16 (zs [961, 61505, 61697]))] [] (.tup [.agg [B32 s], .s (.int .i64 0)]) [])  : Con Tryz.prog 13 [.s (.ptr 0 0 0), .agg (PKT k A B L)] [some ⟨true, [N4 p, N4 q, N4 g, N4 a, B32 SD, B32 ID, B16 PE, .one (.int .u32 ((ep : Nat) : Int)), B32 OM, B16 OC, B32 IM, B16 IC, B32 SA, B32 HE, B16 TG, N4 y, B32 SS, .one (.int .u32 0), .one (.int .u32 ((sp : Nat) : Int)), .one (.fzi .u8 Bp), .one (.int .i64 left), .one (.int .i64 tries), .one (.gro 1 3 1)]⟩, some ⟨true, [.rows 1 3 (rowsF fun i => ([[.one (.int .u32 0), .one (.int .u32 ((sp : Nat) : Int)), .one (.fzi .u8 Bp)]] : List (List Seg)).getD i [])]⟩] (.s (.int .i64 0)) [some ⟨true, [N4 p, N4 q, N4 g, N4 a, B32 SD, B32 ID, B16 PE, .one (.int .u32 ((ep : Nat) : Int)), B32 OM, B16 OC, B32 IM, B16 IC, B32 SA, B32 HE, B16 TG, N4 y, B32 SS, .one (.int .u32 0), .one (.int .u32 ((sp : Nat) : Int)), .one (.fzi .u8 Bp), .one (.int .i64 left), .one (.int .i64 tries), .one (.gro 1 3 1)]⟩, some ⟨true, [.rows 1 3 (rowsF fun i => ([[.one (.int .u32 0), .one (.int .u32 ((sp : Nat) : Int)), .one (.fzi .u8 Bp)]] : List (List Seg)).getD i [])]⟩] := by
 refine con_in 35 Tryz.func13 rfl rfl (m := 2) rfl ?_
 intro E hP hn hE
 refine qz hP hn ?_
 refine s_op k_bxf ?_
 refine s_op k_as ?_
 refine s_nil trivial (n_wp (w_seq (qz hP hn ?_)))
 refine s_op k_mv ?_
 refine s_op (k_call [0, 1] (con := there_1 p q g a SD ID PE ep OM OC IM IC SA HE TG y SS sp Bp left tries hsp)) ?_
 refine s_op k_not ?_
 refine s_nil trivial (n_wp ?_)
 refine w_F rfl ?_ 
 refine w_skip (n_wp (w_seq ?_))
 refine g_any hP hn ?_
 refine o3 ?_
 refine s_op (k_ld (h := by exact a_load_agg (sub := [N4 p, N4 q, N4 g, N4 a, B32 SD, B32 ID, B16 PE, .one (.int .u32 ((ep : Nat) : Int)), B32 OM, B16 OC, B32 IM, B16 IC, B32 SA, B32 HE, B16 TG]) (r := [N4 p, N4 q, N4 g, N4 a, B32 SD, B32 ID, B16 PE, .one (.int .u32 ((ep : Nat) : Int)), B32 OM, B16 OC, B32 IM, B16 IC, B32 SA, B32 HE, B16 TG, N4 y, B32 SS, .one (.int .u32 0), .one (.int .u32 ((sp : Nat) : Int)), .one (.fzi .u8 Bp), .one (.int .i64 left), .one (.int .i64 tries), .one (.gro 1 3 1)]) rfl rfl kr kr)) ?_
 refine o4 ?_
 refine s_op (k_ld (h := by exact a_load_agg (sub := [N4 y]) (r := [N4 y, B32 SS, .one (.int .u32 0), .one (.int .u32 ((sp : Nat) : Int)), .one (.fzi .u8 Bp), .one (.int .i64 left), .one (.int .i64 tries), .one (.gro 1 3 1)]) rfl rfl kr kr)) ?_
 refine s_op k_bsf ?_
 refine s_op (k_call [] (con := hrd)) ?_
 refine o4 ?_
 refine s_st k_st ?_
 refine s_op k_as ?_
 refine s_nil (by kernel_rfl) ?_
 refine n_wp (w_seq (w_seq ?_))
 refine g_any hP hn ?_
 refine s_op k_mv ?_
 refine s_op (l_bin rfl rfl (b_eql (r := true) (decide_eq_true rfl))) ?_
 refine s_op k_mv ?_
 refine s_on rfl rfl rfl k_ld ?_
 refine s_on rfl rfl rfl k_mv ?_
 refine s_on rfl rfl rfl k_nc ?_
 refine s_on rfl rfl rfl k_fa ?_
 refine s_on rfl rfl rfl (k_ld (h := by exact a_load_agg (sub := [B32 SS]) (r := [B32 SS, .one (.int .u32 0), .one (.int .u32 ((sp : Nat) : Int)), .one (.fzi .u8 Bp), .one (.int .i64 left), .one (.int .i64 tries), .one (.gro 1 3 1)]) rfl rfl kr kr)) ?_
 refine s_on rfl rfl rfl k_neq ?_
 refine s_op k_pk ?_
 refine s_nil (by kernel_rfl) ?_
 refine n_wp ?_
 refine w_F rfl ?_ (by subst hy; simp)
 refine w_skip (n_wp (qz hP hn ?_))
 refine o2 ?_
 refine s_nil trivial (n_wp (w_ret ?_))
 exact d_ret hP hn hE [0, 1] (by first | exact r_tmp Tryz.results13 | exact r_tmpa Tryz.results13)

theorem came_n1 (p q g a : Nat) (SD ID PE : List Int) (ep : Nat) (OM OC IM IC SA HE TG : List Int) (y : Nat) (SS : List Int) (sp : Nat) (Bp : List Int) (left tries : Int) (hsp : sp ≠ 0) (k : Nat) (A B : List Int) (L : List Pc) (s : List Int) (hs : s.length = 32) (hSS : SS.length = 32) (hy : s ≠ SS) (hrd : Con Tryz.prog 37 [.agg [N4 p, N4 q, N4 g, N4 a, B32 SD, B32 ID, B16 PE, .one (.int .u32 ((ep : Nat) : Int)), B32 OM, B16 OC, B32 IM, B16 IC, B32 SA, B32 HE, B16 TG], .agg (PKT k A B L), .agg [N4 y], .s (.int .u8 ((7 : Nat) : Int)), .s (.fzi .u16 (zs [961, 61505, 61697]))] [] (.tup [.agg [B32 s], .s (.int .i64 0)]) [])  : Con Tryz.prog 13 [.s (.ptr 0 0 0), .agg (PKT k A B L)] [some ⟨true, [N4 p, N4 q, N4 g, N4 a, B32 SD, B32 ID, B16 PE, .one (.int .u32 ((ep : Nat) : Int)), B32 OM, B16 OC, B32 IM, B16 IC, B32 SA, B32 HE, B16 TG, N4 y, B32 SS, .one (.int .u32 0), .one (.int .u32 ((sp : Nat) : Int)), .one (.fzi .u8 Bp), .one (.int .i64 left), .one (.int .i64 tries), .one (.gro 1 3 1)]⟩, some ⟨true, [.rows 1 3 (rowsF fun i => ([[.one (.int .u32 0), .one (.int .u32 ((sp : Nat) : Int)), .one (.fzi .u8 Bp)]] : List (List Seg)).getD i [])]⟩] (.s (.int .i64 7)) [some ⟨true, [N4 p, N4 q, N4 g, N4 a, B32 SD, B32 ID, B16 PE, .one (.int .u32 ((ep : Nat) : Int)), B32 OM, B16 OC, B32 IM, B16 IC, B32 SA, B32 HE, B16 TG, N4 y, B32 SS, .one (.int .u32 0), .one (.int .u32 ((sp : Nat) : Int)), .one (.fzi .u8 Bp), .one (.int .i64 left), .one (.int .i64 tries), .one (.gro 1 3 1)]⟩, some ⟨true, [.rows 1 3 (rowsF fun i => ([[.one (.int .u32 0), .one (.int .u32 ((sp : Nat) : Int)), .one (.fzi .u8 Bp)]] : List (List Seg)).getD i [])]⟩] := by
 refine con_in 35 Tryz.func13 rfl rfl (m := 2) rfl ?_
 intro E hP hn hE
 refine qz hP hn ?_
 refine s_op k_bxf ?_
 refine s_op k_as ?_
 refine s_nil trivial (n_wp (w_seq (qz hP hn ?_)))
 refine s_op k_mv ?_
 refine s_op (k_call [0, 1] (con := there_1 p q g a SD ID PE ep OM OC IM IC SA HE TG y SS sp Bp left tries hsp)) ?_
 refine s_op k_not ?_
 refine s_nil trivial (n_wp ?_)
 refine w_F rfl ?_ 
 refine w_skip (n_wp (w_seq ?_))
 refine g_any hP hn ?_
 refine o3 ?_
 refine s_op (k_ld (h := by exact a_load_agg (sub := [N4 p, N4 q, N4 g, N4 a, B32 SD, B32 ID, B16 PE, .one (.int .u32 ((ep : Nat) : Int)), B32 OM, B16 OC, B32 IM, B16 IC, B32 SA, B32 HE, B16 TG]) (r := [N4 p, N4 q, N4 g, N4 a, B32 SD, B32 ID, B16 PE, .one (.int .u32 ((ep : Nat) : Int)), B32 OM, B16 OC, B32 IM, B16 IC, B32 SA, B32 HE, B16 TG, N4 y, B32 SS, .one (.int .u32 0), .one (.int .u32 ((sp : Nat) : Int)), .one (.fzi .u8 Bp), .one (.int .i64 left), .one (.int .i64 tries), .one (.gro 1 3 1)]) rfl rfl kr kr)) ?_
 refine o4 ?_
 refine s_op (k_ld (h := by exact a_load_agg (sub := [N4 y]) (r := [N4 y, B32 SS, .one (.int .u32 0), .one (.int .u32 ((sp : Nat) : Int)), .one (.fzi .u8 Bp), .one (.int .i64 left), .one (.int .i64 tries), .one (.gro 1 3 1)]) rfl rfl kr kr)) ?_
 refine s_op k_bsf ?_
 refine s_op (k_call [] (con := hrd)) ?_
 refine o4 ?_
 refine s_st k_st ?_
 refine s_op k_as ?_
 refine s_nil (by kernel_rfl) ?_
 refine n_wp (w_seq (w_seq ?_))
 refine g_any hP hn ?_
 refine s_op k_mv ?_
 refine s_op (l_bin rfl rfl (b_eql (r := true) (decide_eq_true rfl))) ?_
 refine s_op k_mv ?_
 refine s_on rfl rfl rfl k_ld ?_
 refine s_on rfl rfl rfl k_mv ?_
 refine s_on rfl rfl rfl k_nc ?_
 refine s_on rfl rfl rfl k_fa ?_
 refine s_on rfl rfl rfl (k_ld (h := by exact a_load_agg (sub := [B32 SS]) (r := [B32 SS, .one (.int .u32 0), .one (.int .u32 ((sp : Nat) : Int)), .one (.fzi .u8 Bp), .one (.int .i64 left), .one (.int .i64 tries), .one (.gro 1 3 1)]) rfl rfl kr kr)) ?_
 refine s_on rfl rfl rfl k_neq ?_
 refine s_op k_pk ?_
 refine s_nil (by kernel_rfl) ?_
 refine n_wp ?_
 refine w_T rfl ?_ (by rw [decide_eq_false hy]; rfl)
 refine qz hP hn ?_
 refine s_op k_as ?_
 refine s_nil trivial (n_wp (w_ret (r_thn ?_)))
 exact d_ret hP hn hE [0, 1] (by first | exact r_tmp Tryz.results13 | exact r_tmpa Tryz.results13)

section
variable {p q g a : Nat} {SD ID PE : List Int} {ep : Nat} {OM OC IM IC SA HE TG : List Int} {y : Nat} {SS : List Int} {sp : Nat} {Bp : List Int} {left tries : Int}
theorem came_k1 {a' : Nat} {S2 : List Int} (s' : HstOk p q g a') (h : SndOk 7 961 PE TG S2 HE) (hsp : sp ≠ 0) (hSS : SS.length = 32) (ey : y = expP p g a') (r : Int) (hr : (S2 = SS ∧ r = 0) ∨ (S2 ≠ SS ∧ r = 7)) : Con Tryz.prog 13 [.s (.ptr 0 0 0), .agg (PKT 7 PE TG (plL 7 961 PE TG S2 HE p q g a'))] [some ⟨true, [N4 p, N4 q, N4 g, N4 a, B32 SD, B32 ID, B16 PE, .one (.int .u32 ((ep : Nat) : Int)), B32 OM, B16 OC, B32 IM, B16 IC, B32 SA, B32 HE, B16 TG, N4 y, B32 SS, .one (.int .u32 0), .one (.int .u32 ((sp : Nat) : Int)), .one (.fzi .u8 Bp), .one (.int .i64 left), .one (.int .i64 tries), .one (.gro 1 3 1)]⟩, some ⟨true, [.rows 1 3 (rowsF fun i => ([[.one (.int .u32 0), .one (.int .u32 ((sp : Nat) : Int)), .one (.fzi .u8 Bp)]] : List (List Seg)).getD i [])]⟩] (.s (.int .i64 r)) [some ⟨true, [N4 p, N4 q, N4 g, N4 a, B32 SD, B32 ID, B16 PE, .one (.int .u32 ((ep : Nat) : Int)), B32 OM, B16 OC, B32 IM, B16 IC, B32 SA, B32 HE, B16 TG, N4 y, B32 SS, .one (.int .u32 0), .one (.int .u32 ((sp : Nat) : Int)), .one (.fzi .u8 Bp), .one (.int .i64 left), .one (.int .i64 tries), .one (.gro 1 3 1)]⟩, some ⟨true, [.rows 1 3 (rowsF fun i => ([[.one (.int .u32 0), .one (.int .u32 ((sp : Nat) : Int)), .one (.fzi .u8 Bp)]] : List (List Seg)).getD i [])]⟩] := by
 subst ey
 rcases hr with ⟨h1, rfl⟩ | ⟨h1, rfl⟩
 · exact came_y1 p q g a SD ID PE ep OM OC IM IC SA HE TG (expP p g a') SS sp Bp left tries hsp 7 PE TG _ S2 h.hS hSS h1 (reads_k s' h)
 · exact came_n1 p q g a SD ID PE ep OM OC IM IC SA HE TG (expP p g a') SS sp Bp left tries hsp 7 PE TG _ S2 h.hS hSS h1 (reads_k s' h)
theorem came_f1 {a' : Nat} {S2 A B SZ : List Int} (hsp : sp ≠ 0) (hSS : SS.length = 32) : Con Tryz.prog 13 [.s (.ptr 0 0 0), .agg (PKT 6 A B (plL 6 897 A B S2 SZ p q g a'))] [some ⟨true, [N4 p, N4 q, N4 g, N4 a, B32 SD, B32 ID, B16 PE, .one (.int .u32 ((ep : Nat) : Int)), B32 OM, B16 OC, B32 IM, B16 IC, B32 SA, B32 HE, B16 TG, N4 y, B32 SS, .one (.int .u32 0), .one (.int .u32 ((sp : Nat) : Int)), .one (.fzi .u8 Bp), .one (.int .i64 left), .one (.int .i64 tries), .one (.gro 1 3 1)]⟩, some ⟨true, [.rows 1 3 (rowsF fun i => ([[.one (.int .u32 0), .one (.int .u32 ((sp : Nat) : Int)), .one (.fzi .u8 Bp)]] : List (List Seg)).getD i [])]⟩] (.s (.int .i64 4)) [some ⟨true, [N4 p, N4 q, N4 g, N4 a, B32 SD, B32 ID, B16 PE, .one (.int .u32 ((ep : Nat) : Int)), B32 OM, B16 OC, B32 IM, B16 IC, B32 SA, B32 HE, B16 TG, N4 y, B32 SS, .one (.int .u32 0), .one (.int .u32 ((sp : Nat) : Int)), .one (.fzi .u8 Bp), .one (.int .i64 left), .one (.int .i64 tries), .one (.gro 1 3 1)]⟩, some ⟨true, [.rows 1 3 (rowsF fun i => ([[.one (.int .u32 0), .one (.int .u32 ((sp : Nat) : Int)), .one (.fzi .u8 Bp)]] : List (List Seg)).getD i [])]⟩] := came_e1 p q g a SD ID PE ep OM OC IM IC SA HE TG y SS sp Bp left tries hsp 6 A B _ (zs (List.replicate 32 0)) (by rw [zs_len, List.length_replicate]) hSS 4 (by decide) (reads_n (ty := 897) (by decide) (by decide))
end

end Go.Proofs.X
end

section
set_option maxRecDepth 100000
set_option maxHeartbeats 4000000
open Go Go.Bx Go.Proofs
namespace Go.Proofs.X
attribute [local irreducible] be gN ckS up8 chk pk0 pkB mayK wd asB mcB kyB koB kmB kM kC cmpT omB ocB imB icB saB heB bitsN expP fineP inP mayP
theorem other_y (p q g a : Nat) (SD : List Int) (b : Nat) (SB : List Int) (s0 s1 : Nat) (ID TA TB : List Int) (xa xb : Nat) (U1 U2 U3 U4 U5 U6 V1 V2 V3 V4 V5 V6 : List Int) (SS S2 : List Int) (hSS : SS.length = 32) (hS2 : S2.length = 32) (L1 L2 : List Pc) (Bp : List Int) (r : Int) (hr : ((decide (r = 0) == decide (SS = S2)) && (decide (r = 7) == !decide (SS = S2))) = true) (htwo : Con Tryz.prog 6 [.agg [N4 p, N4 q, N4 g, N4 a, B32 SD, N4 p, N4 q, N4 g, N4 b, B32 SB, N4 s0, N4 s1, B32 ID]] [] (.tup [.agg [B32 ID, B16 TB, E0, B32 U1, B16 U2, B32 U3, B16 U4, B32 U5, B32 U6, B32 ID, B16 TA, E0, B32 V1, B16 V2, B32 V3, B16 V4, B32 V5, B32 V6], .agg [N4 xa, N4 xb], .s (.bool true)]) []) (hnew : Con Tryz.prog 8 [.agg [N4 p, N4 q, N4 g, N4 a, B32 SD], .agg [B32 ID, B16 TB, E0, B32 U1, B16 U2, B32 U3, B16 U4, B32 U5, B32 U6], .agg [N4 xb], .agg [B32 SS], .s (.int .u32 ((5 : Nat) : Int))] [] (.tup [.s (.ptr 0 0 0), .s (.int .i64 0)]) [some ⟨true, [N4 p, N4 q, N4 g, N4 a, B32 SD, B32 ID, B16 TB, E0, B32 U1, B16 U2, B32 U3, B16 U4, B32 U5, B32 U6, B16 TA, N4 xb, B32 SS, .one (.int .u32 0), .one (.int .u32 ((5 : Nat) : Int)), .one (.fzi .u8 Bp), .one (.int .i64 4), .one (.int .i64 5), .one (.gro 1 3 1)]⟩, some ⟨true, [.rows 1 3 (rowsF fun i => ([[.one (.int .u32 0), .one (.int .u32 ((5 : Nat) : Int)), .one (.fzi .u8 Bp)]] : List (List Seg)).getD i [])]⟩]) (hask : Con Tryz.prog 16 [.agg [N4 p, N4 q, N4 g, N4 a, B32 SD], .agg [B32 ID, B16 TB, E0, B32 U1, B16 U2, B32 U3, B16 U4, B32 U5, B32 U6], .agg [B32 S2]] [] (.tup [.agg (PKT 6 TA TB L1), .s (.int .i64 0)]) []) (hans : Con Tryz.prog 11 [.agg [N4 p, N4 q, N4 g, N4 b, B32 SB], .agg [B32 ID, B16 TA, E0, B32 V1, B16 V2, B32 V3, B16 V4, B32 V5, B32 V6], .agg [N4 xa], .agg (PKT 6 TA TB L1)] [] (.tup [.agg (PKT 7 TB TA L2), .s (.int .i64 0)]) []) (hn1 : Con Tryz.prog 11 [.agg [N4 p, N4 q, N4 g, N4 b, B32 SB], .agg [B32 ID, B16 TA, E0, B32 V1, B16 V2, B32 V3, B16 V4, B32 V5, B32 V6], .agg [N4 xa], .agg (PKT 7 TB TA L2)] [] (.tup [.agg [.one (.int .u8 0), .ints .u8 16 (zs (List.replicate 16 0)), .ints .u8 16 (zs (List.replicate 16 0)), .one .nils], .s (.int .i64 4)]) []) (hc1 : Con Tryz.prog 13 [.s (.ptr 0 0 0), .agg (PKT 7 TB TA L2)] [some ⟨true, [N4 p, N4 q, N4 g, N4 a, B32 SD, B32 ID, B16 TB, E0, B32 U1, B16 U2, B32 U3, B16 U4, B32 U5, B32 U6, B16 TA, N4 xb, B32 SS, .one (.int .u32 0), .one (.int .u32 ((5 : Nat) : Int)), .one (.fzi .u8 Bp), .one (.int .i64 4), .one (.int .i64 5), .one (.gro 1 3 1)]⟩, some ⟨true, [.rows 1 3 (rowsF fun i => ([[.one (.int .u32 0), .one (.int .u32 ((5 : Nat) : Int)), .one (.fzi .u8 Bp)]] : List (List Seg)).getD i [])]⟩] (.s (.int .i64 r)) [some ⟨true, [N4 p, N4 q, N4 g, N4 a, B32 SD, B32 ID, B16 TB, E0, B32 U1, B16 U2, B32 U3, B16 U4, B32 U5, B32 U6, B16 TA, N4 xb, B32 SS, .one (.int .u32 0), .one (.int .u32 ((5 : Nat) : Int)), .one (.fzi .u8 Bp), .one (.int .i64 4), .one (.int .i64 5), .one (.gro 1 3 1)]⟩, some ⟨true, [.rows 1 3 (rowsF fun i => ([[.one (.int .u32 0), .one (.int .u32 ((5 : Nat) : Int)), .one (.fzi .u8 Bp)]] : List (List Seg)).getD i [])]⟩]) (hc2 : Con Tryz.prog 13 [.s (.ptr 0 0 0), .agg (PKT 6 TA TB L1)] [some ⟨true, [N4 p, N4 q, N4 g, N4 a, B32 SD, B32 ID, B16 TB, E0, B32 U1, B16 U2, B32 U3, B16 U4, B32 U5, B32 U6, B16 TA, N4 xb, B32 SS, .one (.int .u32 0), .one (.int .u32 ((5 : Nat) : Int)), .one (.fzi .u8 Bp), .one (.int .i64 4), .one (.int .i64 5), .one (.gro 1 3 1)]⟩, some ⟨true, [.rows 1 3 (rowsF fun i => ([[.one (.int .u32 0), .one (.int .u32 ((5 : Nat) : Int)), .one (.fzi .u8 Bp)]] : List (List Seg)).getD i [])]⟩] (.s (.int .i64 4)) [some ⟨true, [N4 p, N4 q, N4 g, N4 a, B32 SD, B32 ID, B16 TB, E0, B32 U1, B16 U2, B32 U3, B16 U4, B32 U5, B32 U6, B16 TA, N4 xb, B32 SS, .one (.int .u32 0), .one (.int .u32 ((5 : Nat) : Int)), .one (.fzi .u8 Bp), .one (.int .i64 4), .one (.int .i64 5), .one (.gro 1 3 1)]⟩, some ⟨true, [.rows 1 3 (rowsF fun i => ([[.one (.int .u32 0), .one (.int .u32 ((5 : Nat) : Int)), .one (.fzi .u8 Bp)]] : List (List Seg)).getD i [])]⟩]) (hn2 : Con Tryz.prog 11 [.agg [N4 p, N4 q, N4 g, N4 a, B32 SD], .agg [B32 ID, B16 TB, E0, B32 U1, B16 U2, B32 U3, B16 U4, B32 U5, B32 U6], .agg [N4 xb], .agg (PKT 7 TB TA L2)] [] (.tup [.agg [.one (.int .u8 0), .ints .u8 16 (zs (List.replicate 16 0)), .ints .u8 16 (zs (List.replicate 16 0)), .one .nils], .s (.int .i64 4)]) []) (hal : Con Tryz.prog 7 [] [] (.s (.bool true)) []) : Con Tryz.prog 5 [.agg [N4 p, N4 q, N4 g, N4 a, B32 SD, N4 p, N4 q, N4 g, N4 b, B32 SB, N4 s0, N4 s1, B32 ID], .agg [B32 SS, B32 S2]] [] (.s (.bool true)) [] := by
 refine con_in 135 Tryz.func5 rfl rfl (m := 0) rfl ?_
 intro E hP hn hE
 refine qz hP hn ?_
 refine s_op k_bxf ?_
 refine s_op k_bxf ?_
 refine s_op k_as ?_
 refine qx hP hn ?_
 refine s_op (k_ld (h := by exact a_loadf_agg (sub := [N4 p, N4 q, N4 g, N4 a, B32 SD, N4 p, N4 q, N4 g, N4 b, B32 SB, N4 s0, N4 s1, B32 ID]) (r := [N4 p, N4 q, N4 g, N4 a, B32 SD, N4 p, N4 q, N4 g, N4 b, B32 SB, N4 s0, N4 s1, B32 ID]) rfl nb kr kr)) ?_
 refine s_op (k_call [] (con := htwo)) ?_
 refine o4 ?_
 refine o2 ?_
 refine s_st (k_st (h := by exact a_store_agg rfl rfl rfl (put_w kr) nb kr hh)) ?_
 refine s_st (k_st (h := by exact a_store_agg rfl rfl rfl (put_w kr) nb kr hh)) ?_
 refine s_op k_as ?_
 refine s_nil trivial (n_wp (w_seq (qz hP hn ?_)))
 refine o2 ?_
 refine s_nil trivial (n_wp ?_)
 refine w_F rfl ?_ 
 refine w_skip (n_wp (w_seq ?_))
 refine w_weak (frz_ptr 5 418 (hn := by kernel_rfl) (hid := by kernel_rfl)) ?_
 refine w_weak (frz_ptr 6 8 (hn := by kernel_rfl) (hid := by kernel_rfl)) ?_
 refine g_reg hP hn ?_
 refine s_op k_fa ?_
 refine s_op (k_ld (h := by exact a_loadf_agg (sub := [N4 p, N4 q, N4 g, N4 a, B32 SD]) (r := [N4 p, N4 q, N4 g, N4 a, B32 SD, N4 p, N4 q, N4 g, N4 b, B32 SB, N4 s0, N4 s1, B32 ID]) rfl nb kr kr)) ?_
 refine s_op (k_ixF 0 0) ?_
 refine s_op (k_ld (h := by exact a_loadf_agg (sub := [B32 ID, B16 TB, E0, B32 U1, B16 U2, B32 U3, B16 U4, B32 U5, B32 U6]) (r := [B32 ID, B16 TB, E0, B32 U1, B16 U2, B32 U3, B16 U4, B32 U5, B32 U6, B32 ID, B16 TA, E0, B32 V1, B16 V2, B32 V3, B16 V4, B32 V5, B32 V6]) rfl nb kr kr)) ?_
 refine s_op (k_ixF 4 1) ?_
 refine s_op (k_ld (h := by exact a_loadf_agg (sub := [N4 xb]) (r := [N4 xb]) rfl nb kr kr)) ?_
 refine s_op (k_ixF 0 0) ?_
 refine s_op (k_ld (h := by exact a_loadf_agg (sub := [B32 SS]) (r := [B32 SS, B32 S2]) rfl nb kr kr)) ?_
 refine s_op (k_call [] (con := hnew) (v := .tup [.s (.ptr 4 0 0), .s (.int .i64 0)]) (hv := rfl) (H' := [none, none, none, none, some ⟨true, [N4 p, N4 q, N4 g, N4 a, B32 SD, B32 ID, B16 TB, E0, B32 U1, B16 U2, B32 U3, B16 U4, B32 U5, B32 U6, B16 TA, N4 xb, B32 SS, .one (.int .u32 0), .one (.int .u32 ((5 : Nat) : Int)), .one (.fzi .u8 Bp), .one (.int .i64 4), .one (.int .i64 5), .one (.gro 5 3 1)]⟩, some ⟨true, [.rows 1 3 (rowsF fun i => ([[.one (.int .u32 0), .one (.int .u32 ((5 : Nat) : Int)), .one (.fzi .u8 Bp)]] : List (List Seg)).getD i [])]⟩]) (hH := by kernel_rfl)) ?_
 refine o3 ?_
 refine o2 ?_
 refine qx hP hn ?_
 refine s_op k_fa ?_
 refine s_op (k_ld (h := by exact a_loadf_agg (sub := [N4 p, N4 q, N4 g, N4 a, B32 SD]) (r := [N4 p, N4 q, N4 g, N4 a, B32 SD, N4 p, N4 q, N4 g, N4 b, B32 SB, N4 s0, N4 s1, B32 ID]) rfl nb kr kr)) ?_
 refine s_op (k_ixF 0 0) ?_
 refine s_op (k_ld (h := by exact a_loadf_agg (sub := [B32 ID, B16 TB, E0, B32 U1, B16 U2, B32 U3, B16 U4, B32 U5, B32 U6]) (r := [B32 ID, B16 TB, E0, B32 U1, B16 U2, B32 U3, B16 U4, B32 U5, B32 U6, B32 ID, B16 TA, E0, B32 V1, B16 V2, B32 V3, B16 V4, B32 V5, B32 V6]) rfl nb kr kr)) ?_
 refine s_op (k_ixF 32 1) ?_
 refine s_op (k_ld (h := by exact a_loadf_agg (sub := [B32 S2]) (r := [B32 S2]) rfl nb kr kr)) ?_
 refine s_op (k_call [] (con := hask)) ?_
 refine o4 ?_
 refine s_st (k_st (h := by exact a_store_agg rfl rfl rfl (put_w kr) nb kr hh)) ?_
 refine s_op k_as ?_
 refine qx hP hn ?_
 refine s_op k_fa ?_
 refine s_op (k_ld (h := by exact a_loadf_agg (sub := [N4 p, N4 q, N4 g, N4 b, B32 SB]) (r := [N4 p, N4 q, N4 g, N4 b, B32 SB, N4 s0, N4 s1, B32 ID]) rfl nb kr kr)) ?_
 refine s_op (k_ixF 209 1) ?_
 refine s_op (k_ld (h := by exact a_loadf_agg (sub := [B32 ID, B16 TA, E0, B32 V1, B16 V2, B32 V3, B16 V4, B32 V5, B32 V6]) (r := [B32 ID, B16 TA, E0, B32 V1, B16 V2, B32 V3, B16 V4, B32 V5, B32 V6]) rfl nb kr kr)) ?_
 refine s_op (k_ixF 0 0) ?_
 refine s_op (k_ld (h := by exact a_loadf_agg (sub := [N4 xa]) (r := [N4 xa, N4 xb]) rfl nb kr kr)) ?_
 refine s_op (k_ld (h := by exact a_load_whole rfl rfl kr)) ?_
 refine s_op (k_call [] (con := hans)) ?_
 refine o4 ?_
 refine s_st (k_st (h := by exact a_store_agg rfl rfl rfl (put_w kr) nb kr hh)) ?_
 refine s_op k_as ?_
 refine qx hP hn ?_
 refine s_op k_fa ?_
 refine s_op (k_ld (h := by exact a_loadf_agg (sub := [N4 p, N4 q, N4 g, N4 b, B32 SB]) (r := [N4 p, N4 q, N4 g, N4 b, B32 SB, N4 s0, N4 s1, B32 ID]) rfl nb kr kr)) ?_
 refine s_op (k_ixF 209 1) ?_
 refine s_op (k_ld (h := by exact a_loadf_agg (sub := [B32 ID, B16 TA, E0, B32 V1, B16 V2, B32 V3, B16 V4, B32 V5, B32 V6]) (r := [B32 ID, B16 TA, E0, B32 V1, B16 V2, B32 V3, B16 V4, B32 V5, B32 V6]) rfl nb kr kr)) ?_
 refine s_op (k_ixF 0 0) ?_
 refine s_op (k_ld (h := by exact a_loadf_agg (sub := [N4 xa]) (r := [N4 xa, N4 xb]) rfl nb kr kr)) ?_
 refine s_op (k_ld (h := by exact a_load_whole rfl rfl kr)) ?_
 refine s_op (k_call [] (con := hn1)) ?_
 refine o4 ?_
 refine s_st (k_st (h := by exact a_store_agg rfl rfl rfl (put_w kr) nb kr hh)) ?_
 refine s_op k_as ?_
 refine qx hP hn ?_
 refine s_op k_mv ?_
 refine s_op (k_ld (h := by exact a_load_whole rfl rfl kr)) ?_
 refine s_op (k_call [4, 5] (con := hc1) (H' := [none, none, none, none, some ⟨true, [N4 p, N4 q, N4 g, N4 a, B32 SD, B32 ID, B16 TB, E0, B32 U1, B16 U2, B32 U3, B16 U4, B32 U5, B32 U6, B16 TA, N4 xb, B32 SS, .one (.int .u32 0), .one (.int .u32 ((5 : Nat) : Int)), .one (.fzi .u8 Bp), .one (.int .i64 4), .one (.int .i64 5), .one (.gro 5 3 1)]⟩, some ⟨true, [.rows 1 3 (rowsF fun i => ([[.one (.int .u32 0), .one (.int .u32 ((5 : Nat) : Int)), .one (.fzi .u8 Bp)]] : List (List Seg)).getD i [])]⟩, some ⟨true, PKT 6 TA TB L1⟩, some ⟨true, PKT 7 TB TA L2⟩, some ⟨true, [.one (.int .u8 0), .ints .u8 16 (zs (List.replicate 16 0)), .ints .u8 16 (zs (List.replicate 16 0)), .one .nils]⟩]) (hH := by kernel_rfl)) ?_
 refine s_op k_as ?_
 refine qx hP hn ?_
 refine s_op k_mv ?_
 refine s_op (k_ld (h := by exact a_load_whole rfl rfl kr)) ?_
 refine s_op (k_call [4, 5] (con := hc2) (H' := [none, none, none, none, some ⟨true, [N4 p, N4 q, N4 g, N4 a, B32 SD, B32 ID, B16 TB, E0, B32 U1, B16 U2, B32 U3, B16 U4, B32 U5, B32 U6, B16 TA, N4 xb, B32 SS, .one (.int .u32 0), .one (.int .u32 ((5 : Nat) : Int)), .one (.fzi .u8 Bp), .one (.int .i64 4), .one (.int .i64 5), .one (.gro 5 3 1)]⟩, some ⟨true, [.rows 1 3 (rowsF fun i => ([[.one (.int .u32 0), .one (.int .u32 ((5 : Nat) : Int)), .one (.fzi .u8 Bp)]] : List (List Seg)).getD i [])]⟩, some ⟨true, PKT 6 TA TB L1⟩, some ⟨true, PKT 7 TB TA L2⟩, some ⟨true, [.one (.int .u8 0), .ints .u8 16 (zs (List.replicate 16 0)), .ints .u8 16 (zs (List.replicate 16 0)), .one .nils]⟩]) (hH := by kernel_rfl)) ?_
 refine s_op k_as ?_
 refine qx hP hn ?_
 refine s_op k_fa ?_
 refine s_op (k_ld (h := by exact a_loadf_agg (sub := [N4 p, N4 q, N4 g, N4 a, B32 SD]) (r := [N4 p, N4 q, N4 g, N4 a, B32 SD, N4 p, N4 q, N4 g, N4 b, B32 SB, N4 s0, N4 s1, B32 ID]) rfl nb kr kr)) ?_
 refine s_op (k_ixF 0 0) ?_
 refine s_op (k_ld (h := by exact a_loadf_agg (sub := [B32 ID, B16 TB, E0, B32 U1, B16 U2, B32 U3, B16 U4, B32 U5, B32 U6]) (r := [B32 ID, B16 TB, E0, B32 U1, B16 U2, B32 U3, B16 U4, B32 U5, B32 U6, B32 ID, B16 TA, E0, B32 V1, B16 V2, B32 V3, B16 V4, B32 V5, B32 V6]) rfl nb kr kr)) ?_
 refine s_op (k_ixF 4 1) ?_
 refine s_op (k_ld (h := by exact a_loadf_agg (sub := [N4 xb]) (r := [N4 xb]) rfl nb kr kr)) ?_
 refine s_op (k_ld (h := by exact a_load_whole rfl rfl kr)) ?_
 refine s_op (k_call [] (con := hn2)) ?_
 refine o4 ?_
 refine s_st (k_st (h := by exact a_store_agg rfl rfl rfl (put_w kr) nb kr hh)) ?_
 refine s_op k_as ?_
 refine qx hP hn ?_
 refine s_op (k_call [] (con := hal)) ?_
 refine s_op k_mv ?_
 refine s_on rfl rfl rfl k_mv ?_
 refine s_on rfl rfl rfl k_eql ?_
 refine o2 ?_
 refine s_on rfl rfl rfl k_mv ?_
 refine s_on rfl rfl rfl k_eql ?_
 refine o2 ?_
 refine s_on rfl rfl rfl k_mv ?_
 refine s_on rfl rfl rfl k_eql ?_
 refine o2 ?_
 refine s_on rfl rfl rfl k_mv ?_
 refine s_on rfl rfl rfl k_eql ?_
 refine o2 ?_
 refine s_on rfl rfl rfl k_mv ?_
 refine s_on rfl rfl rfl k_eql ?_
 refine o2 ?_
 refine s_on rfl rfl rfl k_mv ?_
 refine s_on rfl rfl rfl k_eql ?_
 refine o2 ?_
 refine s_on rfl rfl rfl k_mv ?_
 refine s_on rfl rfl rfl (l_bin rfl rfl (b_eql rfl)) ?_
 refine s_on rfl rfl rfl (k_ixF 0 0) ?_
 refine s_on rfl rfl rfl (k_ld (h := by exact a_loadf_agg (sub := [B32 SS]) (r := [B32 SS, B32 S2]) rfl nb kr kr)) ?_
 refine s_on rfl rfl rfl (k_ixF 32 1) ?_
 refine s_on rfl rfl rfl (k_ld (h := by exact a_loadf_agg (sub := [B32 S2]) (r := [B32 S2]) rfl nb kr kr)) ?_
 refine s_on rfl rfl rfl (a_eqA rfl rfl hSS hS2) ?_
 refine s_on rfl rfl rfl (a_eqlb rfl rfl) ?_
 simp only [Bool.and_eq_true] at hr
 rw [hr.1]
 refine o2 ?_
 refine s_on rfl rfl rfl k_mv ?_
 refine s_on rfl rfl rfl (l_bin rfl rfl (b_eql rfl)) ?_
 refine s_on rfl rfl rfl (k_ixF 0 0) ?_
 refine s_on rfl rfl rfl (k_ld (h := by exact a_loadf_agg (sub := [B32 SS]) (r := [B32 SS, B32 S2]) rfl nb kr kr)) ?_
 refine s_on rfl rfl rfl (k_ixF 32 1) ?_
 refine s_on rfl rfl rfl (k_ld (h := by exact a_loadf_agg (sub := [B32 S2]) (r := [B32 S2]) rfl nb kr kr)) ?_
 refine s_on rfl rfl rfl (a_neA rfl rfl hSS hS2) ?_
 refine s_on rfl rfl rfl (a_eqlb rfl rfl) ?_
 rw [hr.2]
 refine o2 ?_
 refine s_nil trivial (n_wp (w_ret ?_))
 exact d_ret hP hn hE [] (by first | exact r_tmp Tryz.results5 | exact r_tmpa Tryz.results5)

end Go.Proofs.X
end

section
set_option maxRecDepth 100000
set_option maxHeartbeats 4000000
open Go Go.Bx Go.Proofs
namespace Go.Proofs.X
attribute [local irreducible] be gN ckS up8 chk pk0 pkB mayK wd asB mcB kyB koB kmB kM kC cmpT omB ocB imB icB saB heB bitsN expP fineP inP mayP
end Go.Proofs.X
end

section
open Go Go.Bx Go.Proofs
namespace Go.Proofs.X
set_option maxRecDepth 100000
theorem tag_ne0 : ((tagS 18).getD 4 0 == (tagS 12).getD 4 0) = false := by kernel_rfl
theorem expP_s3 : expP 23 4 3 = 18 := by decide
theorem expP_s5 : expP 23 4 5 = 12 := by decide
theorem fine_s : fineP 23 11 4 = true := by decide
theorem e23 : zs (wd 23) = [23, 0, 0, 0] := by decide
theorem e11 : zs (wd 11) = [11, 0, 0, 0] := by decide
theorem e4 : zs (wd 4) = [4, 0, 0, 0] := by decide
theorem e3 : zs (wd 3) = [3, 0, 0, 0] := by decide
theorem e5 : zs (wd 5) = [5, 0, 0, 0] := by decide
theorem e2 : zs (wd 2) = [2, 0, 0, 0] := by decide
theorem e7 : zs (wd 7) = [7, 0, 0, 0] := by decide
attribute [local irreducible] be gN ckS up8 chk pk0 pkB mayK wd plL tagS asB mcB kyB koB kmB kM kC cmpT omB ocB imB icB saB heB bitsN expP fineP inP mayP
theorem snd_k {k ty : Nat} (hk : k = 6 ∨ k = 7) (h0 : 0 < ty) (hty : ty < 61505) {x y : Nat} {SS K : List Int} (hS : SS.length = 32) (uS : U8' SS) (hK : K.length = 32) : SndOk k ty (tagS x) (tagS y) SS K := ⟨hk, h0, hty, tagS_len _, tagS_len _, hS, hK, tagS_u8 _, tagS_u8 _, uS⟩
theorem S1_u8 : U8' S1 := fun i => by
  rcases Nat.lt_or_ge i 32 with h | h
  · have : ∀ k, k < 32 → 0 ≤ S1.getD k 0 ∧ S1.getD k 0 < 256 := by decide
    exact this i h
  · rw [List.getD_eq_getElem?_getD, List.getElem?_eq_none h]; decide
theorem plB_len {k ty : Nat} {A B SS SA : List Int} {p q g a : Nat} (h : SndOk k ty A B SS SA) : (pkB k A B (encL (plL k ty A B SS SA p q g a))).length ≤ 1000000 := Nat.le_trans (plL_len h) (by decide)
theorem alive_of {p q g a b s0 s1 : Nat} {SD SB ID : List Int} {U1 U2 U3 U4 U5 U6 V1 V2 V3 V4 V5 V6 : List Int} (D : Duo p q g a SD b SB s0 s1 ID U1 U2 U3 U4 U5 U6 V1 V2 V3 V4 V5 V6) (hkn : Con Tryz.prog 21 [] [] (.agg [.ints .u64 4 (zs (wd p)), .ints .u64 4 (zs (wd q)), .ints .u64 4 (zs (wd g)), .ints .u64 4 (zs (wd a)), .ints .u8 32 SD, .ints .u64 4 (zs (wd p)), .ints .u64 4 (zs (wd q)), .ints .u64 4 (zs (wd g)), .ints .u64 4 (zs (wd b)), .ints .u8 32 SB, .ints .u64 4 (zs (wd s0)), .ints .u64 4 (zs (wd s1)), .ints .u8 32 ID]) []) : Con Tryz.prog 7 [] [] (.s (.bool true)) [] := by
 obtain ⟨sa, sb, ne, u5, u6, rfl, rfl, con⟩ := D
 have a6 := snd_k (k := 6) (ty := 897) (x := (expP p g a)) (y := (expP p g b)) (.inl rfl) (by decide) (by decide) (show S1.length = 32 from rfl) S1_u8 u5
 have b7 := snd_k (k := 7) (ty := 961) (x := (expP p g b)) (y := (expP p g a)) (.inr rfl) (by decide) (by decide) (show S1.length = 32 from rfl) S1_u8 u6
 exact alive_w p q g a SD b SB s0 s1 ID _ _ _ _ U1 U2 U3 U4 V6 V5 V1 V2 V3 V4 V5 V6 _ _ _ (plB_len a6) hkn con (new_k _ sa a6 ne (show (9 : Nat) ≠ 0 by decide) rfl) (get_k a6) (ans_k sb sa a6 b7 (fun e => ne e.symm)) (came_k sb b7 (show (9 : Nat) ≠ 0 by decide) rfl rfl 0 (.inl ⟨rfl, rfl⟩))
theorem prm11 : prmN 11 := ⟨by decide, fun d h1 h2 => by
  have hd : d < 4 := Nat.lt_of_not_le fun h => by have := Nat.mul_le_mul h h; omega
  rcases (show d = 2 ∨ d = 3 by omega) with rfl | rfl <;> decide⟩
theorem prm23 : prmN 23 := ⟨by decide, fun d h1 h2 => by
  have hd : d < 5 := Nat.lt_of_not_le fun h => by have := Nat.mul_le_mul h h; omega
  rcases (show d = 2 ∨ d = 3 ∨ d = 4 by omega) with rfl | rfl | rfl <;> decide⟩
theorem hst11 (n : Nat) (h0 : n ≠ 0) (h1 : n < 11) : HstOk 23 11 4 n := ⟨by decide, by decide, by decide, by omega, fine_s, h0, h1, prm11⟩
theorem Prime_s : Con Tryz.prog 19 [.agg (GRP 23 11 4)] [] (.s (.bool true)) [] :=
 Prime_sm 23 11 4 (by decide) (by decide) (by kernel_rfl) true true (prime_y 23 (by decide) prm23) (prime_y 11 (by decide) prm11) (fun _ => by decide) (fun _ => by decide) (by decide) (by decide)
theorem tag_ne : tagS (expP 23 4 3) ≠ tagS (expP 23 4 5) := fun h => by
  have h2 := tag_ne0
  rw [expP_s3, expP_s5] at h
  rw [h] at h2
  rw [beq_self_eq_true] at h2
  cases h2
theorem known_k : Con Tryz.prog 21 [] [] (.agg [.ints .u64 4 (zs (wd 23)), .ints .u64 4 (zs (wd 11)), .ints .u64 4 (zs (wd 4)), .ints .u64 4 (zs (wd 3)), .ints .u8 32 K7, .ints .u64 4 (zs (wd 23)), .ints .u64 4 (zs (wd 11)), .ints .u64 4 (zs (wd 4)), .ints .u64 4 (zs (wd 5)), .ints .u8 32 K7, .ints .u64 4 (zs (wd 2)), .ints .u64 4 (zs (wd 7)), .ints .u8 32 (zs (List.replicate 32 0))]) [] := by
 have h := known25_c
 rw [← e23, ← e11, ← e4, ← e3, ← e5, ← e2, ← e7] at h
 exact h
theorem alive_k : Con Tryz.prog 7 [] [] (.s (.bool true)) [] := by
 obtain ⟨_, _, _, _, _, _, _, _, _, _, _, _, D⟩ := duo_y (p := 23) (q := 11) (g := 4) (a := 3) (b := 5) (s0 := 2) (s1 := 7) (ID := (zs (List.replicate 32 0))) K7 K7 (hst11 3 (by decide) (by decide)) (hst11 5 (by decide) (by decide)) (hst11 2 (by decide) (by decide)) (hst11 7 (by decide) (by decide)) (by rw [zs_len, List.length_replicate]) tag_ne Prime_s
 exact alive_of D known_k
section
variable (p q g a : Nat) (SA : List Int) (p2 q2 g2 b : Nat) (SB : List Int) (s0 s1 : Nat) (ID : List Int) (hp : p < 2 ^ 256) (hq : q < 2 ^ 256) (hg : g < 2 ^ 256) (ha : a < 2 ^ 256) (hp2 : p2 < 2 ^ 256) (hq2 : q2 < 2 ^ 256) (hg2 : g2 < 2 ^ 256) (hb : b < 2 ^ 256) (h0 : s0 < 2 ^ 256) (h1 : s1 < 2 ^ 256) (hID : ID.length = 32)
include hp hq hg ha hp2 hq2 hg2 hb h0 h1 hID
theorem other_all (SS S2 : List Int) (hS : SS.length = 32) (hS2 : S2.length = 32) (uS2 : U8' S2) (uS : U8' SS) : Con Tryz.prog 5 [.agg [.ints .u64 4 (zs (wd p)), .ints .u64 4 (zs (wd q)), .ints .u64 4 (zs (wd g)), .ints .u64 4 (zs (wd a)), .ints .u8 32 SA, .ints .u64 4 (zs (wd p2)), .ints .u64 4 (zs (wd q2)), .ints .u64 4 (zs (wd g2)), .ints .u64 4 (zs (wd b)), .ints .u8 32 SB, .ints .u64 4 (zs (wd s0)), .ints .u64 4 (zs (wd s1)), .ints .u8 32 ID], .agg [.ints .u8 32 SS, .ints .u8 32 S2]] [] (.s (.bool true)) [] := by
 rcases duo_all p q g a SA p2 q2 g2 b SB s0 s1 ID hp hq hg ha hp2 hq2 hg2 hb h0 h1 hID with h | ⟨rfl, rfl, rfl, U1, U2, U3, U4, U5, U6, V1, V2, V3, V4, V5, V6, D⟩
 · exact other_n p q g a SA p2 q2 g2 b SB s0 s1 ID SS S2 h alive_k
 · obtain ⟨sa, sb, ne, u5, u6, rfl, rfl, con⟩ := D
   have a6 := snd_k (k := 6) (ty := 897) (x := expP p2 g2 a) (y := expP p2 g2 b) (.inl rfl) (by decide) (by decide) hS uS u5
   have c6 := snd_k (k := 6) (ty := 897) (x := expP p2 g2 a) (y := expP p2 g2 b) (.inl rfl) (by decide) (by decide) hS2 uS2 u5
   have b7 := snd_k (k := 7) (ty := 961) (x := expP p2 g2 b) (y := expP p2 g2 a) (.inr rfl) (by decide) (by decide) hS2 uS2 u6
   by_cases hr : S2 = SS
   · exact other_y p2 q2 g2 a SA b SB s0 s1 ID _ _ _ _ U1 U2 U3 U4 V6 V5 V1 V2 V3 V4 V5 V6 SS S2 hS hS2 _ _ _ 0 (by rw [decide_eq_true hr.symm]; rfl) con (new_k _ sa a6 ne (show (5 : Nat) ≠ 0 by decide) rfl) (ask_k sa c6 ne) (ans_k sb sa c6 b7 (fun e => ne e.symm)) (ans_n sb (tagS_len _) (fun e => ne e.symm)) (came_k1 sb b7 (show (5 : Nat) ≠ 0 by decide) hS rfl 0 (.inl ⟨hr, rfl⟩)) (came_f1 (show (5 : Nat) ≠ 0 by decide) hS) (ans_n sa (tagS_len _) ne) alive_k
   · exact other_y p2 q2 g2 a SA b SB s0 s1 ID _ _ _ _ U1 U2 U3 U4 V6 V5 V1 V2 V3 V4 V5 V6 SS S2 hS hS2 _ _ _ 7 (by rw [decide_eq_false (fun e : SS = S2 => hr e.symm)]; rfl) con (new_k _ sa a6 ne (show (5 : Nat) ≠ 0 by decide) rfl) (ask_k sa c6 ne) (ans_k sb sa c6 b7 (fun e => ne e.symm)) (ans_n sb (tagS_len _) (fun e => ne e.symm)) (came_k1 sb b7 (show (5 : Nat) ≠ 0 by decide) hS rfl 7 (.inr ⟨hr, rfl⟩)) (came_f1 (show (5 : Nat) ≠ 0 by decide) hS) (ans_n sa (tagS_len _) ne) alive_k
end

end Go.Proofs.X
end

section
/- What comes in: packets, pieces, great numbers. No program. -/
open Go Go.Bx
namespace Go.Proofs.X
open Go.ChangeShapes Go.WideShapes
theorem wf_u64 {y : Int} (h : (Lit.int .u64 y).wf = true) : 0 ≤ y ∧ y < 18446744073709551616 := by
  simp [Lit.wf, IntKind.min, IntKind.max, IntKind.signed, IntKind.bits] at h; omega
theorem u8_of {l : List Int} (h : ∀ y ∈ l, (Lit.int .u8 y).wf = true) : U8' l := fun i => wf_u8 (wf_getD h i)
theorem num_of {l : List Int} (hl : l.length = 4) (hw : ∀ y ∈ l, (Lit.int .u64 y).wf = true) : ∃ n, n < 2 ^ 256 ∧ l = zs (wd n) := by
  obtain ⟨m, rfl, hm⟩ := nats_of (fun i => (wf_u64 (wf_getD hw i)).1)
  have hml : m.length = 4 := by rwa [zs_len] at hl
  have hB : B64 m := fun i => by
    have := (wf_u64 (wf_getD hw i)).2
    rw [← hm] at this
    omega
  refine ⟨val m % 2 ^ 256, Nat.mod_lt _ (by decide), ?_⟩
  rw [wd_mod, wd_val m hml hB]
abbrev shPc : List Seg → Prop := shCat [(1, shInt .u16), (1, shIntsZ .u8)]
abbrev shPk : List Seg → Prop := shCat [(1, shInt .u8), (16, shArr .u8 16), (16, shArr .u8 16), (1, shRowsZ 2 shPc)]
abbrev shGiv : List Seg → Prop := shCat [(12, shCat [(4, shArr .u64 4), (4, shArr .u64 4), (4, shArr .u64 4)]), (4, shArr .u64 4), (32, shArr .u8 32), (4, shArr .u64 4)]
abbrev shOth : List Seg → Prop := shCat [(16, shArr .u8 16), (32, shArr .u8 32), (2, shPc)]
end Go.Proofs.X
end

section
/- What comes in: two hosts, what they draw. No program. -/
open Go Go.Bx
namespace Go.Proofs.X
open Go.ChangeShapes Go.WideShapes
abbrev shSlf : List Seg → Prop := shCat [(12, shCat [(4, shArr .u64 4), (4, shArr .u64 4), (4, shArr .u64 4)]), (4, shArr .u64 4), (32, shArr .u8 32)]
theorem slf_open {s : List Seg} (h : shSlf s) : ∃ (p q g a : Nat) (K : List Int), p < 2 ^ 256 ∧ q < 2 ^ 256 ∧ g < 2 ^ 256 ∧ a < 2 ^ 256 ∧ K.length = 32 ∧ U8' K ∧ s = SELF p q g a K := by
  obtain ⟨_, _, ⟨_, _, ⟨lp, h1, w1, rfl⟩, _, ⟨_, _, ⟨lq, h2, w2, rfl⟩, _, ⟨_, _, ⟨lg, h3, w3, rfl⟩, _, rfl, rfl⟩, rfl⟩, rfl⟩, _, ⟨_, _, ⟨la, h4, w4, rfl⟩, _, ⟨_, _, ⟨K, h5, w5, rfl⟩, _, rfl, rfl⟩, rfl⟩, rfl⟩ := h
  obtain ⟨p, hp, rfl⟩ := num_of h1 w1
  obtain ⟨q, hq, rfl⟩ := num_of h2 w2
  obtain ⟨g, hg, rfl⟩ := num_of h3 w3
  obtain ⟨a, ha, rfl⟩ := num_of h4 w4
  exact ⟨p, q, g, a, K, hp, hq, hg, ha, h5, u8_of w5, rfl⟩
abbrev shPair : List Seg → Prop := shCat [(48, shSlf), (48, shSlf), (8, shCat (List.replicate 2 (4, shArr .u64 4))), (32, shArr .u8 32)]
theorem pair_open {s : List Seg} (h : shPair s) : ∃ (p q g a : Nat) (SA : List Int) (p2 q2 g2 b : Nat) (SB : List Int) (s0 s1 : Nat) (ID : List Int), p < 2 ^ 256 ∧ q < 2 ^ 256 ∧ g < 2 ^ 256 ∧ a < 2 ^ 256 ∧ p2 < 2 ^ 256 ∧ q2 < 2 ^ 256 ∧ g2 < 2 ^ 256 ∧ b < 2 ^ 256 ∧ s0 < 2 ^ 256 ∧ s1 < 2 ^ 256 ∧ ID.length = 32 ∧ s = SELF p q g a SA ++ (SELF p2 q2 g2 b SB ++ [.ints .u64 4 (zs (wd s0)), .ints .u64 4 (zs (wd s1)), .ints .u8 32 ID]) := by
  obtain ⟨_, _, hA, _, ⟨_, _, hB, _, ⟨_, _, ⟨_, _, ⟨l0, h0, w0, rfl⟩, _, ⟨_, _, ⟨l1, h1, w1, rfl⟩, _, rfl, rfl⟩, rfl⟩, _, ⟨_, _, ⟨ID, h5, w5, rfl⟩, _, rfl, rfl⟩, rfl⟩, rfl⟩, rfl⟩ := h
  obtain ⟨p, q, g, a, SA, hp, hq, hg, ha, _, _, rfl⟩ := slf_open hA
  obtain ⟨p2, q2, g2, b, SB, hp2, hq2, hg2, hb, _, _, rfl⟩ := slf_open hB
  obtain ⟨s0, hs0, rfl⟩ := num_of h0 w0
  obtain ⟨s1, hs1, rfl⟩ := num_of h1 w1
  exact ⟨p, q, g, a, SA, p2, q2, g2, b, SB, s0, s1, ID, hp, hq, hg, ha, hp2, hq2, hg2, hb, hs0, hs1, h5, rfl⟩
theorem sums_open {s : List Seg} (h : shCat (List.replicate 2 (32, shArr .u8 32)) s) : ∃ S R : List Int, S.length = 32 ∧ R.length = 32 ∧ U8' S ∧ U8' R ∧ s = [.ints .u8 32 S, .ints .u8 32 R] := by
  obtain ⟨_, _, ⟨S, h1, w1, rfl⟩, _, ⟨_, _, ⟨R, h2, w2, rfl⟩, _, rfl, rfl⟩, rfl⟩ := h
  exact ⟨S, R, h1, h2, u8_of w1, u8_of w2, rfl⟩
end Go.Proofs.X
end
