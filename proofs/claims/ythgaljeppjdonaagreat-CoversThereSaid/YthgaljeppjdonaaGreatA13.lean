/- A part of the proofs of this claim: BTh2, BTh3, Bx42, BLft, BTh4. No conditions. -/
import Derived.Test.YthgaljeppjdonaaGreatA12
import Derived.Test.YthgaljeppjdonaaGreatA10
import Derived.Test.YthgaljeppjdonaaGreatA5
set_option linter.unusedVariables false
set_option linter.unusedSimpArgs false
section
open Go Go.Bx Go.Proofs
namespace Go.Proofs.X
abbrev K5 : List Int := [5, 0, 0, 0, 0, 0, 0, 0, 0, 0, 0, 0, 0, 0, 0, 0, 0, 0, 0, 0, 0, 0, 0, 0, 0, 0, 0, 0, 0, 0, 0, 0]
abbrev Z16 : List Int := (zs (List.replicate 16 0))
theorem z16_u8 : U8' Z16 := by
  show U8' (zs (List.replicate 16 0))
  rw [zs_rep]; exact U8'_rep _
theorem z16_len : Z16.length = 16 := by simp [zs]
theorem e23 : zs (wd 23) = [23, 0, 0, 0] := by decide
theorem e11 : zs (wd 11) = [11, 0, 0, 0] := by decide
theorem e4 : zs (wd 4) = [4, 0, 0, 0] := by decide
theorem e3 : zs (wd 3) = [3, 0, 0, 0] := by decide
theorem eGR : GRP 23 11 4 = [.ints .u64 4 [23, 0, 0, 0], .ints .u64 4 [11, 0, 0, 0], .ints .u64 4 [4, 0, 0, 0]] := by
  show [Seg.ints .u64 4 (zs (wd 23)), Seg.ints .u64 4 (zs (wd 11)), Seg.ints .u64 4 (zs (wd 4))] = _
  rw [e23, e11, e4]
theorem wf_0 : WfL [] := ⟨by decide, fun p h => by cases h⟩
theorem wf_1 {p : Pc} (h : p.1 < 65536 ∧ U8' p.2 ∧ p.2.length ≤ 900000) : WfL [p] := ⟨by simp, fun q hq => by rw [List.mem_singleton] at hq; subst hq; exact h⟩
theorem ok_0 : okP 1 [] := ⟨by decide, fun i hi => absurd hi (Nat.not_lt_zero i), by decide, fun k hk => absurd hk (Nat.not_lt_zero k), by decide⟩
theorem ok_1 {p : Pc} (h1 : p.1 = 61505) (h2 : p.2.length = 32) : okP 1 [p] := by
  refine ⟨by decide, fun i hi => ?_, by simp, fun k hk => ?_, ?_⟩
  · obtain rfl : i = 0 := Nat.lt_one_iff.1 hi
    show 0 < p.1
    omega
  · obtain rfl : k = 0 := Nat.lt_one_iff.1 hk
    show p.2.length ≤ 2048
    omega
  · rw [encL_cons, List.length_append, encP_len, h2]; decide
theorem ok_2 {p r : Pc} (h1 : p.1 = 61505) (h2 : p.2.length = 32) (h3 : r.1 = 61697) (h4 : r.2.length = 64) : okP 1 [p, r] := by
  refine ⟨by decide, fun i hi => ?_, by simp, fun k hk => ?_, ?_⟩
  · have hi : i < 2 := hi
    rcases (show i = 0 ∨ i = 1 by omega) with rfl | rfl
    · show 0 < p.1
      omega
    · show p.1 < r.1
      omega
  · have hk : k < 2 := hk
    rcases (show k = 0 ∨ k = 1 by omega) with rfl | rfl
    · show p.2.length ≤ 2048
      omega
    · show r.2.length ≤ 2048
      omega
  · rw [encL_cons, encL_cons, List.length_append, List.length_append, encP_len, encP_len, h2, h4]; decide
theorem sec_small : secP 23 11 4 3 = true := by decide
theorem fine_small : fineP 23 11 4 = true := by decide
theorem b23 : (23 : Nat) < 2 ^ 256 := by decide
theorem b11 : (11 : Nat) < 2 ^ 256 := by decide
theorem b4 : (4 : Nat) < 2 ^ 256 := by decide
theorem b3 : (3 : Nat) < 2 ^ 256 := by decide
def aMb : List Int := (macPc 1 Z16 Z16 [] K5).2
abbrev aM : Pc := (61505, aMb)
def aSb : List Int := (sgPc 1 Z16 Z16 [aM] 23 11 4 3).2
abbrev aS : Pc := (61697, aSb)
theorem aM_1 : aM.1 = 61505 := rfl
theorem aM_2 : aM.2.length = 32 := macS_len _ _
theorem aS_1 : aS.1 = 61697 := rfl
theorem aS_2 : aS.2.length = 64 := by show (be 32 _ ++ be 32 _).length = 64; rw [List.length_append, be_len, be_len]
theorem aM_wf : aM.1 < 65536 ∧ U8' aM.2 ∧ aM.2.length ≤ 900000 := macPc_wf _ _ _ _ _
theorem aS_wf : aS.1 < 65536 ∧ U8' aS.2 ∧ aS.2.length ≤ 900000 := sgPc_wf _ _ _ _ _ _ _ _
theorem macok : MacOK 1 Z16 Z16 [] K5 := ⟨fun i hi => absurd hi (Nat.not_lt_zero i), ok_0, by decide, ok_1 aM_1 aM_2⟩
theorem sgk1 : sgK 1 [aM] = [aM] := by
  have e : sgK 1 [aM] = sgL [aM] := if_neg (by decide)
  rw [e, sgL_cons_y aM [] (by rw [aM_1]; decide)]; rfl
theorem sgk2 : sgK 1 [aM, aS] = [aM] := by
  have e : sgK 1 [aM, aS] = sgL ([aM] ++ [aS]) := if_neg (by decide)
  have e2 : sgK 1 [aM] = sgL [aM] := if_neg (by decide)
  rw [e, sgL_snoc_n aS [aM] (by rw [aS_1]; decide), ← e2, sgk1]
theorem sgnok : SgnOK 1 Z16 Z16 [aM] 23 11 4 3 := ⟨fun i hi => by
  obtain rfl : i = 0 := Nat.lt_one_iff.1 hi
  show decide (61697 ≤ aM.1) = false
  rw [aM_1]; decide, by rw [sgk1]; exact ok_1 aM_1 aM_2, sec_small, by decide, ok_2 aM_1 aM_2 aS_1 aS_2⟩
theorem wf_2 : WfL [aM, aS] := (wf_1 aM_wf).snoc (by decide) aS_wf
attribute [local irreducible] ckB expP sg0 drP asB pkB
theorem al_m : Con Tryz.prog 7 [.agg [.one (.int .u8 1), .ints .u8 16 (zs (List.replicate 16 0)), .ints .u8 16 (zs (List.replicate 16 0)), .one (.fz 0 2 (gP (kpF [])))], .agg [.ints .u8 32 [5, 0, 0, 0, 0, 0, 0, 0, 0, 0, 0, 0, 0, 0, 0, 0, 0, 0, 0, 0, 0, 0, 0, 0, 0, 0, 0, 0, 0, 0, 0, 0]]] [] (.tup [.agg [.one (.int .u8 1), .ints .u8 16 (zs (List.replicate 16 0)), .ints .u8 16 (zs (List.replicate 16 0)), .one (.fz 1 2 (gP (kpF [aM])))], .s (.int .i64 0)]) [] := mac_ok 1 Z16 Z16 [] K5 rfl wf_0 (by decide) z16_len z16_len z16_u8 z16_u8 macok
theorem al_m2 : Con Tryz.prog 7 [.agg [.one (.int .u8 1), .ints .u8 16 (zs (List.replicate 16 0)), .ints .u8 16 (zs (List.replicate 16 0)), .one (.fz 1 2 (gP (kpF [aM])))], .agg [.ints .u8 32 [5, 0, 0, 0, 0, 0, 0, 0, 0, 0, 0, 0, 0, 0, 0, 0, 0, 0, 0, 0, 0, 0, 0, 0, 0, 0, 0, 0, 0, 0, 0, 0]]] [] (.tup [.agg ZPK, .s (.int .i64 8)]) [] := mac_there 1 Z16 Z16 [aM] (wf_1 aM_wf) K5 rfl 0 Nat.zero_lt_one (Nat.le_of_eq aM_1.symm)
theorem al_s : Con Tryz.prog 8 [.agg [.ints .u64 4 [23, 0, 0, 0], .ints .u64 4 [11, 0, 0, 0], .ints .u64 4 [4, 0, 0, 0]], .agg [.one (.int .u8 1), .ints .u8 16 (zs (List.replicate 16 0)), .ints .u8 16 (zs (List.replicate 16 0)), .one (.fz 1 2 (gP (kpF [aM])))], .agg [.ints .u64 4 [3, 0, 0, 0]]] [] (.tup [.agg [.one (.int .u8 1), .ints .u8 16 (zs (List.replicate 16 0)), .ints .u8 16 (zs (List.replicate 16 0)), .one (.fz 2 2 (gP (kpF [aM, aS])))], .s (.int .i64 0)]) [] := by
 have h := sgn_ok 1 Z16 Z16 [aM] 23 11 4 b23 b11 b4 3 b3 (wf_1 aM_wf) (by decide) z16_len z16_len z16_u8 z16_u8 sgnok
 rw [eGR, e3] at h
 exact h
theorem al_k : Con Tryz.prog 17 [.agg [.ints .u64 4 [23, 0, 0, 0], .ints .u64 4 [11, 0, 0, 0], .ints .u64 4 [4, 0, 0, 0]], .agg [.ints .u64 4 [3, 0, 0, 0]]] [] (.tup [.agg [.ints .u64 4 (zs (wd (expP 23 4 3)))], .s (.int .i64 0)]) [] := by
 have h := key_f 23 11 4 b23 b11 b4 3 b3 fine_small (by decide) (by decide)
 rw [eGR, e3] at h
 exact h
theorem al_h1 : Con Tryz.prog 18 [.agg [.one (.int .u8 1), .ints .u8 16 (zs (List.replicate 16 0)), .ints .u8 16 (zs (List.replicate 16 0)), .one (.fz 1 2 (gP (kpF [aM])))], .agg [.ints .u8 32 [5, 0, 0, 0, 0, 0, 0, 0, 0, 0, 0, 0, 0, 0, 0, 0, 0, 0, 0, 0, 0, 0, 0, 0, 0, 0, 0, 0, 0, 0, 0, 0]]] [] (.s (.bool true)) [] := by
 refine hasm_c 1 Z16 Z16 [aM] K5 rfl true (is_y 1 Z16 Z16 [aM] 61505 K5 (wf_1 aM_wf) 0 Nat.zero_lt_one (fun k hk => absurd hk (Nat.not_lt_zero k)) (by show decide (aM.1 = 61505) = true; rw [aM_1]; decide) (macS K5 (pkB 1 Z16 Z16 (encL []))) ?_ rfl)
 have e : keepL (fun x => decide (61505 ≤ x)) [aM] = [] := by
   unfold keepL; rw [List.filter_cons_of_neg (by simp [aM_1])]; rfl
 rw [e]
 exact sum1_y 1 Z16 Z16 [] K5 rfl _ (by rw [pkB_len z16_len z16_len]; decide) (kput_ok 1 Z16 Z16 [] wf_0 ok_0 (by decide) z16_len z16_len z16_u8 z16_u8)
theorem al_h0 : Con Tryz.prog 18 [.agg [.one (.int .u8 1), .ints .u8 16 (zs (List.replicate 16 0)), .ints .u8 16 (zs (List.replicate 16 0)), .one (.fz 0 2 (gP (kpF [])))], .agg [.ints .u8 32 [5, 0, 0, 0, 0, 0, 0, 0, 0, 0, 0, 0, 0, 0, 0, 0, 0, 0, 0, 0, 0, 0, 0, 0, 0, 0, 0, 0, 0, 0, 0, 0]]] [] (.s (.bool false)) [] := by
 refine hasm_c 1 Z16 Z16 [] K5 rfl false (is_n 1 Z16 Z16 [] 61505 K5 wf_0 (fun k hk => absurd hk (Nat.not_lt_zero k)) (macS K5 (pkB 1 Z16 Z16 (encL []))) ?_)
 exact sum1_y 1 Z16 Z16 [] K5 rfl _ (by rw [pkB_len z16_len z16_len]; decide) (kput_ok 1 Z16 Z16 [] wf_0 ok_0 (by decide) z16_len z16_len z16_u8 z16_u8)
theorem al_sd : Con Tryz.prog 19 [.agg [.ints .u64 4 [23, 0, 0, 0], .ints .u64 4 [11, 0, 0, 0], .ints .u64 4 [4, 0, 0, 0]], .agg [.one (.int .u8 1), .ints .u8 16 (zs (List.replicate 16 0)), .ints .u8 16 (zs (List.replicate 16 0)), .one (.fz 2 2 (gP (kpF [aM, aS])))], .agg [.ints .u64 4 (zs (wd (expP 23 4 3)))]] [] (.s (.bool true)) [] := by
 have hc := cont_ok 1 Z16 Z16 [aM, aS] wf_2 (by rw [sgk2]; exact ok_1 aM_1 aM_2) (by decide) z16_len z16_len z16_u8 z16_u8
 rw [sgk2] at hc
 have hl := pkB_len (k := 1) (A := Z16) (B := sgT 1 Z16) (E := encL [aM]) z16_len (sgT_len z16_len)
 have ht := (ok_1 aM_1 aM_2).tot
 have h11 : (11 : Nat) < 2 ^ 256 := b11
 have hcl : sgC 23 11 4 3 (pkB 1 Z16 (sgT 1 Z16) (encL [aM])) < 11 := sg0_lt (by decide)
 have hsl : sgS 23 11 4 3 (pkB 1 Z16 (sgT 1 Z16) (encL [aM])) < 11 := Nat.mod_lt _ (by decide)
 have h := signed_y 1 Z16 Z16 [aM, aS] wf_2 23 11 4 b23 b11 b4 (expP 23 4 3) (expP_lt b23) 1 (by decide) (fun k hk => by
   obtain rfl : k = 0 := Nat.lt_one_iff.1 hk
   show decide (aM.1 = 61697) = false
   rw [aM_1]; decide) (by show decide (aS.1 = 61697) = true; rw [aS_1]; decide) (sgC 23 11 4 3 (pkB 1 Z16 (sgT 1 Z16) (encL [aM]))) (sgS 23 11 4 3 (pkB 1 Z16 (sgT 1 Z16) (encL [aM]))) (Nat.lt_trans hcl h11) (Nat.lt_trans hsl h11) (by
     show (sgPc 1 Z16 Z16 [aM] 23 11 4 3).2 = _
     unfold sgPc
     rw [sgk1]) (pkB 1 Z16 (sgT 1 Z16) (encL [aM])) (by omega) (by omega) hc
 have e : ckB 23 11 4 (expP 23 4 3) (asB (strL signedS) [pkB 1 Z16 (sgT 1 Z16) (encL [aM])]) (sgC 23 11 4 3 (pkB 1 Z16 (sgT 1 Z16) (encL [aM]))) (sgS 23 11 4 3 (pkB 1 Z16 (sgT 1 Z16) (encL [aM]))) = true := by unfold sgS sgC; exact small_ck (asB (strL signedS) [pkB 1 Z16 (sgT 1 Z16) (encL [aM])])
 rw [e, eGR] at h
 exact h
attribute [local irreducible] aMb aSb wd
set_option maxRecDepth 100000 in
theorem alive_c : Con Tryz.prog 6 [] [] (.s (.bool true)) [] := alive_w aMb aSb (zs (wd (expP 23 4 3))) al_m al_m2 al_s al_k al_h1 al_h0 al_sd

end Go.Proofs.X
end

section
open Go Go.Bx Go.Proofs
namespace Go.Proofs.X
attribute [local irreducible] be gN ckS encL chk pk0 pkB macS wd sg0 drP asB expP szA secP fineP inP mayP
set_option maxRecDepth 100000 in
set_option maxHeartbeats 4000000 in
theorem th_great (k : Nat) (A B : List Int) (L : List Pc) (p q g a : Nat) (K XK T1 I1 : List Int) (t : Nat) (Bx : List Int) (hgr : Con Tryz.prog 5 [.agg (PKT k A B L)] [] (.s (.bool true)) [])  : Con Tryz.prog 3 [.agg (PKT k A B L), .agg [.ints .u64 4 (zs (wd p)), .ints .u64 4 (zs (wd q)), .ints .u64 4 (zs (wd g)), .ints .u64 4 (zs (wd a)), .ints .u8 32 K, .ints .u64 4 XK], .agg [.ints .u8 16 T1, .ints .u8 32 I1, .one (.int .u16 ((t : Nat) : Int)), .one (.fzi .u8 Bx)]] [] (.s (.bool true)) [] := by
 refine con_in 134 Tryz.func3 rfl rfl (m := 0) rfl ?_
 intro E hP hn hE
 refine w_seq ?_
 refine g_reg hP hn ?_
 refine s_op k_bxf ?_
 refine s_op k_bxf ?_
 refine s_op k_bxf ?_
 refine s_op k_as ?_
 refine s_nil trivial ?_
 refine n_wp ?_
 refine w_seq ?_
 refine w_seq ?_
 refine g_reg hP hn ?_
 refine s_op k_ld ?_
 refine s_op (k_call [] (con := hgr)) ?_
 refine s_op k_mv ?_
 refine s_off rfl rfl rfl ?_
 refine s_off rfl rfl rfl ?_
 refine s_off rfl rfl rfl ?_
 refine s_off rfl rfl rfl ?_
 refine s_off rfl rfl rfl ?_
 refine s_op k_pk ?_
 refine s_nil trivial ?_
 refine n_wp ?_
 refine w_T rfl ?_ 
 refine w_seq ?_
 refine g_reg hP hn ?_
 refine s_op (k_call [] (con := alive_c)) ?_
 refine s_op k_as ?_
 refine s_nil trivial ?_
 refine n_wp ?_
 refine w_ret ?_
 refine r_thn ?_
 exact d_ret hP hn hE [] (by first | exact r_tmp Tryz.results3 | exact r_tmpa Tryz.results3)

set_option maxRecDepth 100000 in
set_option maxHeartbeats 4000000 in
theorem th_big (k : Nat) (A B : List Int) (L : List Pc) (p q g a : Nat) (K XK T1 I1 : List Int) (t : Nat) (Bx : List Int) (hgr : Con Tryz.prog 5 [.agg (PKT k A B L)] [] (.s (.bool false)) []) (hBx : ¬ Bx.length ≤ 3000) : Con Tryz.prog 3 [.agg (PKT k A B L), .agg [.ints .u64 4 (zs (wd p)), .ints .u64 4 (zs (wd q)), .ints .u64 4 (zs (wd g)), .ints .u64 4 (zs (wd a)), .ints .u8 32 K, .ints .u64 4 XK], .agg [.ints .u8 16 T1, .ints .u8 32 I1, .one (.int .u16 ((t : Nat) : Int)), .one (.fzi .u8 Bx)]] [] (.s (.bool true)) [] := by
 refine con_in 134 Tryz.func3 rfl rfl (m := 0) rfl ?_
 intro E hP hn hE
 refine w_seq ?_
 refine g_reg hP hn ?_
 refine s_op k_bxf ?_
 refine s_op k_bxf ?_
 refine s_op k_bxf ?_
 refine s_op k_as ?_
 refine s_nil trivial ?_
 refine n_wp ?_
 refine w_seq ?_
 refine w_seq ?_
 refine g_reg hP hn ?_
 refine s_op k_ld ?_
 refine s_op (k_call [] (con := hgr)) ?_
 refine s_op k_mv ?_
 refine s_on rfl rfl rfl k_fa ?_
 refine s_on rfl rfl rfl k_fa ?_
 refine s_on rfl rfl rfl k_ld ?_
 refine s_on rfl rfl rfl k_len ?_
 refine s_on rfl rfl rfl (l_bin rfl rfl (b_gtr (r := true) (decide_eq_true (by omega)))) ?_
 refine s_op k_pk ?_
 refine s_nil trivial ?_
 refine n_wp ?_
 refine w_T rfl ?_ 
 refine w_seq ?_
 refine g_reg hP hn ?_
 refine s_op (k_call [] (con := alive_c)) ?_
 refine s_op k_as ?_
 refine s_nil trivial ?_
 refine n_wp ?_
 refine w_ret ?_
 refine r_thn ?_
 exact d_ret hP hn hE [] (by first | exact r_tmp Tryz.results3 | exact r_tmpa Tryz.results3)

set_option maxRecDepth 100000 in
set_option maxHeartbeats 4000000 in
theorem th_mac (k : Nat) (A B : List Int) (L : List Pc) (p q g a : Nat) (K XK T1 I1 : List Int) (t : Nat) (Bx : List Int) (hgr : Con Tryz.prog 5 [.agg (PKT k A B L)] [] (.s (.bool false)) []) (hBx : Bx.length ≤ 3000) (e : Int) (he : e ≠ 0) (hm : Con Tryz.prog 7 [.agg (PKT k A B L), .agg [.ints .u8 32 K]] [] (.tup [.agg ZPK, .s (.int .i64 e)]) [])  : Con Tryz.prog 3 [.agg (PKT k A B L), .agg [.ints .u64 4 (zs (wd p)), .ints .u64 4 (zs (wd q)), .ints .u64 4 (zs (wd g)), .ints .u64 4 (zs (wd a)), .ints .u8 32 K, .ints .u64 4 XK], .agg [.ints .u8 16 T1, .ints .u8 32 I1, .one (.int .u16 ((t : Nat) : Int)), .one (.fzi .u8 Bx)]] [] (.s (.bool true)) [] := by
 refine con_in 134 Tryz.func3 rfl rfl (m := 0) rfl ?_
 intro E hP hn hE
 refine w_seq ?_
 refine g_reg hP hn ?_
 refine s_op k_bxf ?_
 refine s_op k_bxf ?_
 refine s_op k_bxf ?_
 refine s_op k_as ?_
 refine s_nil trivial ?_
 refine n_wp ?_
 refine w_seq ?_
 refine w_seq ?_
 refine g_reg hP hn ?_
 refine s_op k_ld ?_
 refine s_op (k_call [] (con := hgr)) ?_
 refine s_op k_mv ?_
 refine s_on rfl rfl rfl k_fa ?_
 refine s_on rfl rfl rfl k_fa ?_
 refine s_on rfl rfl rfl k_ld ?_
 refine s_on rfl rfl rfl k_len ?_
 refine s_on rfl rfl rfl (l_bin rfl rfl (b_gtr (r := false) (decide_eq_false (by omega)))) ?_
 refine s_op k_pk ?_
 refine s_nil trivial ?_
 refine n_wp ?_
 refine w_F rfl ?_ 
 refine w_skip ?_
 refine n_wp ?_
 refine w_seq ?_
 refine g_reg hP hn ?_
 refine s_op k_ld ?_
 refine s_op k_fa ?_
 refine s_op k_ld ?_
 refine s_op (k_call [] (con := hm)) ?_
 refine s_op k_mv ?_
 refine s_op k_ex ?_
 refine s_op k_ex ?_
 refine s_op k_al ?_
 refine s_st k_st ?_
 refine s_op k_as ?_
 refine s_nil trivial ?_
 refine n_wp ?_
 refine w_seq ?_
 refine w_seq ?_
 refine g_reg hP hn ?_
 refine s_op k_mv ?_
 refine s_op (l_bin rfl rfl (b_neq (r := true) (decide_eq_true he))) ?_
 refine s_nil trivial ?_
 refine n_wp ?_
 refine w_T rfl ?_ 
 refine w_seq ?_
 refine g_reg hP hn ?_
 refine s_op (k_call [] (con := alive_c)) ?_
 refine s_op k_as ?_
 refine s_nil trivial ?_
 refine n_wp ?_
 refine w_ret ?_
 refine r_thn ?_
 exact d_ret hP hn hE [] (by first | exact r_tmp Tryz.results3 | exact r_tmpa Tryz.results3)

set_option maxRecDepth 100000 in
set_option maxHeartbeats 4000000 in
theorem th_sgn (k : Nat) (A B : List Int) (L : List Pc) (p q g a : Nat) (K XK T1 I1 : List Int) (t : Nat) (Bx : List Int) (hgr : Con Tryz.prog 5 [.agg (PKT k A B L)] [] (.s (.bool false)) []) (hBx : Bx.length ≤ 3000) (L1 : List Pc) (hm : Con Tryz.prog 7 [.agg (PKT k A B L), .agg [.ints .u8 32 K]] [] (.tup [.agg (PKT k A B L1), .s (.int .i64 0)]) []) (hm2 : Con Tryz.prog 7 [.agg (PKT k A B L1), .agg [.ints .u8 32 K]] [] (.tup [.agg ZPK, .s (.int .i64 8)]) []) (e : Int) (he : e ≠ 0) (hs : Con Tryz.prog 8 [.agg (GRP p q g), .agg (PKT k A B L1), .agg [.ints .u64 4 (zs (wd a))]] [] (.tup [.agg ZPK, .s (.int .i64 e)]) [])  : Con Tryz.prog 3 [.agg (PKT k A B L), .agg [.ints .u64 4 (zs (wd p)), .ints .u64 4 (zs (wd q)), .ints .u64 4 (zs (wd g)), .ints .u64 4 (zs (wd a)), .ints .u8 32 K, .ints .u64 4 XK], .agg [.ints .u8 16 T1, .ints .u8 32 I1, .one (.int .u16 ((t : Nat) : Int)), .one (.fzi .u8 Bx)]] [] (.s (.bool true)) [] := by
 refine con_in 134 Tryz.func3 rfl rfl (m := 0) rfl ?_
 intro E hP hn hE
 refine w_seq ?_
 refine g_reg hP hn ?_
 refine s_op k_bxf ?_
 refine s_op k_bxf ?_
 refine s_op k_bxf ?_
 refine s_op k_as ?_
 refine s_nil trivial ?_
 refine n_wp ?_
 refine w_seq ?_
 refine w_seq ?_
 refine g_reg hP hn ?_
 refine s_op k_ld ?_
 refine s_op (k_call [] (con := hgr)) ?_
 refine s_op k_mv ?_
 refine s_on rfl rfl rfl k_fa ?_
 refine s_on rfl rfl rfl k_fa ?_
 refine s_on rfl rfl rfl k_ld ?_
 refine s_on rfl rfl rfl k_len ?_
 refine s_on rfl rfl rfl (l_bin rfl rfl (b_gtr (r := false) (decide_eq_false (by omega)))) ?_
 refine s_op k_pk ?_
 refine s_nil trivial ?_
 refine n_wp ?_
 refine w_F rfl ?_ 
 refine w_skip ?_
 refine n_wp ?_
 refine w_seq ?_
 refine g_reg hP hn ?_
 refine s_op k_ld ?_
 refine s_op k_fa ?_
 refine s_op k_ld ?_
 refine s_op (k_call [] (con := hm)) ?_
 refine s_op k_mv ?_
 refine s_op k_ex ?_
 refine s_op k_ex ?_
 refine s_op k_al ?_
 refine s_st k_st ?_
 refine s_op k_as ?_
 refine s_nil trivial ?_
 refine n_wp ?_
 refine w_seq ?_
 refine w_seq ?_
 refine g_reg hP hn ?_
 refine s_op k_mv ?_
 refine s_op (l_bin rfl rfl (b_neq (r := false) (decide_eq_false (fun h => h rfl)))) ?_
 refine s_nil trivial ?_
 refine n_wp ?_
 refine w_F rfl ?_ 
 refine w_skip ?_
 refine n_wp ?_
 refine w_seq ?_
 refine g_reg hP hn ?_
 refine s_op k_ld ?_
 refine s_op k_fa ?_
 refine s_op k_ld ?_
 refine s_op (k_call [] (con := hm2)) ?_
 refine s_op k_mv ?_
 refine s_op k_ex ?_
 refine s_op k_ex ?_
 refine s_op k_al ?_
 refine s_st k_st ?_
 refine s_op k_as ?_
 refine s_nil trivial ?_
 refine n_wp ?_
 refine w_seq ?_
 refine g_reg hP hn ?_
 refine s_op k_fa ?_
 refine s_op k_ld ?_
 refine s_op k_ld ?_
 refine s_op k_fa ?_
 refine s_op k_ld ?_
 refine s_op (k_call [] (con := hs)) ?_
 refine s_op k_mv ?_
 refine s_op k_ex ?_
 refine s_op k_ex ?_
 refine s_op k_al ?_
 refine s_st k_st ?_
 refine s_op k_as ?_
 refine s_nil trivial ?_
 refine n_wp ?_
 refine w_seq ?_
 refine w_seq ?_
 refine g_reg hP hn ?_
 refine s_op k_mv ?_
 refine s_op (l_bin rfl rfl (b_neq (r := false) (decide_eq_false (fun h => h rfl)))) ?_
 refine s_op k_mv ?_
 refine s_on rfl rfl rfl k_mv ?_
 refine s_on rfl rfl rfl (l_bin rfl rfl (b_neq (r := true) (decide_eq_true he))) ?_
 refine s_op k_pk ?_
 refine s_nil trivial ?_
 refine n_wp ?_
 refine w_T rfl ?_ 
 refine w_seq ?_
 refine g_reg hP hn ?_
 refine s_op (k_call [] (con := alive_c)) ?_
 refine s_op k_mv ?_
 refine s_on rfl rfl rfl k_mv ?_
 refine s_on rfl rfl rfl (l_bin rfl rfl (b_eql (r := true) (decide_eq_true rfl))) ?_
 refine s_op k_pk ?_
 refine s_op k_as ?_
 refine s_nil trivial ?_
 refine n_wp ?_
 refine w_ret ?_
 refine r_thn ?_
 exact d_ret hP hn hE [] (by first | exact r_tmp Tryz.results3 | exact r_tmpa Tryz.results3)

set_option maxRecDepth 100000 in
set_option maxHeartbeats 4000000 in
theorem th_with (k : Nat) (A B : List Int) (L : List Pc) (p q g a : Nat) (K XK T1 I1 : List Int) (t : Nat) (Bx : List Int) (hgr : Con Tryz.prog 5 [.agg (PKT k A B L)] [] (.s (.bool false)) []) (hBx : Bx.length ≤ 3000) (L1 : List Pc) (hm : Con Tryz.prog 7 [.agg (PKT k A B L), .agg [.ints .u8 32 K]] [] (.tup [.agg (PKT k A B L1), .s (.int .i64 0)]) []) (hm2 : Con Tryz.prog 7 [.agg (PKT k A B L1), .agg [.ints .u8 32 K]] [] (.tup [.agg ZPK, .s (.int .i64 8)]) []) (L2 : List Pc) (hs : Con Tryz.prog 8 [.agg (GRP p q g), .agg (PKT k A B L1), .agg [.ints .u64 4 (zs (wd a))]] [] (.tup [.agg (PKT k A B L2), .s (.int .i64 0)]) []) (hs2 : Con Tryz.prog 8 [.agg (GRP p q g), .agg (PKT k A B L2), .agg [.ints .u64 4 (zs (wd a))]] [] (.tup [.agg ZPK, .s (.int .i64 8)]) []) (hm3 : Con Tryz.prog 7 [.agg (PKT k A B L2), .agg [.ints .u8 32 K]] [] (.tup [.agg ZPK, .s (.int .i64 8)]) []) (e : Int) (he : e ≠ 0) (hwi : Con Tryz.prog 9 [.s (PARS L2), .agg (PR (t, Bx))] [] (.tup [.s .nils, .s (.int .i64 e)]) [])  : Con Tryz.prog 3 [.agg (PKT k A B L), .agg [.ints .u64 4 (zs (wd p)), .ints .u64 4 (zs (wd q)), .ints .u64 4 (zs (wd g)), .ints .u64 4 (zs (wd a)), .ints .u8 32 K, .ints .u64 4 XK], .agg [.ints .u8 16 T1, .ints .u8 32 I1, .one (.int .u16 ((t : Nat) : Int)), .one (.fzi .u8 Bx)]] [] (.s (.bool true)) [] := by
 refine con_in 134 Tryz.func3 rfl rfl (m := 0) rfl ?_
 intro E hP hn hE
 refine w_seq ?_
 refine g_reg hP hn ?_
 refine s_op k_bxf ?_
 refine s_op k_bxf ?_
 refine s_op k_bxf ?_
 refine s_op k_as ?_
 refine s_nil trivial ?_
 refine n_wp ?_
 refine w_seq ?_
 refine w_seq ?_
 refine g_reg hP hn ?_
 refine s_op k_ld ?_
 refine s_op (k_call [] (con := hgr)) ?_
 refine s_op k_mv ?_
 refine s_on rfl rfl rfl k_fa ?_
 refine s_on rfl rfl rfl k_fa ?_
 refine s_on rfl rfl rfl k_ld ?_
 refine s_on rfl rfl rfl k_len ?_
 refine s_on rfl rfl rfl (l_bin rfl rfl (b_gtr (r := false) (decide_eq_false (by omega)))) ?_
 refine s_op k_pk ?_
 refine s_nil trivial ?_
 refine n_wp ?_
 refine w_F rfl ?_ 
 refine w_skip ?_
 refine n_wp ?_
 refine w_seq ?_
 refine g_reg hP hn ?_
 refine s_op k_ld ?_
 refine s_op k_fa ?_
 refine s_op k_ld ?_
 refine s_op (k_call [] (con := hm)) ?_
 refine s_op k_mv ?_
 refine s_op k_ex ?_
 refine s_op k_ex ?_
 refine s_op k_al ?_
 refine s_st k_st ?_
 refine s_op k_as ?_
 refine s_nil trivial ?_
 refine n_wp ?_
 refine w_seq ?_
 refine w_seq ?_
 refine g_reg hP hn ?_
 refine s_op k_mv ?_
 refine s_op (l_bin rfl rfl (b_neq (r := false) (decide_eq_false (fun h => h rfl)))) ?_
 refine s_nil trivial ?_
 refine n_wp ?_
 refine w_F rfl ?_ 
 refine w_skip ?_
 refine n_wp ?_
 refine w_seq ?_
 refine g_reg hP hn ?_
 refine s_op k_ld ?_
 refine s_op k_fa ?_
 refine s_op k_ld ?_
 refine s_op (k_call [] (con := hm2)) ?_
 refine s_op k_mv ?_
 refine s_op k_ex ?_
 refine s_op k_ex ?_
 refine s_op k_al ?_
 refine s_st k_st ?_
 refine s_op k_as ?_
 refine s_nil trivial ?_
 refine n_wp ?_
 refine w_seq ?_
 refine g_reg hP hn ?_
 refine s_op k_fa ?_
 refine s_op k_ld ?_
 refine s_op k_ld ?_
 refine s_op k_fa ?_
 refine s_op k_ld ?_
 refine s_op (k_call [] (con := hs)) ?_
 refine s_op k_mv ?_
 refine s_op k_ex ?_
 refine s_op k_ex ?_
 refine s_op k_al ?_
 refine s_st k_st ?_
 refine s_op k_as ?_
 refine s_nil trivial ?_
 refine n_wp ?_
 refine w_seq ?_
 refine w_seq ?_
 refine g_reg hP hn ?_
 refine s_op k_mv ?_
 refine s_op (l_bin rfl rfl (b_neq (r := false) (decide_eq_false (fun h => h rfl)))) ?_
 refine s_op k_mv ?_
 refine s_on rfl rfl rfl k_mv ?_
 refine s_on rfl rfl rfl (l_bin rfl rfl (b_neq (r := false) (decide_eq_false (fun h => h rfl)))) ?_
 refine s_op k_pk ?_
 refine s_nil trivial ?_
 refine n_wp ?_
 refine w_F rfl ?_ 
 refine w_skip ?_
 refine n_wp ?_
 refine w_seq ?_
 refine g_reg hP hn ?_
 refine s_op k_fa ?_
 refine s_op k_ld ?_
 refine s_op k_ld ?_
 refine s_op k_fa ?_
 refine s_op k_ld ?_
 refine s_op (k_call [] (con := hs2)) ?_
 refine s_op k_mv ?_
 refine s_op k_ex ?_
 refine s_op k_ex ?_
 refine s_op k_al ?_
 refine s_st k_st ?_
 refine s_op k_as ?_
 refine s_nil trivial ?_
 refine n_wp ?_
 refine w_seq ?_
 refine g_reg hP hn ?_
 refine s_op k_ld ?_
 refine s_op k_fa ?_
 refine s_op k_ld ?_
 refine s_op (k_call [] (con := hm3)) ?_
 refine s_op k_mv ?_
 refine s_op k_ex ?_
 refine s_op k_ex ?_
 refine s_op k_al ?_
 refine s_st k_st ?_
 refine s_op k_as ?_
 refine s_nil trivial ?_
 refine n_wp ?_
 refine w_seq ?_
 refine w_seq ?_
 refine g_reg hP hn ?_
 refine s_op k_mv ?_
 refine s_op (l_bin rfl rfl (b_neq (r := false) (decide_eq_false (fun h => h rfl)))) ?_
 refine s_op k_mv ?_
 refine s_on rfl rfl rfl k_mv ?_
 refine s_on rfl rfl rfl (l_bin rfl rfl (b_neq (r := false) (decide_eq_false (fun h => h rfl)))) ?_
 refine s_op k_pk ?_
 refine s_nil trivial ?_
 refine n_wp ?_
 refine w_F rfl ?_ 
 refine w_skip ?_
 refine n_wp ?_
 refine w_seq ?_
 refine g_reg hP hn ?_
 refine s_op k_fa ?_
 refine s_op k_ld ?_
 refine s_op k_fa ?_
 refine s_op k_ld ?_
 refine s_op (k_call [] (con := hwi)) ?_
 refine s_op k_mv ?_
 refine s_op k_ex ?_
 refine s_op k_ex ?_
 refine s_op k_as ?_
 refine s_op k_as ?_
 refine s_nil trivial ?_
 refine n_wp ?_
 refine w_seq ?_
 refine w_seq ?_
 refine g_reg hP hn ?_
 refine s_op k_mv ?_
 refine s_op (l_bin rfl rfl (b_neq (r := true) (decide_eq_true he))) ?_
 refine s_nil trivial ?_
 refine n_wp ?_
 refine w_T rfl ?_ 
 refine w_seq ?_
 refine g_reg hP hn ?_
 refine s_op (k_call [] (con := alive_c)) ?_
 refine s_op k_as ?_
 refine s_nil trivial ?_
 refine n_wp ?_
 refine w_ret ?_
 refine r_thn ?_
 exact d_ret hP hn hE [] (by first | exact r_tmp Tryz.results3 | exact r_tmpa Tryz.results3)

set_option maxRecDepth 100000 in
set_option maxHeartbeats 4000000 in
theorem th_cont (k : Nat) (A B : List Int) (L : List Pc) (p q g a : Nat) (K XK T1 I1 : List Int) (t : Nat) (Bx : List Int) (hgr : Con Tryz.prog 5 [.agg (PKT k A B L)] [] (.s (.bool false)) []) (hBx : Bx.length ≤ 3000) (L1 : List Pc) (hm : Con Tryz.prog 7 [.agg (PKT k A B L), .agg [.ints .u8 32 K]] [] (.tup [.agg (PKT k A B L1), .s (.int .i64 0)]) []) (hm2 : Con Tryz.prog 7 [.agg (PKT k A B L1), .agg [.ints .u8 32 K]] [] (.tup [.agg ZPK, .s (.int .i64 8)]) []) (L2 : List Pc) (hs : Con Tryz.prog 8 [.agg (GRP p q g), .agg (PKT k A B L1), .agg [.ints .u64 4 (zs (wd a))]] [] (.tup [.agg (PKT k A B L2), .s (.int .i64 0)]) []) (hs2 : Con Tryz.prog 8 [.agg (GRP p q g), .agg (PKT k A B L2), .agg [.ints .u64 4 (zs (wd a))]] [] (.tup [.agg ZPK, .s (.int .i64 8)]) []) (hm3 : Con Tryz.prog 7 [.agg (PKT k A B L2), .agg [.ints .u8 32 K]] [] (.tup [.agg ZPK, .s (.int .i64 8)]) []) (n : Nat) (F : Nat → Pc) (hwi : Con Tryz.prog 9 [.s (PARS L2), .agg (PR (t, Bx))] [] (.tup [.s (.fz n 2 (gP F)), .s (.int .i64 0)]) []) (Y : List Int) (hc1 : Con Tryz.prog 10 [.agg (PKT k A B L2)] [] (.tup [.s (.fzi .u8 Y), .s (.int .i64 0)]) []) (e : Int) (he : e ≠ 0) (hc2 : Con Tryz.prog 10 [.agg (PKN k A B n F)] [] (.tup [.s .nils, .s (.int .i64 e)]) [])  : Con Tryz.prog 3 [.agg (PKT k A B L), .agg [.ints .u64 4 (zs (wd p)), .ints .u64 4 (zs (wd q)), .ints .u64 4 (zs (wd g)), .ints .u64 4 (zs (wd a)), .ints .u8 32 K, .ints .u64 4 XK], .agg [.ints .u8 16 T1, .ints .u8 32 I1, .one (.int .u16 ((t : Nat) : Int)), .one (.fzi .u8 Bx)]] [] (.s (.bool true)) [] := by
 refine con_in 134 Tryz.func3 rfl rfl (m := 0) rfl ?_
 intro E hP hn hE
 refine w_seq ?_
 refine g_reg hP hn ?_
 refine s_op k_bxf ?_
 refine s_op k_bxf ?_
 refine s_op k_bxf ?_
 refine s_op k_as ?_
 refine s_nil trivial ?_
 refine n_wp ?_
 refine w_seq ?_
 refine w_seq ?_
 refine g_reg hP hn ?_
 refine s_op k_ld ?_
 refine s_op (k_call [] (con := hgr)) ?_
 refine s_op k_mv ?_
 refine s_on rfl rfl rfl k_fa ?_
 refine s_on rfl rfl rfl k_fa ?_
 refine s_on rfl rfl rfl k_ld ?_
 refine s_on rfl rfl rfl k_len ?_
 refine s_on rfl rfl rfl (l_bin rfl rfl (b_gtr (r := false) (decide_eq_false (by omega)))) ?_
 refine s_op k_pk ?_
 refine s_nil trivial ?_
 refine n_wp ?_
 refine w_F rfl ?_ 
 refine w_skip ?_
 refine n_wp ?_
 refine w_seq ?_
 refine g_reg hP hn ?_
 refine s_op k_ld ?_
 refine s_op k_fa ?_
 refine s_op k_ld ?_
 refine s_op (k_call [] (con := hm)) ?_
 refine s_op k_mv ?_
 refine s_op k_ex ?_
 refine s_op k_ex ?_
 refine s_op k_al ?_
 refine s_st k_st ?_
 refine s_op k_as ?_
 refine s_nil trivial ?_
 refine n_wp ?_
 refine w_seq ?_
 refine w_seq ?_
 refine g_reg hP hn ?_
 refine s_op k_mv ?_
 refine s_op (l_bin rfl rfl (b_neq (r := false) (decide_eq_false (fun h => h rfl)))) ?_
 refine s_nil trivial ?_
 refine n_wp ?_
 refine w_F rfl ?_ 
 refine w_skip ?_
 refine n_wp ?_
 refine w_seq ?_
 refine g_reg hP hn ?_
 refine s_op k_ld ?_
 refine s_op k_fa ?_
 refine s_op k_ld ?_
 refine s_op (k_call [] (con := hm2)) ?_
 refine s_op k_mv ?_
 refine s_op k_ex ?_
 refine s_op k_ex ?_
 refine s_op k_al ?_
 refine s_st k_st ?_
 refine s_op k_as ?_
 refine s_nil trivial ?_
 refine n_wp ?_
 refine w_seq ?_
 refine g_reg hP hn ?_
 refine s_op k_fa ?_
 refine s_op k_ld ?_
 refine s_op k_ld ?_
 refine s_op k_fa ?_
 refine s_op k_ld ?_
 refine s_op (k_call [] (con := hs)) ?_
 refine s_op k_mv ?_
 refine s_op k_ex ?_
 refine s_op k_ex ?_
 refine s_op k_al ?_
 refine s_st k_st ?_
 refine s_op k_as ?_
 refine s_nil trivial ?_
 refine n_wp ?_
 refine w_seq ?_
 refine w_seq ?_
 refine g_reg hP hn ?_
 refine s_op k_mv ?_
 refine s_op (l_bin rfl rfl (b_neq (r := false) (decide_eq_false (fun h => h rfl)))) ?_
 refine s_op k_mv ?_
 refine s_on rfl rfl rfl k_mv ?_
 refine s_on rfl rfl rfl (l_bin rfl rfl (b_neq (r := false) (decide_eq_false (fun h => h rfl)))) ?_
 refine s_op k_pk ?_
 refine s_nil trivial ?_
 refine n_wp ?_
 refine w_F rfl ?_ 
 refine w_skip ?_
 refine n_wp ?_
 refine w_seq ?_
 refine g_reg hP hn ?_
 refine s_op k_fa ?_
 refine s_op k_ld ?_
 refine s_op k_ld ?_
 refine s_op k_fa ?_
 refine s_op k_ld ?_
 refine s_op (k_call [] (con := hs2)) ?_
 refine s_op k_mv ?_
 refine s_op k_ex ?_
 refine s_op k_ex ?_
 refine s_op k_al ?_
 refine s_st k_st ?_
 refine s_op k_as ?_
 refine s_nil trivial ?_
 refine n_wp ?_
 refine w_seq ?_
 refine g_reg hP hn ?_
 refine s_op k_ld ?_
 refine s_op k_fa ?_
 refine s_op k_ld ?_
 refine s_op (k_call [] (con := hm3)) ?_
 refine s_op k_mv ?_
 refine s_op k_ex ?_
 refine s_op k_ex ?_
 refine s_op k_al ?_
 refine s_st k_st ?_
 refine s_op k_as ?_
 refine s_nil trivial ?_
 refine n_wp ?_
 refine w_seq ?_
 refine w_seq ?_
 refine g_reg hP hn ?_
 refine s_op k_mv ?_
 refine s_op (l_bin rfl rfl (b_neq (r := false) (decide_eq_false (fun h => h rfl)))) ?_
 refine s_op k_mv ?_
 refine s_on rfl rfl rfl k_mv ?_
 refine s_on rfl rfl rfl (l_bin rfl rfl (b_neq (r := false) (decide_eq_false (fun h => h rfl)))) ?_
 refine s_op k_pk ?_
 refine s_nil trivial ?_
 refine n_wp ?_
 refine w_F rfl ?_ 
 refine w_skip ?_
 refine n_wp ?_
 refine w_seq ?_
 refine g_reg hP hn ?_
 refine s_op k_fa ?_
 refine s_op k_ld ?_
 refine s_op k_fa ?_
 refine s_op k_ld ?_
 refine s_op (k_call [] (con := hwi)) ?_
 refine s_op k_mv ?_
 refine s_op k_ex ?_
 refine s_op k_ex ?_
 refine s_op k_as ?_
 refine s_op k_as ?_
 refine s_nil trivial ?_
 refine n_wp ?_
 refine w_seq ?_
 refine w_seq ?_
 refine g_reg hP hn ?_
 refine s_op k_mv ?_
 refine s_op (l_bin rfl rfl (b_neq (r := false) (decide_eq_false (fun h => h rfl)))) ?_
 refine s_nil trivial ?_
 refine n_wp ?_
 refine w_F rfl ?_ 
 refine w_skip ?_
 refine n_wp ?_
 refine w_seq ?_
 refine g_reg hP hn ?_
 refine s_op k_ld ?_
 refine s_op k_al ?_
 refine s_st k_st ?_
 refine s_nil trivial ?_
 refine n_wp ?_
 refine w_seq ?_
 refine g_reg hP hn ?_
 refine s_op k_mv ?_
 refine s_op k_fa ?_
 refine s_st k_st ?_
 refine s_nil trivial ?_
 refine n_wp ?_
 refine w_seq ?_
 refine g_reg hP hn ?_
 refine s_op k_ld ?_
 refine s_op (k_call [] (con := hc1)) ?_
 refine s_op k_mv ?_
 refine s_op k_ex ?_
 refine s_op k_ex ?_
 refine s_op k_as ?_
 refine s_op k_as ?_
 refine s_nil trivial ?_
 refine n_wp ?_
 refine w_seq ?_
 refine g_reg hP hn ?_
 refine s_op k_ld ?_
 refine s_op (k_call [] (con := hc2)) ?_
 refine s_op k_mv ?_
 refine s_op k_ex ?_
 refine s_op k_ex ?_
 refine s_op k_as ?_
 refine s_op k_as ?_
 refine s_nil trivial ?_
 refine n_wp ?_
 refine w_seq ?_
 refine g_any hP hn ?_
 refine s_op (k_call [] (con := alive_c)) ?_
 refine s_op k_mv ?_
 refine s_on rfl rfl rfl k_mv ?_
 refine s_on rfl rfl rfl (l_bin rfl rfl (b_eql (r := true) (decide_eq_true rfl))) ?_
 refine s_op k_pk ?_
 refine s_op k_mv ?_
 refine s_on rfl rfl rfl k_mv ?_
 refine s_on rfl rfl rfl (l_bin rfl rfl (b_neq (r := true) (decide_eq_true he))) ?_
 refine s_on rfl rfl rfl k_mv ?_
 refine s_off rfl rfl rfl ?_
 refine s_off rfl rfl rfl ?_
 refine s_off rfl rfl rfl ?_
 refine s_off rfl rfl rfl ?_
 refine s_off rfl rfl rfl ?_
 refine s_off rfl rfl rfl ?_
 refine s_off rfl rfl rfl ?_
 refine s_off rfl rfl rfl ?_
 refine s_on rfl rfl rfl k_pk ?_
 refine s_op k_pk ?_
 refine s_op k_as ?_
 refine s_nil (by kernel_rfl) ?_
 refine n_wp ?_
 refine w_ret ?_
 exact d_ret hP hn hE [] (by first | exact r_tmp Tryz.results3 | exact r_tmpa Tryz.results3)

set_option maxRecDepth 100000 in
set_option maxHeartbeats 4000000 in
theorem th_y (k : Nat) (A B : List Int) (L : List Pc) (p q g a : Nat) (K XK T1 I1 : List Int) (t : Nat) (Bx : List Int) (hgr : Con Tryz.prog 5 [.agg (PKT k A B L)] [] (.s (.bool false)) []) (hBx : Bx.length ≤ 3000) (L1 : List Pc) (hm : Con Tryz.prog 7 [.agg (PKT k A B L), .agg [.ints .u8 32 K]] [] (.tup [.agg (PKT k A B L1), .s (.int .i64 0)]) []) (hm2 : Con Tryz.prog 7 [.agg (PKT k A B L1), .agg [.ints .u8 32 K]] [] (.tup [.agg ZPK, .s (.int .i64 8)]) []) (L2 : List Pc) (hs : Con Tryz.prog 8 [.agg (GRP p q g), .agg (PKT k A B L1), .agg [.ints .u64 4 (zs (wd a))]] [] (.tup [.agg (PKT k A B L2), .s (.int .i64 0)]) []) (hs2 : Con Tryz.prog 8 [.agg (GRP p q g), .agg (PKT k A B L2), .agg [.ints .u64 4 (zs (wd a))]] [] (.tup [.agg ZPK, .s (.int .i64 8)]) []) (hm3 : Con Tryz.prog 7 [.agg (PKT k A B L2), .agg [.ints .u8 32 K]] [] (.tup [.agg ZPK, .s (.int .i64 8)]) []) (n : Nat) (F : Nat → Pc) (hwi : Con Tryz.prog 9 [.s (PARS L2), .agg (PR (t, Bx))] [] (.tup [.s (.fz n 2 (gP F)), .s (.int .i64 0)]) []) (Y : List Int) (hc1 : Con Tryz.prog 10 [.agg (PKT k A B L2)] [] (.tup [.s (.fzi .u8 Y), .s (.int .i64 0)]) []) (Y2 : List Int) (hc2 : Con Tryz.prog 10 [.agg (PKN k A B n F)] [] (.tup [.s (.fzi .u8 Y2), .s (.int .i64 0)]) []) (b : Bool) (hsb : Con Tryz.prog 11 [.s (.fzi .u8 Y), .s (.fzi .u8 Y2)] [] (.s (.bool b)) []) (hb : b = decide (61697 ≤ t)) : Con Tryz.prog 3 [.agg (PKT k A B L), .agg [.ints .u64 4 (zs (wd p)), .ints .u64 4 (zs (wd q)), .ints .u64 4 (zs (wd g)), .ints .u64 4 (zs (wd a)), .ints .u8 32 K, .ints .u64 4 XK], .agg [.ints .u8 16 T1, .ints .u8 32 I1, .one (.int .u16 ((t : Nat) : Int)), .one (.fzi .u8 Bx)]] [] (.s (.bool true)) [] := by
 refine con_in 134 Tryz.func3 rfl rfl (m := 0) rfl ?_
 intro E hP hn hE
 refine w_seq ?_
 refine g_reg hP hn ?_
 refine s_op k_bxf ?_
 refine s_op k_bxf ?_
 refine s_op k_bxf ?_
 refine s_op k_as ?_
 refine s_nil trivial ?_
 refine n_wp ?_
 refine w_seq ?_
 refine w_seq ?_
 refine g_reg hP hn ?_
 refine s_op k_ld ?_
 refine s_op (k_call [] (con := hgr)) ?_
 refine s_op k_mv ?_
 refine s_on rfl rfl rfl k_fa ?_
 refine s_on rfl rfl rfl k_fa ?_
 refine s_on rfl rfl rfl k_ld ?_
 refine s_on rfl rfl rfl k_len ?_
 refine s_on rfl rfl rfl (l_bin rfl rfl (b_gtr (r := false) (decide_eq_false (by omega)))) ?_
 refine s_op k_pk ?_
 refine s_nil trivial ?_
 refine n_wp ?_
 refine w_F rfl ?_ 
 refine w_skip ?_
 refine n_wp ?_
 refine w_seq ?_
 refine g_reg hP hn ?_
 refine s_op k_ld ?_
 refine s_op k_fa ?_
 refine s_op k_ld ?_
 refine s_op (k_call [] (con := hm)) ?_
 refine s_op k_mv ?_
 refine s_op k_ex ?_
 refine s_op k_ex ?_
 refine s_op k_al ?_
 refine s_st k_st ?_
 refine s_op k_as ?_
 refine s_nil trivial ?_
 refine n_wp ?_
 refine w_seq ?_
 refine w_seq ?_
 refine g_reg hP hn ?_
 refine s_op k_mv ?_
 refine s_op (l_bin rfl rfl (b_neq (r := false) (decide_eq_false (fun h => h rfl)))) ?_
 refine s_nil trivial ?_
 refine n_wp ?_
 refine w_F rfl ?_ 
 refine w_skip ?_
 refine n_wp ?_
 refine w_seq ?_
 refine g_reg hP hn ?_
 refine s_op k_ld ?_
 refine s_op k_fa ?_
 refine s_op k_ld ?_
 refine s_op (k_call [] (con := hm2)) ?_
 refine s_op k_mv ?_
 refine s_op k_ex ?_
 refine s_op k_ex ?_
 refine s_op k_al ?_
 refine s_st k_st ?_
 refine s_op k_as ?_
 refine s_nil trivial ?_
 refine n_wp ?_
 refine w_seq ?_
 refine g_reg hP hn ?_
 refine s_op k_fa ?_
 refine s_op k_ld ?_
 refine s_op k_ld ?_
 refine s_op k_fa ?_
 refine s_op k_ld ?_
 refine s_op (k_call [] (con := hs)) ?_
 refine s_op k_mv ?_
 refine s_op k_ex ?_
 refine s_op k_ex ?_
 refine s_op k_al ?_
 refine s_st k_st ?_
 refine s_op k_as ?_
 refine s_nil trivial ?_
 refine n_wp ?_
 refine w_seq ?_
 refine w_seq ?_
 refine g_reg hP hn ?_
 refine s_op k_mv ?_
 refine s_op (l_bin rfl rfl (b_neq (r := false) (decide_eq_false (fun h => h rfl)))) ?_
 refine s_op k_mv ?_
 refine s_on rfl rfl rfl k_mv ?_
 refine s_on rfl rfl rfl (l_bin rfl rfl (b_neq (r := false) (decide_eq_false (fun h => h rfl)))) ?_
 refine s_op k_pk ?_
 refine s_nil trivial ?_
 refine n_wp ?_
 refine w_F rfl ?_ 
 refine w_skip ?_
 refine n_wp ?_
 refine w_seq ?_
 refine g_reg hP hn ?_
 refine s_op k_fa ?_
 refine s_op k_ld ?_
 refine s_op k_ld ?_
 refine s_op k_fa ?_
 refine s_op k_ld ?_
 refine s_op (k_call [] (con := hs2)) ?_
 refine s_op k_mv ?_
 refine s_op k_ex ?_
 refine s_op k_ex ?_
 refine s_op k_al ?_
 refine s_st k_st ?_
 refine s_op k_as ?_
 refine s_nil trivial ?_
 refine n_wp ?_
 refine w_seq ?_
 refine g_reg hP hn ?_
 refine s_op k_ld ?_
 refine s_op k_fa ?_
 refine s_op k_ld ?_
 refine s_op (k_call [] (con := hm3)) ?_
 refine s_op k_mv ?_
 refine s_op k_ex ?_
 refine s_op k_ex ?_
 refine s_op k_al ?_
 refine s_st k_st ?_
 refine s_op k_as ?_
 refine s_nil trivial ?_
 refine n_wp ?_
 refine w_seq ?_
 refine w_seq ?_
 refine g_reg hP hn ?_
 refine s_op k_mv ?_
 refine s_op (l_bin rfl rfl (b_neq (r := false) (decide_eq_false (fun h => h rfl)))) ?_
 refine s_op k_mv ?_
 refine s_on rfl rfl rfl k_mv ?_
 refine s_on rfl rfl rfl (l_bin rfl rfl (b_neq (r := false) (decide_eq_false (fun h => h rfl)))) ?_
 refine s_op k_pk ?_
 refine s_nil trivial ?_
 refine n_wp ?_
 refine w_F rfl ?_ 
 refine w_skip ?_
 refine n_wp ?_
 refine w_seq ?_
 refine g_reg hP hn ?_
 refine s_op k_fa ?_
 refine s_op k_ld ?_
 refine s_op k_fa ?_
 refine s_op k_ld ?_
 refine s_op (k_call [] (con := hwi)) ?_
 refine s_op k_mv ?_
 refine s_op k_ex ?_
 refine s_op k_ex ?_
 refine s_op k_as ?_
 refine s_op k_as ?_
 refine s_nil trivial ?_
 refine n_wp ?_
 refine w_seq ?_
 refine w_seq ?_
 refine g_reg hP hn ?_
 refine s_op k_mv ?_
 refine s_op (l_bin rfl rfl (b_neq (r := false) (decide_eq_false (fun h => h rfl)))) ?_
 refine s_nil trivial ?_
 refine n_wp ?_
 refine w_F rfl ?_ 
 refine w_skip ?_
 refine n_wp ?_
 refine w_seq ?_
 refine g_reg hP hn ?_
 refine s_op k_ld ?_
 refine s_op k_al ?_
 refine s_st k_st ?_
 refine s_nil trivial ?_
 refine n_wp ?_
 refine w_seq ?_
 refine g_reg hP hn ?_
 refine s_op k_mv ?_
 refine s_op k_fa ?_
 refine s_st k_st ?_
 refine s_nil trivial ?_
 refine n_wp ?_
 refine w_seq ?_
 refine g_reg hP hn ?_
 refine s_op k_ld ?_
 refine s_op (k_call [] (con := hc1)) ?_
 refine s_op k_mv ?_
 refine s_op k_ex ?_
 refine s_op k_ex ?_
 refine s_op k_as ?_
 refine s_op k_as ?_
 refine s_nil trivial ?_
 refine n_wp ?_
 refine w_seq ?_
 refine g_reg hP hn ?_
 refine s_op k_ld ?_
 refine s_op (k_call [] (con := hc2)) ?_
 refine s_op k_mv ?_
 refine s_op k_ex ?_
 refine s_op k_ex ?_
 refine s_op k_as ?_
 refine s_op k_as ?_
 refine s_nil trivial ?_
 refine n_wp ?_
 refine w_seq ?_
 refine g_any hP hn ?_
 refine s_op (k_call [] (con := alive_c)) ?_
 refine s_op k_mv ?_
 refine s_on rfl rfl rfl k_mv ?_
 refine s_on rfl rfl rfl (l_bin rfl rfl (b_eql (r := true) (decide_eq_true rfl))) ?_
 refine s_op k_pk ?_
 refine s_op k_mv ?_
 refine s_on rfl rfl rfl k_mv ?_
 refine s_on rfl rfl rfl (l_bin rfl rfl (b_neq (r := false) (decide_eq_false (fun h => h rfl)))) ?_
 refine s_on rfl rfl rfl k_mv ?_
 refine s_on rfl rfl rfl k_mv ?_
 refine s_on rfl rfl rfl k_mv ?_
 refine s_on rfl rfl rfl (k_call [] (con := hsb)) ?_
 refine s_on rfl rfl rfl k_fa ?_
 refine s_on rfl rfl rfl k_fa ?_
 refine s_on rfl rfl rfl k_ld ?_
 refine s_on rfl rfl rfl k_geq ?_
 refine s_on rfl rfl rfl k_eql ?_
 refine s_on rfl rfl rfl k_pk ?_
 refine s_op k_pk ?_
 refine s_op k_as ?_
 refine s_nil (by kernel_rfl) ?_
 refine n_wp ?_
 subst hb
 rw [show (decide (61697 ≤ t) == decide (61697 ≤ t)) = true from beq_self_eq_true _]
 refine w_ret ?_
 exact d_ret hP hn hE [] (by first | exact r_tmp Tryz.results3 | exact r_tmpa Tryz.results3)

end Go.Proofs.X
end

section
/- What comes in, told as values: with the bounds that its size gives. No program. -/
namespace Go.Bx
open Go.ChangeShapes Go.WideShapes
section
variable {Hh : Type} {enc : TypeId × Value → Hh} {P : Program} {w : World} {base : Nat} {spare : Nat → Bool} {held : Bool}
/-- A type's cells, as segments of a shape, where all is of a size that memory bears. -/
def OpZ (enc : TypeId × Value → Hh) (P : Program) (w : World) (base : Nat) (spare : Nat → Bool) (held : Bool) (t : TypeId) (n : Nat) (S : List Seg → Prop) : Prop :=
  P.cellsOf t = n ∧ ∀ (fuel : Nat) (cs : List Value) (x : DataW Hh × List MemPlace), DataW.trod enc P w base spare held fuel t cs = some x → (∀ q ∈ x.1.weights P t, q ≤ reachBytes) → ∃ segs, S segs ∧ sizeS segs = n ∧ RowRep (rhoW w) segs (fun i => cs[i]?)
theorem Op.z {t : TypeId} {n : Nat} {S : List Seg → Prop} (h : Op enc P w base spare held t n S) : OpZ enc P w base spare held t n S := ⟨h.1, fun fuel cs x hx _ => h.2 fuel cs x hx⟩
def mxB : Nat := 140737488351232
def shIntsZ (k : IntKind) : List Seg → Prop := fun s => ∃ l : List Int, l.length ≤ mxB ∧ (∀ y ∈ l, (Lit.int k y).wf = true) ∧ s = [.one (.fzi k l)]
def shRowsZ (wd : Nat) (S : List Seg → Prop) : List Seg → Prop := fun s => ∃ (n : Nat) (rows : Nat → List Seg), n ≤ mxB ∧ (∀ i, i < n → S (rows i) ∧ sizeS (rows i) = wd) ∧ s = [.one (.fz n wd (rowsF rows))]
theorem weights_all : ∀ {ds : List (DataW Hh)} {i : Nat} {e : TypeId} {d : DataW Hh}, ds[i]? = some d → ∀ n ∈ d.weights P e, n ∈ DataW.weightsAll P e ds
  | d0 :: ds, 0, e, d, hd, n, hn => by
    simp only [List.getElem?_cons_zero, Option.some.injEq] at hd
    subst hd
    simp only [DataW.weightsAll, List.mem_append]
    exact Or.inl hn
  | d0 :: ds, i + 1, e, d, hd, n, hn => by
    simp only [List.getElem?_cons_succ] at hd
    simp only [DataW.weightsAll, List.mem_append]
    exact Or.inr (weights_all hd n hn)
  | [], _, _, _, hd, _, _ => by simp at hd
theorem opZ_struct {t : TypeId} {fs : Array Field} (Ss : List (Nat × (List Seg → Prop))) (ht : P.underlying t = some (.struct fs)) (hct : P.cellsOf t = total Ss) (hlen : fs.size = Ss.length) (h : ∀ i f n S, fs[i]? = some f → Ss[i]? = some (n, S) → f.offset = total (Ss.take i) ∧ OpZ enc P w base spare held f.type n S) : OpZ enc P w base spare held t (total Ss) (shCat Ss) :=
  ⟨hct, fun fuel cs x hx hz => by
    obtain ⟨xs, n, _, hxe, hl, hxl, hall⟩ := DataW.trod_struct ht hx
    refine cat_rep fun i m S hi => ?_
    have hil : i < fs.size := by rw [hlen]; exact (List.getElem?_eq_some_iff.1 hi).1
    obtain ⟨f, hf⟩ : ∃ f, fs[i]? = some f := ⟨_, Array.getElem?_eq_getElem hil⟩
    obtain ⟨h1, h2, h3⟩ := h i f m S hf hi
    have h4 := hall i f hf
    obtain ⟨y, hy⟩ : ∃ y, xs[i]? = some y := ⟨_, List.getElem?_eq_getElem (by rw [hxl]; exact hil)⟩
    rw [hy, h1, h2] at h4
    obtain ⟨segs, s1, s2, s3⟩ := h3 _ _ _ h4 fun q hq => by
      refine hz q ?_
      rw [hxe]
      simp only [DataW.weights, ht]
      exact DataW.weights_mem_each (j := i) (t := f.type) (d := y.1) (by simp [hf]) (by simp [hy]) q hq
    refine ⟨segs, s1, s2, fun j z hz => ?_⟩
    obtain ⟨v, hv, hc⟩ := s3 j z hz
    have hj := atS_lt hz
    have hv : ((cs.drop _).take _)[j]? = some v := hv
    rw [List.getElem?_take_of_lt (by omega), List.getElem?_drop] at hv
    exact ⟨v, hv, hc⟩⟩
theorem opZ_rows {t e : TypeId} {m : Nat} {S : List Seg → Prop} (ht : P.underlying t = some (.slice e)) (hct : P.cellsOf t = 1) (h0 : 0 < m) (hb : 1 ≤ P.bytesOf e) (he : OpZ enc P w base spare held e m S) : OpZ enc P w base spare held t 1 (shRowsZ m S) :=
  ⟨hct, fun fuel cs x hx hzz => by
    rcases DataW.trod_slice ht hx with ⟨rfl, _⟩ | ⟨a, len, cap, elems, rest, n, _, rfl, hxe, _, hl, hm, hel, hall, _, _⟩
    · refine ⟨_, ⟨0, fun _ => [], Nat.zero_le _, fun i hi => absurd hi (Nat.not_lt_zero i), rfl⟩, rfl, fun i y hy => ?_⟩
      obtain ⟨rfl, rfl⟩ := atS_one1 hy
      exact ⟨_, rfl, .inl ⟨rfl, _, _, rfl⟩, rfl⟩
    · have each : ∀ i, i < len → ∃ segs cs, S segs ∧ sizeS segs = m ∧ RowRep (rhoW w) segs (fun j => cs[j]?) ∧ w.cells? base (a.add (i * m)) m = some cs := fun i hi => by
        have h1 := hall i hi
        rw [he.1] at h1
        obtain ⟨y, hy⟩ : ∃ y, elems[i]? = some y := ⟨_, List.getElem?_eq_getElem (by rw [hel]; exact hi)⟩
        rw [hy] at h1
        obtain ⟨cs, c1, c2⟩ := Option.bind_eq_some_iff.1 h1
        obtain ⟨segs, s1, s2, s3⟩ := he.2 _ _ _ c2 fun q hq => by
          refine hzz q ?_
          rw [hxe]
          simp only [DataW.weights, ht]
          exact List.mem_cons_of_mem _ (List.mem_append_left _ (weights_all (i := i) (d := y.1) (by simp [hy]) q hq))
        exact ⟨segs, cs, s1, s2, s3, c1⟩
      obtain ⟨rows, hrows⟩ : ∃ rows : Nat → List Seg, ∀ i, i < len → ∃ cs, S (rows i) ∧ sizeS (rows i) = m ∧ RowRep (rhoW w) (rows i) (fun j => cs[j]?) ∧ w.cells? base (a.add (i * m)) m = some cs := by
        refine ⟨fun i => if hi : i < len then Classical.choose (each i hi) else [], fun i hi => ?_⟩
        simp only [hi, dif_pos]
        exact Classical.choose_spec (each i hi)
      have hlb : len ≤ mxB := by
        have h1 := hzz ((elems.length + rest.length) * P.bytesOf e) (by rw [hxe]; simp [DataW.weights, ht])
        have h2 : reachBytes = mxB := rfl
        have h3 : len ≤ (elems.length + rest.length) * P.bytesOf e := by
          rw [← hel]
          exact Nat.le_trans (Nat.le_add_right _ _) (Nat.le_mul_of_pos_right _ hb)
        omega
      refine ⟨_, ⟨len, rows, hlb, fun i hi => by obtain ⟨_, h1, h2, _⟩ := hrows i hi; exact ⟨h1, h2⟩, rfl⟩, rfl, fun i y hy => ?_⟩
      obtain ⟨rfl, rfl⟩ := atS_one1 hy
      refine ⟨_, rfl, ?_, rfl⟩
      by_cases hz : len = 0
      · exact .inl ⟨hz, some a, cap, by rw [hz]⟩
      · obtain ⟨cs0, _, _, _, c0⟩ := hrows 0 (by omega)
        obtain ⟨cells, tt, fr, hb, hsp, _, _⟩ := cells_of c0 h0
        have ha : a = ⟨a.block, a.off, none⟩ := by
          have : a.spot = none := by simpa [Addr.add] using hsp
          cases a; simp_all
        rw [add_block] at hb
        refine .inr ⟨a.block, a.off, cap, cells, by rw [← ha], hl, rhoW_fz hb, fun i j hi hj => ?_⟩
        obtain ⟨cs1, _, s2, s3, c1⟩ := hrows i hi
        obtain ⟨c2, t2, f2, hb2, _, hcl, hce⟩ := cells_of c1 h0
        rw [add_block] at hb2
        rw [hb] at hb2
        cases hb2
        obtain ⟨z, hz'⟩ := atS_some (l := rows i) (i := j) (by rw [s2]; exact hj)
        obtain ⟨u, hu, hc⟩ := s3 j z hz'
        refine ⟨u, ?_, ?_, hc.2⟩
        · have := hce j hj
          have hu : cs1[j]? = some u := hu
          rw [hu] at this
          have e : (a.add (i * m)).off = a.off + i * m := add_off _ _
          rw [e] at this
          rw [← this, Nat.add_assoc]
        · unfold rowsF cellsF
          rw [hz']
          exact hc.1⟩
theorem opZ_ints {t e : TypeId} {k : IntKind} (ht : P.underlying t = some (.slice e)) (he : P.underlying e = some (.int k)) (hc : P.cellsOf e = 1) (hct : P.cellsOf t = 1) (hb : 1 ≤ P.bytesOf e) : OpZ enc P w base spare held t 1 (shIntsZ k) :=
  ⟨hct, fun fuel cs x hx hzz => by
    obtain ⟨segs, ⟨n, rows, hn, hrows, rfl⟩, _, hr⟩ := (opZ_rows ht hct (by omega) hb (op_int he hc).z).2 fuel cs x hx hzz
    have hz : ∀ i, i < n → ∃ z, (Lit.int k z).wf = true ∧ rows i = [.one (.int k z)] := fun i hi => (hrows i hi).1
    obtain ⟨f, hf⟩ : ∃ f : Nat → Int, ∀ i, i < n → (Lit.int k (f i)).wf = true ∧ rows i = [.one (.int k (f i))] := by
      refine ⟨fun i => if hi : i < n then Classical.choose (hz i hi) else 0, fun i hi => ?_⟩
      simp only [hi, dif_pos]
      exact Classical.choose_spec (hz i hi)
    have hlen : ((List.range n).map f).length = n := by simp
    refine ⟨_, ⟨(List.range n).map f, by rw [hlen]; exact hn, fun y hy => ?_, rfl⟩, rfl, fun i y hy => ?_⟩
    · obtain ⟨i, hi, rfl⟩ := List.mem_map.1 hy
      exact (hf i (by simpa using hi)).1
    · obtain ⟨rfl, rfl⟩ := atS_one1 hy
      obtain ⟨v, hv, hc⟩ := hr 0 _ rfl
      refine ⟨v, hv, ?_, hc.2⟩
      rcases hc.1 with ⟨rfl, a, c, rfl⟩ | ⟨b, o, c, cs, rfl, h1, h2, h3⟩
      · exact .inl ⟨rfl, a, c, rfl⟩
      · refine .inr ⟨b, o, c, cs, by rw [hlen], by rw [hlen]; exact h1, h2, fun i hi => ?_⟩
        rw [hlen] at hi
        obtain ⟨u, e1, e2, _⟩ := h3 i 0 hi (by omega)
        rw [Nat.mul_one, Nat.add_zero] at e1
        rw [e1]
        unfold rowsF cellsF at e2
        rw [(hf i hi).2] at e2
        have e2 : u = .int k (f i) := e2
        rw [e2]
        simp [List.getD_eq_getElem?_getD, hi]⟩
theorem arg_aggZ {r : Reach} {b0 : Nat} {t : TypeId} {n : Nat} {S : List Seg → Prop} {v : Value} {d : DataW Hh} {ps : List MemPlace} (hz : ∀ q ∈ d.weights P t, q ≤ reachBytes) (ho : OpZ enc P w base spare held t n S) (ht : (∃ fs, P.underlying t = some (.struct fs)) ∨ ∃ m e, P.underlying t = some (.array m e)) (hval : Value.okWide P w r b0 t v) (hd : DataW.Trod enc P w base spare held t v d ps) : ∃ segs, S segs ∧ (AV.agg segs).rep (rhoW w) v := by
  have hv : ∃ cs, v = .agg cs ∧ cs.size = P.cellsOf t := by
    rcases ht with ⟨fs, ht⟩ | ⟨m, e, ht⟩
    · simp only [Value.okWide, ht] at hval
      obtain ⟨cs, rfl, hs, _⟩ := hval
      exact ⟨cs, rfl, hs⟩
    · simp only [Value.okWide, ht] at hval
      obtain ⟨cs, rfl, hs, _⟩ := hval
      exact ⟨cs, rfl, hs⟩
  obtain ⟨cs, rfl, hs⟩ := hv
  obtain ⟨fuel, hf⟩ := hd
  obtain ⟨segs, s1, s2, s3⟩ := ho.2 _ _ _ hf hz
  refine ⟨segs, s1, cs, rfl, by rw [hs, ho.1, s2], fun i x hx => ?_⟩
  obtain ⟨u, hu, hc⟩ := s3 i x hx
  exact ⟨u, by simpa [Value.cells] using hu, hc⟩
theorem szd {ts : List TypeId} {ds : List (DataW Hh)} {j : Nat} {t : TypeId} {d : DataW Hh} (h : (DataW.weightsEach P ts ds).all (· ≤ reachBytes) = true) (ht : ts[j]? = some t) (hd : ds[j]? = some d) : ∀ q ∈ d.weights P t, q ≤ reachBytes := fun q hq => by
  have := List.all_eq_true.1 h _ (DataW.weights_mem_each ht hd q hq)
  simpa using this
end
end Go.Bx
end

section
/- What comes in: packets, pieces, great numbers. No program. -/
open Go Go.Bx
namespace Go.Proofs.X
open Go.ChangeShapes Go.WideShapes
theorem wf_u64 {y : Int} (h : (Lit.int .u64 y).wf = true) : 0 ≤ y ∧ y < 18446744073709551616 := by
  simp [Lit.wf, IntKind.min, IntKind.max, IntKind.signed, IntKind.bits] at h; omega
theorem wf_u16 {y : Int} (h : (Lit.int .u16 y).wf = true) : 0 ≤ y ∧ y < 65536 := by
  simp [Lit.wf, IntKind.min, IntKind.max, IntKind.signed, IntKind.bits] at h; omega
theorem u8_of {l : List Int} (h : ∀ y ∈ l, (Lit.int .u8 y).wf = true) : U8' l := fun i => wf_u8 (wf_getD h i)
theorem num_of {l : List Int} (hl : l.length = 4) (hw : ∀ y ∈ l, (Lit.int .u64 y).wf = true) : ∃ n, n < 2 ^ 256 ∧ l = zs (wd n) := by
  obtain ⟨m, rfl, hm⟩ := nats_of (fun i => (wf_u64 (wf_getD hw i)).1)
  have hml : m.length = 4 := by rwa [zs_len] at hl
  have hB : B64 m := fun i => by
    have := (wf_u64 (wf_getD hw i)).2
    rw [← hm] at this
    omega
  refine ⟨val m % 2 ^ 256, Nat.mod_lt _ (by decide), ?_⟩
  rw [wd_mod, wd_val m hml hB]
abbrev shPc : List Seg → Prop := shCat [(1, shInt .u16), (1, shIntsZ .u8)]
theorem pc_open {s : List Seg} (h : shPc s) : ∃ p : Pc, p.1 < 65536 ∧ U8' p.2 ∧ p.2.length ≤ mxB ∧ s = PR p := by
  obtain ⟨_, _, ⟨t, ht, rfl⟩, _, ⟨_, _, ⟨l, hl, hw, rfl⟩, _, rfl, rfl⟩, rfl⟩ := h
  have hb := wf_u16 ht
  obtain ⟨n, rfl⟩ : ∃ n : Nat, t = (n : Int) := ⟨t.toNat, by omega⟩
  exact ⟨(n, l), by simp; omega, u8_of hw, hl, rfl⟩
theorem rows_pieces {n : Nat} {rows : Nat → List Seg} (h : ∀ i, i < n → shPc (rows i) ∧ sizeS (rows i) = 2) : ∃ L : List Pc, L.length = n ∧ (∀ p ∈ L, p.1 < 65536 ∧ U8' p.2 ∧ p.2.length ≤ mxB) ∧ ∀ ρ v, (SV.fz n 2 (rowsF rows)).rep ρ v → (PARS L).rep ρ v := by
  obtain ⟨f, hf⟩ : ∃ f : Nat → Pc, ∀ i, i < n → (f i).1 < 65536 ∧ U8' (f i).2 ∧ (f i).2.length ≤ mxB ∧ rows i = PR (f i) := by
    refine ⟨fun i => if hi : i < n then Classical.choose (pc_open (h i hi).1) else p0, fun i hi => ?_⟩
    simp only [hi, dif_pos]
    exact Classical.choose_spec (pc_open (h i hi).1)
  have hl : ((List.range n).map f).length = n := by simp
  refine ⟨(List.range n).map f, hl, fun p hp => ?_, fun ρ v hv => ?_⟩
  · obtain ⟨i, hi, rfl⟩ := List.mem_map.1 hp
    have := hf i (by simpa using hi)
    exact ⟨this.1, this.2.1, this.2.2.1⟩
  · show (SV.fz ((List.range n).map f).length 2 (gP fun i => ((List.range n).map f).getD i p0)).rep ρ v
    rw [hl]
    refine fz_ext (fun i j hi hj => ?_) hv
    show cellsF (rows i) j = cellsF (PR (((List.range n).map f).getD i p0)) j
    rw [(hf i hi).2.2.2]
    simp [List.getD_eq_getElem?_getD, hi]
abbrev shPk : List Seg → Prop := shCat [(1, shInt .u8), (16, shArr .u8 16), (16, shArr .u8 16), (1, shRowsZ 2 shPc)]
theorem pkt_open {s : List Seg} (h : shPk s) : ∃ (k : Nat) (A B : List Int) (L : List Pc), k < 256 ∧ A.length = 16 ∧ B.length = 16 ∧ U8' A ∧ U8' B ∧ L.length ≤ mxB ∧ (∀ p ∈ L, p.1 < 65536 ∧ U8' p.2 ∧ p.2.length ≤ mxB) ∧ ∀ w v, (AV.agg s).rep (rhoW w) v → (AV.agg (PKT k A B L)).rep (rhoW w) v := by
  obtain ⟨_, _, ⟨k, hk, rfl⟩, _, ⟨_, _, ⟨A, hA, wA, rfl⟩, _, ⟨_, _, ⟨B, hB, wB, rfl⟩, _, ⟨_, _, ⟨n, rows, hn, hrows, rfl⟩, _, rfl, rfl⟩, rfl⟩, rfl⟩, rfl⟩ := h
  have hb := wf_u8 hk
  obtain ⟨k, rfl⟩ : ∃ m : Nat, k = (m : Int) := ⟨k.toNat, by omega⟩
  obtain ⟨L, hLn, hLp, hLr⟩ := rows_pieces hrows
  refine ⟨k, A, B, L, by omega, hA, hB, u8_of wA, u8_of wB, by omega, hLp, fun w v hv => ?_⟩
  exact conv_agg (H := []) (R := []) (.same (.same (.same (.one (x := .fz n 2 (rowsF rows)) (y := PARS L) (fun _ _ ρ _ u _ _ hr => hLr ρ u hr) .nil)))) (fun _ => none) (fun b => w.heap.size ≤ b) (rhoW w) w v (fun _ hi => by cases hi) ((hrep_w w).sub (fun id k hk => by cases hk)) hv
abbrev shGiv : List Seg → Prop := shCat [(12, shCat [(4, shArr .u64 4), (4, shArr .u64 4), (4, shArr .u64 4)]), (4, shArr .u64 4), (32, shArr .u8 32), (4, shArr .u64 4)]
theorem giv_open {s : List Seg} (h : shGiv s) : ∃ (p q g a : Nat) (K XK : List Int), p < 2 ^ 256 ∧ q < 2 ^ 256 ∧ g < 2 ^ 256 ∧ a < 2 ^ 256 ∧ K.length = 32 ∧ s = [.ints .u64 4 (zs (wd p)), .ints .u64 4 (zs (wd q)), .ints .u64 4 (zs (wd g)), .ints .u64 4 (zs (wd a)), .ints .u8 32 K, .ints .u64 4 XK] := by
  obtain ⟨_, _, ⟨_, _, ⟨lp, h1, w1, rfl⟩, _, ⟨_, _, ⟨lq, h2, w2, rfl⟩, _, ⟨_, _, ⟨lg, h3, w3, rfl⟩, _, rfl, rfl⟩, rfl⟩, rfl⟩, _, ⟨_, _, ⟨la, h4, w4, rfl⟩, _, ⟨_, _, ⟨K, h5, w5, rfl⟩, _, ⟨_, _, ⟨XK, h6, w6, rfl⟩, _, rfl, rfl⟩, rfl⟩, rfl⟩, rfl⟩ := h
  obtain ⟨p, hp, rfl⟩ := num_of h1 w1
  obtain ⟨q, hq, rfl⟩ := num_of h2 w2
  obtain ⟨g, hg, rfl⟩ := num_of h3 w3
  obtain ⟨a, ha, rfl⟩ := num_of h4 w4
  exact ⟨p, q, g, a, K, XK, hp, hq, hg, ha, h5, rfl⟩
abbrev shOth : List Seg → Prop := shCat [(16, shArr .u8 16), (32, shArr .u8 32), (2, shPc)]
theorem oth_open {s : List Seg} (h : shOth s) : ∃ (T1 I1 : List Int) (t : Nat) (Bx : List Int), t < 65536 ∧ U8' Bx ∧ Bx.length ≤ mxB ∧ s = [.ints .u8 16 T1, .ints .u8 32 I1, .one (.int .u16 ((t : Nat) : Int)), .one (.fzi .u8 Bx)] := by
  obtain ⟨_, _, ⟨T1, _, _, rfl⟩, _, ⟨_, _, ⟨I1, _, _, rfl⟩, _, ⟨_, _, hp, _, rfl, rfl⟩, rfl⟩, rfl⟩ := h
  obtain ⟨p, h1, h2, h3, rfl⟩ := pc_open hp
  exact ⟨T1, I1, p.1, p.2, h1, h2, h3, rfl⟩
end Go.Proofs.X
end

section
open Go Go.Bx Go.Proofs
namespace Go.Proofs.X
theorem macPc_1 (k : Nat) (A B : List Int) (L : List Pc) (K : List Int) : (macPc k A B L K).1 = 61505 := rfl
theorem sgPc_1 (k : Nat) (A B : List Int) (L : List Pc) (p q g a : Nat) : (sgPc k A B L p q g a).1 = 61697 := rfl
attribute [local irreducible] be gN ckS encL chk pk0 pkB macS wd sg0 drP asB expP szA secP fineP inP mayP macPc sgPc
theorem there_c (k : Nat) (A B : List Int) (L : List Pc) (p q g a : Nat) (K XK T1 I1 : List Int) (t : Nat) (Bx : List Int) (hp : p < 2 ^ 256) (hq : q < 2 ^ 256) (hg : g < 2 ^ 256) (ha : a < 2 ^ 256) (hk : k < 256) (hA : A.length = 16) (hB : B.length = 16) (hUA : U8' A) (hUB : U8' B) (hLm : L.length ≤ mxB) (hLp : ∀ r ∈ L, r.1 < 65536 ∧ U8' r.2 ∧ r.2.length ≤ mxB) (hK : K.length = 32) (ht : t < 65536) (hUx : U8' Bx) : Con Tryz.prog 3 [.agg (PKT k A B L), .agg [.ints .u64 4 (zs (wd p)), .ints .u64 4 (zs (wd q)), .ints .u64 4 (zs (wd g)), .ints .u64 4 (zs (wd a)), .ints .u8 32 K, .ints .u64 4 XK], .agg [.ints .u8 16 T1, .ints .u8 32 I1, .one (.int .u16 ((t : Nat) : Int)), .one (.fzi .u8 Bx)]] [] (.s (.bool true)) [] := by
 have hmx : mxB = 140737488351232 := rfl
 have hbd : ∀ i, (L.getD i p0).2.length ≤ 140737488355328 := fun i => by
   rcases Nat.lt_or_ge i L.length with h | h
   · have := (hLp _ (getD_mem h)).2.2; omega
   · rw [getD_out h]; decide
 obtain ⟨i0, hi0, hstop, hgo⟩ := sz_ex L 1048576
 have hgr := great_c k A B L (by omega) hbd i0 hi0 hstop hgo
 by_cases hG : 6000 < 1 + szA L i0
 · rw [decide_eq_true hG] at hgr
   exact th_great k A B L p q g a K XK T1 I1 t Bx hgr
 rw [decide_eq_false hG] at hgr
 by_cases hBx : Bx.length ≤ 3000
 rotate_left
 · exact th_big k A B L p q g a K XK T1 I1 t Bx hgr hBx
 have hi : i0 = L.length := hstop.resolve_right (by omega)
 subst hi
 have hsz := szA_le L L.length
 have hw : WfL L := ⟨by omega, fun r hr => by
   obtain ⟨i, hi, e⟩ := List.mem_iff_getElem.1 hr
   have h1 := hsz.2 i hi
   have e2 : L.getD i p0 = r := by rw [List.getD_eq_getElem?_getD, List.getElem?_eq_getElem hi]; exact e
   rw [e2] at h1
   exact ⟨(hLp r hr).1, (hLp r hr).2.1, by omega⟩⟩
 rcases mac_tot k A B L K hK hw hk hA hB hUA hUB with ⟨mok, hm⟩ | ⟨e, he, hm⟩
 rotate_left
 · exact th_mac k A B L p q g a K XK T1 I1 t Bx hgr hBx e he hm
 have hw1 := hw.snoc (by have := mok.n; omega) (macPc_wf k A B L K)
 generalize hL1 : L ++ [macPc k A B L K] = L1 at *
 have hl1 : L1.length = L.length + 1 := by rw [← hL1]; simp
 have hm1t : (L1.getD L.length p0).1 = 61505 := by
   rw [← hL1, getD_snoc, if_neg (Nat.lt_irrefl _), if_pos rfl]; exact macPc_1 k A B L K
 have hm2 := mac_there k A B L1 hw1 K hK L.length (by omega) (Nat.le_of_eq hm1t.symm)
 rcases sgn_tot k A B L1 p q g hp hq hg a ha hw1 hk hA hB hUA hUB with ⟨sok, hs⟩ | ⟨e, he, hs⟩
 rotate_left
 · exact th_sgn k A B L p q g a K XK T1 I1 t Bx hgr hBx L1 hm hm2 e he hs
 have hsp := sgPc_1 k A B L1 p q g a
 have hw2 := hw1.snoc (by have := sok.n; omega) (sgPc_wf k A B L1 p q g a)
 have hsg2 : sgL (L1 ++ [sgPc k A B L1 p q g a]) = sgL L1 := sgL_snoc_n _ _ (Nat.le_of_eq hsp.symm)
 generalize hL2 : L1 ++ [sgPc k A B L1 p q g a] = L2 at *
 have hl2 : L2.length = L1.length + 1 := by rw [← hL2]; simp
 have hs1t : (L2.getD L1.length p0).1 = 61697 := by
   rw [← hL2, getD_snoc, if_neg (Nat.lt_irrefl _), if_pos rfl]; exact hsp
 have hm2t : (L2.getD L.length p0).1 = 61505 := by
   rw [← hL2, getD_snoc, if_pos (by omega)]; exact hm1t
 have hs2 := sgn_there k A B L2 hw2 p q g a L1.length (by omega) (Nat.le_of_eq hs1t.symm)
 have hm3 := mac_there k A B L2 hw2 K hK L.length (by omega) (Nat.le_of_eq hm2t.symm)
 rcases with_tot L2 hw2 (t, Bx) ⟨ht, hUx, by show Bx.length ≤ 900000; omega⟩ with ⟨e, he, hwi⟩ | ⟨i1, hi1, hn2, hwi⟩
 · exact th_with k A B L p q g a K XK T1 I1 t Bx hgr hBx L1 hm hm2 L2 hs hs2 hm3 e he hwi
 have hK2 : sgK k L2 = sgK k L1 := by unfold sgK; rw [hsg2]
 have ok2 : okP k (sgK k L2) := by rw [hK2]; exact sok.ok
 have hc1 := cont_ok k A B L2 hw2 ok2 hk hA hB hUA hUB
 have hw3 : WfL (insL L2 i1 (t, Bx)) := hw2.ins (by omega) i1 ⟨ht, hUx, by show Bx.length ≤ 900000; omega⟩
 by_cases ok3 : okP k (sgK k (insL L2 i1 (t, Bx)))
 rotate_left
 · obtain ⟨e, he, hc2⟩ := cont_no k A B (insL L2 i1 (t, Bx)) hw3 ok3 hA
   rw [← pkn_ins k A B L2 i1 hi1 (t, Bx)] at hc2
   exact th_cont k A B L p q g a K XK T1 I1 t Bx hgr hBx L1 hm hm2 L2 hs hs2 hm3 _ _ hwi _ hc1 e he hc2
 have hc2 := cont_ok k A B (insL L2 i1 (t, Bx)) hw3 ok3 hk hA hB hUA hUB
 rw [← pkn_ins k A B L2 i1 hi1 (t, Bx)] at hc2
 have hTl := sgT_len (k := k) hB
 have htot := ok2.tot
 have hYl := pkB_len (k := k) (E := encL (sgK k L2)) hA hTl
 refine th_y k A B L p q g a K XK T1 I1 t Bx hgr hBx L1 hm hm2 L2 hs hs2 hm3 _ _ hwi _ hc1 _ hc2 _ (sameb_c _ _ (by omega)) ?_
 by_cases h6 : 61697 ≤ t
 · have e : sgK k (insL L2 i1 (t, Bx)) = sgK k L2 := by unfold sgK; rw [sgL_ins_n L2 i1 (t, Bx) h6]
   rw [e, decide_eq_true h6, decide_eq_true rfl]
 · have hne : pkB k A (sgT k B) (encL (sgK k L2)) ≠ pkB k A (sgT k B) (encL (sgK k (insL L2 i1 (t, Bx)))) := by
     refine pkB_ne hA hTl ?_
     rw [encL_sgK, encL_sgK, sgL_ins_y L2 i1 (t, Bx) (by show t < 61697; omega)]
     have := (up8_le (4 + (t, Bx).2.length)).1
     omega
   rw [decide_eq_false h6, decide_eq_false hne]

end Go.Proofs.X
end
