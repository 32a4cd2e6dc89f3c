/- A part of the proofs of this claim: BWrd1, BWrd2, BWrd3, BSigT, BSigS, BSig1, BSig2, BSig3, BSig4, Bx33, Bx34, Bx35, Bx36, BParT, BPar1, Bx37, Bx38, BParS, BPar2. No conditions. -/
import Derived.Test.YtcddchknofjbhaaGreatA7
import Derived.Test.YtcddchknofjbhaaGreatA6
import Derived.Lib.LazyBuf
import Derived.Lib.Overlaps
set_option linter.unusedVariables false
set_option linter.unusedSimpArgs false
section
set_option maxRecDepth 100000
set_option maxHeartbeats 4000000
open Go Go.Bx Go.Proofs
namespace Go.Proofs.X
theorem row0_m (B ws : List Int) (each tot : Nat) (ht : tot = B.length + each * ws.length) (htb : tot ≤ 140737488355328) (hws : ws.length ≤ 1000000) (h0 : B.length = 0) : Con Tryz.prog 81 [.s (.fzi .u8 B), .s (.int .i64 ((each : Nat) : Int)), .s (.fzi .u64 ws)] [] (.s (.slice 0 0 0 tot tot)) [some ⟨true, [.ints .u8 tot (rr tot each ws.length ws ws.length)]⟩] := by
 refine con_inF 44 Tryz.func81 rfl rfl (m := 0) rfl ?_
 intro E hP hn hE hF
 refine qz hP hn ?_
 refine s_op k_bx ?_
 refine s_op k_as ?_
 refine qx hP hn ?_
 refine o4 ?_
 refine o2 ?_
 refine s_op (k_add (by exact l_bin rfl rfl (b_add (r := ((tot : Nat) : Int)) (by rw [ht]; exact m_add (by omega))))) ?_
 refine s_op k_mk ?_
 refine s_op k_al ?_
 refine s_st k_st ?_
 refine qx hP hn ?_
 refine o3 ?_
 refine s_st k_st ?_
 refine s_nil trivial (n_wp (w_seq (qz hP hn ?_)))
 refine s_op k_mv ?_
 refine s_op (k_call [] (con := backward_c _)) ?_
 refine s_nil trivial (n_wp (w_block ?_))
 have hmul : each * ws.length ≤ tot := by omega
 refine w_weak (weak_tm (T' := [(0, .s (.fzi .u8 B)), (4, .s (.ptr 0 0 0)), (7, .s (.ptr 2 0 0)), (8, .s (.ptr 3 0 0)), (22, .s (.clo 129 1 (capF [.ptr 4 0 0])))])) ?_
 refine w_rangeFunc (gf := 129) (n := 1) (q := capF [.ptr 4 0 0]) (Hend := RH each tot (tot - each * ws.length) (rr tot each ws.length ws ws.length) ws) hF rfl (by rw [hP]; exact Clb.h) (Nat.le_refl _) (back_iter hP hn 4 ws 23 24 (by decide) (by decide) _ _ _ (fun k => RH each tot (tot - each * k) (rr tot each ws.length ws k) ws) hws (fun _ _ => rfl) (fun k hk => ?_)) ?_
 · have hk1 : each * (k + 1) ≤ each * ws.length := Nat.mul_le_mul_left each hk
   have hnx : tot - each * (k + 1) = tot - each * k - each := by rw [Nat.mul_succ]; omega
   have hA1 : each ≤ tot - each * k := by rw [Nat.mul_succ] at hk1; omega
   have hA2 : tot - each * k ≤ tot := Nat.sub_le _ _
   show YRound _ _ _ _ _ (RH each tot (tot - each * k) (rr tot each ws.length ws k) ws) (RH each tot (tot - each * (k + 1)) (rb (rr tot each ws.length ws k) (tot - each * k) (ws.getD (ws.length - 1 - k) 0) each).1 ws)
   rw [hnx]
   have hout := rr_len tot each ws.length ws k
   generalize tot - each * k = A at *
   generalize rr tot each ws.length ws k = out at *
   generalize ws.getD (ws.length - 1 - k) 0 = v at *
   refine ⟨Nat.le_refl _, [(4, .s (.ptr 0 0 0)), (7, .s (.ptr 2 0 0)), (8, .s (.ptr 3 0 0)), (10, .s (.int .u64 v))], fun l E hP hn hE => ⟨?_, ?_⟩⟩
   · refine ig_reg hP hn ?_
     refine s_op k_as ?_
     refine s_nil trivial ?_
     exact ⟨rfl, weak_tm⟩
   · refine i_block ?_
     refine i_seq ?_
     refine ig_reg hP hn ?_
     refine o2 ?_
     refine s_nil trivial ?_
     refine ni_wp ?_
     refine i_block ?_
     refine i_loop (fun m T H => ∃ j, j ≤ each ∧ m = each - j ∧ T = [(4, .s (.ptr 0 0 0)), (7, .s (.ptr 2 0 0)), (8, .s (.ptr 3 0 0)), (10, .s (.int .u64 (rb out A v j).2)), (25, .s (.int .i64 ((each : Nat) : Int))), (26, .s (.int .i64 ((j : Nat) : Int)))] ∧ H = RH each tot (A - j) (rb out A v j).1 ws) (each) ⟨0, by omega, rfl, rfl, rfl⟩ weak_tm ?_
     rintro n_ T_ H_ ⟨j, hj, rfl, rfl, rfl⟩
     have hlj : (rb out A v j).1.length = tot := (rb_len out A v j).trans hout
     refine i_seq ?_
     refine ig_reg hP hn ?_
     refine s_op k_lss ?_
     refine s_nil trivial ?_
     refine ni_wp ?_
     refine i_seq ?_
     refine iw_if rfl (fun h_t27 => ?_) (fun h_t27 => ?_)
     · refine i_skip ?_
       refine ni_wp ?_
       refine i_seq ?_
       refine i_block ?_
       refine i_seq ?_
       refine ig_reg hP hn ?_
       refine o2 ?_
       refine s_st k_st ?_
       refine s_nil trivial ?_
       refine ni_wp ?_
       refine ig_reg hP hn ?_
       refine o3 ?_
       refine o2 ?_
       refine s_op (k_quo (by exact l_bin rfl rfl (b_quo (by decide) rfl))) ?_
       refine s_op k_ix ?_
       refine s_st k_st ?_
       refine s_op k_as ?_
       refine s_nil trivial (n_blo ?_)
       refine ni_wp ?_
       refine ig_reg hP hn ?_
       refine o2 ?_
       refine s_nil trivial ?_
       exact n_round (each - (j + 1)) (by omega) ⟨j + 1, by omega, rfl, rfl, rfl⟩ weak_tm
     · have hje : j = each := by omega
       subst hje
       refine i_exit ?_
       refine x_thn (x_thn (x_eq (n_blo ?_)))
       exact ⟨rfl, weak_tm⟩
 have hat : tot - each * ws.length = B.length := by omega
 rw [hat]
 refine n_blo (n_wp (qz hP hn ?_))
 refine o2 ?_
 refine s_op k_sl ?_
 refine s_op k_mv ?_
 refine s_op a_copy0 ?_
 refine qx hP hn ?_
 refine o2 ?_
 refine s_nil trivial (n_wp (w_ret ?_))
 exact d_retw hP hn (r_tmp Tryz.results81) (wk hE [1])

theorem row4_n (v : Nat) (hv : v < 18446744073709551616) : Con Tryz.prog 81 [.s (.fzi .u8 []), .s (.int .i64 ((4 : Nat) : Int)), .s (.fzi .u64 [(v : Int)])] [] (.s (.slice 0 0 0 4 4)) [some ⟨true, [.ints .u8 4 (be 4 v)]⟩] := by
 have h := row0_m [] [(v : Int)] 4 4 rfl (Nat.le_of_ble_eq_true rfl) (Nat.le_of_ble_eq_true rfl) rfl
 have e := rowL_1 [] 4 v (by decide) hv
 have e : rr 4 4 1 [(v : Int)] 1 = be 4 v := e
 rw [show rr 4 4 [(v : Int)].length [(v : Int)] [(v : Int)].length = be 4 v from e] at h
 exact h

attribute [local irreducible] bitsN wd dg be rr gN glI
theorem put_n (B : List Int) (v n : Nat) (hn0 : 0 < n) (hn8 : n ≤ 8) (hv : v < 18446744073709551616) (hB : B.length ≤ 140737488355000) : Con Tryz.prog 52 [.s (.fzi .u8 B), .s (.int .u64 ((v : Nat) : Int)), .s (.int .i64 ((n : Nat) : Int))] [] (.s (.fzi .u8 (B ++ be n v))) [] := by
 have h := put_c B ((v : Nat) : Int) n hn8 hB
 rw [Nat.mul_one, rowL_1 B n v hn0 hv] at h
 exact h
theorem get_n (B : List Int) (m : Nat) (h0 : 0 < m) (h8 : m ≤ 8) (hm : m ≤ B.length) (hU : U8' B) : Con Tryz.prog 31 [.s (.fzi .u8 B), .s (.int .i64 ((m : Nat) : Int))] [] (.tup [.s (.int .u64 ((gN B m : Nat) : Int)), .s (.int .i64 0)]) [] := by
 have h := get_c B m h0 h8 hm
 rw [getI_n hU m h8 hm] at h
 exact h

theorem clip_g (len q : Nat) (l : List Int) : Con Tryz.prog 54 [.s (.gro 0 1 len)] [some ⟨true, [.ints .u8 q l]⟩] (.s (.gro 0 1 len)) [some ⟨true, [.ints .u8 q l]⟩] := by
 refine con_in 9 Tryz.func54 rfl rfl (m := 1) rfl ?_
 intro E hP hn hE
 refine qz hP hn ?_
 refine s_op k_as ?_
 refine qx hP hn ?_
 refine o3 ?_
 refine o2 ?_
 refine s_op k_slc ?_
 refine s_op k_as ?_
 refine s_nil trivial (n_wp (w_ret ?_))
 exact d_ret hP hn hE [0] (by first | exact r_tmp Tryz.results54 | exact r_tmpa Tryz.results54)

theorem grow_m (L m : Nat) (l : List Int) (hl : l.length = L) (h0 : 0 < m) (hb : L + m ≤ 1000000) : Con Tryz.prog 82 [.s (.slice 0 0 0 L L), .s (.int .i64 ((m : Nat) : Int))] [some ⟨true, [.ints .u8 L l]⟩] (.s (.gro 1 1 L)) [some ⟨true, [.ints .u8 L l]⟩, some ⟨true, [.ints .u8 (L + m) (l ++ List.replicate m 0)]⟩] := by
 refine con_in 27 Tryz.func82 rfl rfl (m := 1) rfl ?_
 intro E hP hn hE
 refine qz hP hn ?_
 refine s_op k_as ?_
 refine s_nil trivial (n_wp (w_seq (qz hP hn ?_)))
 refine o2 ?_
 refine s_nil trivial (n_wp ?_)
 refine w_F rfl ?_ (decide_eq_false (by omega))
 refine w_skip (n_wp (w_seq (qz hP hn ?_)))
 refine o2 ?_
 refine s_op k_cap ?_
 refine o3 ?_
 refine o2 ?_
 refine qx hP hn ?_
 refine o2 ?_
 refine s_nil trivial (n_wp ?_)
 refine w_T rfl ?_ (decide_eq_true (by omega))
 refine g_reg hP hn ?_
 refine o2 ?_
 refine s_op k_cap ?_
 refine s_op k_sl ?_
 refine s_op k_mv ?_
 refine s_op (k_apz m) ?_
 refine o2 ?_
 refine s_op (k_slg L) ?_
 refine s_op k_as ?_
 refine qx hP hn ?_
 refine o2 ?_
 refine s_nil trivial (n_wp (w_ret ?_))
 exact d_ret hP hn hE [0, 1] (by first | exact r_tmp Tryz.results82 | exact r_tmpa Tryz.results82)

theorem pb_n (A : List Int) (h0 : 0 < A.length) (hA : A.length ≤ 900000) : Con Tryz.prog 100 [.s (.fzi .u8 []), .s (.fzi .u8 A)] [] (.s (.fzi .u8 (be 4 A.length ++ A))) [] := by
 refine con_in 19 Tryz.func100 rfl rfl (m := 0) rfl ?_
 intro E hP hn hE
 refine qz hP hn ?_
 refine s_op k_as ?_
 refine qx hP hn ?_
 refine o4 ?_
 refine s_op k_bsf ?_
 refine s_op (k_call [] (con := row4_n A.length (by omega))) ?_
 refine o2 ?_
 refine s_op (k_call [1] (con := grow_m 4 A.length (be 4 A.length) (be_len _ _) h0 (by omega))) ?_
 refine s_op k_as ?_
 refine s_nil trivial (n_wp (w_seq ?_))
 refine w_weak (T' := [(1, .s (.fzi .u8 A)), (5, .s (.gro 0 1 4))]) (H' := [some ⟨true, [.ints .u8 (4 + A.length) (be 4 A.length ++ List.replicate A.length 0)]⟩]) (wk hE [2]) ?_
 refine g_reg hP hn ?_
 refine o2 ?_
 refine s_op (k_apg (hl := by simp [be_len])) ?_
 refine s_op (k_call [1] (con := clip_g _ _ _)) ?_
 refine s_op k_as ?_
 refine s_nil trivial (n_wp (w_ret ?_))
 have PBL : ((be 4 A.length ++ List.replicate A.length 0).take 4 ++ A).length = 4 + A.length := by simp [be_len]
 have PBT : ((be 4 A.length ++ List.replicate A.length 0).take 4 ++ A).take (4 + A.length) = be 4 A.length ++ A := by rw [List.take_of_length_le (by rw [PBL]; exact Nat.le_refl _), List.take_left' (be_len 4 _)]
 exact d_retw hP hn (r_tmp Tryz.results100) ((frz_gro 0 (hl := PBL) (hl' := PBT)).trans (wk hE []))

theorem pl_n (B : List Int) (n : Nat) (hB : B.length ≤ 140737488355000) : Con Tryz.prog 71 [.s (.fzi .u8 B), .agg [.ints .u64 4 (zs (wd n))]] [] (.s (.fzi .u8 (B ++ be 32 n))) [] := by
 refine con_in 16 Tryz.func71 rfl rfl (m := 0) rfl ?_
 intro E hP hn hE
 refine qz hP hn ?_
 refine s_op k_bx ?_
 refine s_op k_as ?_
 refine qx hP hn ?_
 refine o4 ?_
 refine o3 ?_
 refine o2 ?_
 refine s_op k_bsf ?_
 simp only [zs_getD]
 refine s_op (k_call [] (con := row_c B (zs [(wd n).getD 3 0, (wd n).getD 2 0, (wd n).getD 1 0, (wd n).getD 0 0]) 8 (B.length + 8 * 4) rfl (by omega) (Nat.le_of_ble_eq_true rfl))) ?_
 refine s_op k_as ?_
 refine s_nil trivial (n_wp ?_)
 rw [show (zs [(wd n).getD 3 0, (wd n).getD 2 0, (wd n).getD 1 0, (wd n).getD 0 0]).length = 4 from rfl, rowL_4]
 refine w_ret ?_
 exact d_ret hP hn hE [] (by first | exact r_tmp Tryz.results71 | exact r_tmpa Tryz.results71)

theorem gl_n (B : List Int) (h32 : 32 ≤ B.length) (hU : U8' B) : Con Tryz.prog 118 [.s (.fzi .u8 B)] [] (.tup [.agg [.ints .u64 4 (zs (wd (gN B 32)))], .s (.int .i64 0)]) [] := by
 refine con_in 31 Tryz.func118 rfl rfl (m := 0) rfl ?_
 intro E hP hn hE
 refine qz hP hn ?_
 refine o2 ?_
 refine s_nil trivial (n_wp (w_seq (qz hP hn ?_)))
 refine s_op k_mv ?_
 refine s_nil trivial (n_wp (w_block ?_))
 refine c_loop (fun m_ T H => ∃ i, i ≤ 4 ∧ m_ = 4 - i ∧ T = [(0, .s (.fzi .u8 B)), (2, .s (.ptr 0 0 0)), (3, .s (.int .i64 0)), (6, .s (.int .i64 ((i : Nat) : Int)))] ∧ H = [some ⟨true, [.ints .u64 4 (zs (glI B i))]⟩]) (4) ⟨0, by omega, rfl, rfl, rfl⟩ (by rw [glI_0]; exact wk hE [0]) ?_
 rintro n_ T_ H_ ⟨i, hi, rfl, rfl, rfl⟩
 have hgl : (zs (glI B i)).length = 4 := by rw [zs_len, glI_len]
 refine qz hP hn ?_
 refine s_op k_lss ?_
 refine s_nil trivial (n_wp (w_seq ?_))
 refine w_if rfl (fun h_t7 => ?_) (fun h_t7 => ?_)
 · refine w_skip (n_wp (w_seq (w_block (qz hP hn ?_))))
   refine o2 ?_
   refine s_nil trivial (n_wp (w_seq (qz hP hn ?_)))
   refine o3 ?_
   refine s_nil trivial (n_wp ?_)
   refine w_F rfl ?_ (decide_eq_false (by omega))
   refine w_skip (n_wp (qz hP hn ?_))
   refine o3 ?_
   refine o2 ?_
   refine qy hP hn ?_
   refine o3 ?_
   refine o2 ?_
   refine s_op k_sl ?_
   refine s_op (k_call [] (con := get_n ((B.drop (32 - 8 * (i + 1))).take 8) 8 (by decide) (by decide) (by simp; omega) (U8'_take (U8'_drop hU _) 8))) ?_
   refine o4 ?_
   refine s_st k_st ?_
   refine s_op k_as ?_
   refine s_nil trivial (n_blo (n_wp (g_reg hP hn ?_)))
   refine o2 ?_
   refine s_nil trivial ?_
   exact n_round (4 - (i + 1)) (by omega) ⟨i + 1, by omega, rfl, rfl, by rw [glI_s hU h_t7 h32]⟩ (wk hE [])
 · have hi4 : i = 4 := by omega
   rw [show glI B i = wd (gN B 32) by rw [hi4]; exact glI_4 hU h32]
   refine w_exit (x_thn (x_thn (x_eq (n_wp (qz hP hn ?_)))))
   refine o2 ?_
   refine s_st k_st ?_
   refine s_op k_as ?_
   refine s_nil trivial (n_wp (w_ret ?_))
   exact d_ret hP hn hE [] (ret2 Tryz.results118 r_cella (by first | exact ri_tmp rfl | exact ri_tmpa rfl))

end Go.Proofs.X
end

section
set_option maxRecDepth 100000
set_option maxHeartbeats 4000000
open Go Go.Bx Go.Proofs
namespace Go.Proofs.X
theorem pb_b (A : List Int) (h0 : 0 < A.length) (hA : A.length ≤ 900000) : Con Tryz.prog 100 [.s (.fzi .u8 []), .s (.fzi .u8 A)] [] (.s (.fzi .u8 (pbB A))) [] := pb_n A h0 hA
theorem put0_n (v n : Nat) (hn0 : 0 < n) (hn8 : n ≤ 8) (hv : v < 18446744073709551616) : Con Tryz.prog 52 [.s (.fzi .u8 []), .s (.int .u64 ((v : Nat) : Int)), .s (.int .i64 ((n : Nat) : Int))] [] (.s (.fzi .u8 (be n v))) [] := put_n [] v n hn0 hn8 hv (by decide)
theorem takes1_n (a : List Int) (q : Run) (tot : Nat) (hq : RunOk q) (hl : tot + a.length < 4611686018427387904) : Con Tryz.prog 99 [.s (.ptr 0 0 0), .s (ROWS [a])] [some (RQ q tot)] (.tup []) [some (RQ (tk q a) (tot + a.length))] := takes1_c a q tot hq hl
theorem takes2_n (a b : List Int) (q : Run) (tot : Nat) (hq : RunOk q) (hl : tot + (a.length + b.length) < 4611686018427387904) : Con Tryz.prog 99 [.s (.ptr 0 0 0), .s (ROWS [a, b])] [some (RQ q tot)] (.tup []) [some (RQ (tk q (a ++ b)) (tot + (a ++ b).length))] := by
 have h := takes_c [a, b] q tot hq (Nat.le_of_ble_eq_true rfl) (by simp; omega) (fun i => by match i with | 0 => (show a.length ≤ _; omega) | 1 => (show b.length ≤ _; omega) | _ + 2 => simp)
 rw [show [a, b].flatten = a ++ b by simp] at h
 exact h

attribute [local irreducible] tk rr sumL ws ls dnI gI be xA asB pbB strL
theorem as_n (s : ByteArray) (L : List (List Int)) (hs : 0 < s.size) (hs2 : s.size ≤ 1000) (hL : L.length ≤ 1000) (hp : ∀ i, i < L.length → 0 < (L.getD i []).length ∧ (L.getD i []).length ≤ 900000) : Con Tryz.prog 70 [.s (.val (.string s)), .s (ROWS L)] [] (.agg [.ints .u8 32 (asB (strL s) L)]) [] := by
 refine con_in 33 Tryz.func70 rfl rfl (m := 0) rfl ?_
 intro E hP hn hE
 refine qz hP hn ?_
 refine s_op k_al ?_
 refine qx hP hn ?_
 refine s_op (k_call [] (con := new_c) (v := .s (.ptr 1 0 0)) (hv := rfl) (H' := [some ⟨true, [.ints .u8 32 (z 32)]⟩, some (RQ run0 0)]) (hH := rfl)) ?_
 refine s_op k_as ?_
 refine qx hP hn ?_
 refine o2 ?_
 refine s_op (l_bytes rfl Und.h Und.h Und.h) ?_
 refine s_op (k_call [] (con := pb_b (strL s) (by rw [strL_len]; exact hs) (by rw [strL_len]; omega))) ?_
 refine o3 ?_
 refine s_op (k_call [] (con := put0_n L.length 4 (by decide) (by decide) (by omega))) ?_
 refine s_op (k_bsz [.fzi .u8 (pbB (strL s)), .fzi .u8 (be 4 L.length)]) ?_
 refine s_op (k_call [1] (con := takes2_n (pbB (strL s)) (be 4 L.length) run0 0 run0_ok (by rw [pbB_len, be_len, strL_len]; omega)) (H' := [some ⟨true, [.ints .u8 32 (z 32)]⟩, some (RQ (tk run0 ((pbB (strL s)) ++ (be 4 L.length))) (0 + ((pbB (strL s)) ++ (be 4 L.length)).length)), none]) (hH := rfl)) ?_
 refine s_nil trivial (n_wp (w_seq (qz hP hn ?_)))
 refine o3 ?_
 refine s_nil trivial (n_wp (w_block ?_))
 refine c_loop (fun m_ T H => ∃ i q t, i ≤ L.length ∧ m_ = L.length - i ∧ q = tk run0 (xA (strL s) L.length L i) ∧ t = (xA (strL s) L.length L i).length ∧ T = [(4, .s (.ptr 0 0 0)), (5, .s (.ptr 1 0 0)), (19, .s (ROWS L)), (20, .s (.int .i64 ((L.length : Nat) : Int))), (21, .s (.int .i64 ((i : Nat) : Int)))] ∧ H = [some ⟨true, [.ints .u8 32 (z 32)]⟩, some (RQ q t)]) (L.length) ⟨0, _, _, by omega, rfl, rfl, rfl, rfl, rfl⟩ (by rw [xA_0, Nat.zero_add]; exact wk hE [0, 1]) ?_
 rintro n_ T_ H_ ⟨i, q, t, hi, rfl, hq, ht, rfl, rfl⟩
 have hok : RunOk q := hq ▸ tk_ok run0_ok _
 have hle := xA_le (strL s) L.length L (fun i h => (hp i h).2) i hi
 rw [← ht, strL_len] at hle
 have hle2 : i * 900004 ≤ 1000 * 900004 := Nat.mul_le_mul_right _ (by omega)
 refine qz hP hn ?_
 refine s_op k_lss ?_
 refine s_nil trivial (n_wp (w_seq ?_))
 refine w_if rfl (fun h_t22 => ?_) (fun h_t22 => ?_)
 · refine w_skip (n_wp (w_seq (w_block (qz hP hn ?_))))
   refine s_op k_ix ?_
   refine s_op (k_ld (by exact a_loadf (v := .fzi .u8 (L.getD i [])) rfl (by omega) (rows_at L h_t22))) ?_
   refine s_op k_as ?_
   refine qy hP hn ?_
   refine o2 ?_
   refine s_op (k_call [] (con := pb_b (L.getD i []) (hp i h_t22).1 (hp i h_t22).2)) ?_
   refine s_op (k_bsz [.fzi .u8 (pbB (L.getD i []))]) ?_
   refine s_op (k_call [1] (con := takes1_n (pbB (L.getD i [])) q t hok (by rw [pbB_len]; have := hp i h_t22; omega)) (H' := [some ⟨true, [.ints .u8 32 (z 32)]⟩, some (RQ (tk q (pbB (L.getD i []))) (t + (pbB (L.getD i [])).length)), none]) (hH := rfl)) ?_
   refine s_nil trivial (n_blo (n_wp (g_reg hP hn ?_)))
   refine o2 ?_
   refine s_nil trivial ?_
   exact n_round (L.length - (i + 1)) (by omega) ⟨i + 1, tk q (pbB (L.getD i [])), t + (pbB (L.getD i [])).length, by omega, rfl, by rw [xA_s, tk_append, hq], by rw [xA_s, List.length_append, ht], rfl, rfl⟩ (wk hE [])
 · have hiL : i = L.length := by omega
   subst hiL
   subst hq; subst ht
   refine w_exit (x_thn (x_thn (x_eq (n_wp (qz hP hn ?_)))))
   refine s_op k_mv ?_
   refine s_op (k_call [1] (con := sum_c (tk run0 (xA (strL s) L.length L L.length)) (xA (strL s) L.length L L.length).length hok (by omega)) (H' := [some ⟨true, [.ints .u8 32 (z 32)]⟩, some (RQ (tk run0 (xA (strL s) L.length L L.length)) (xA (strL s) L.length L L.length).length)]) (hH := rfl)) ?_
   refine s_st k_st ?_
   refine s_nil trivial (n_wp ?_)
   rw [asB_def]
   refine w_ret ?_
   exact d_ret hP hn hE [] (r_cell Tryz.results70)

end Go.Proofs.X
end

section
set_option maxRecDepth 100000
set_option maxHeartbeats 4000000
open Go Go.Bx Go.Proofs
namespace Go.Proofs.X
attribute [local irreducible] tk rr sumL ws ls dnI gI be xA asB pbB strL wd gN asN nmB rwF
theorem num1_n (s : ByteArray) (L : List (List Int)) (v n : Nat) (hv : v < 256) (q : Nat → Nat → SV) (hLn : L.length = n) (hq : ∀ i, i < n → q i 0 = rwF L i 0) (hs : 0 < s.size) (hs2 : s.size ≤ 1000) (hL : L.length < 1000) (hp : ∀ i, i < L.length → 0 < (L.getD i []).length ∧ (L.getD i []).length ≤ 900000) : Con Tryz.prog 149 [.s (.int .u8 ((v : Nat) : Int)), .s (.ptr 0 0 0), .s (.ptr 1 0 0)] [some ⟨true, [.one (.val (.string s))]⟩, some ⟨true, [.one (.slice 2 0 0 n (n + 1))]⟩, some ⟨true, [.rows (n + 1) 1 (q)]⟩] (.agg [.ints .u64 4 (zs (wd (asN (strL s) L v)))]) [some ⟨true, [.one (.val (.string s))]⟩, some ⟨true, [.one (.slice 2 0 0 n (n + 1))]⟩, some ⟨true, [.rows (n + 1) 1 (rwF (L ++ [[(v : Int)]]))]⟩] := by
 refine con_in 21 Tryz.func149 rfl rfl (m := 3) rfl ?_
 intro E hP hn hE
 have hp2 : ∀ i, i < (L ++ [[(v : Int)]]).length → 0 < ((L ++ [[(v : Int)]]).getD i []).length ∧ ((L ++ [[(v : Int)]]).getD i []).length ≤ 900000 := fun i hi => by
   rcases Nat.lt_or_ge i L.length with h | h
   · rw [List.getD_eq_getElem?_getD, List.getElem?_append_left h, ← List.getD_eq_getElem?_getD]; exact hp i h
   · have : i = L.length := by simp at hi; omega
     subst this
     simp
 refine qz hP hn ?_
 refine s_op k_al ?_
 refine s_nil trivial (n_wp (w_seq ?_))
 refine g_any hP hn ?_
 refine o3 ?_
 refine s_op k_bsf ?_
 refine s_op (k_bsz [.fzi .u8 [(v : Int)]]) ?_
 refine s_op (k_apin (rwF (L ++ [[(v : Int)]])) (hg := fun i hi => by rw [← hLn, rwF_new L _ 0 hi]; exact row1_at _ hi) (hg2 := fun i h1 h2 => by rw [hq i (by omega)]; exact rwF_in L _ (by omega))) ?_
 refine s_op (k_tmp 2 (h := k_call [] (R := [2]) (hargs := by exact .cons (R1 := []) (R2 := [2]) rfl .same (.cons (R1 := [2]) (R2 := []) rfl (conv_rwF rfl (by simp [hLn]) (Nat.le_refl _) (Nat.le_refl _)) .nil)) (con := as_n s (L ++ [[(v : Int)]]) hs hs2 (by simp; omega) hp2))) ?_
 refine s_op k_al ?_
 refine s_st k_st ?_
 refine s_nil (by kernel_rfl) ?_
 refine n_wp (w_seq ?_)
 refine w_weak (frz_ptr 5 32) ?_
 refine g_reg hP hn ?_
 refine s_op (k_slf (hl := asB_len _ _)) ?_
 refine s_op (k_call [] (con := gl_n (asB (strL s) (L ++ [[(v : Int)]])) (by rw [asB_len]; exact Nat.le_refl _) (U8'_asB _ _))) ?_
 refine o4 ?_
 refine s_st k_st ?_
 refine s_op k_as ?_
 refine qx hP hn ?_
 refine s_op k_ld ?_
 refine s_st k_st ?_
 refine s_nil trivial (n_wp ?_)
 rw [asN_def]
 refine w_ret ?_
 exact d_ret hP hn hE [0, 1, 2] (r_cell Tryz.results149)

theorem num_n (s : ByteArray) (L : List (List Int)) (m : Nat) (hm : m < 2 ^ 256) (hm0 : m ≠ 0) (hL0 : 0 < L.length) (hs : 0 < s.size) (hs2 : s.size ≤ 1000) (hL : L.length < 1000) (hp : ∀ i, i < L.length → 0 < (L.getD i []).length ∧ (L.getD i []).length ≤ 900000) : Con Tryz.prog 138 [.agg [.ints .u64 4 (zs (wd m))], .s (.val (.string s)), .s (ROWS L)] [] (.tup [.agg [.ints .u64 4 (zs (wd (nmB (strL s) L m)))], .s (.int .i64 0)]) [] := by
 refine con_in 28 Tryz.func138 rfl rfl (m := 0) rfl ?_
 intro E hP hn hE
 refine qz hP hn ?_
 refine s_op k_bx ?_
 refine s_op k_bx ?_
 refine o2 ?_
 refine qx hP hn ?_
 refine o3 ?_
 refine o2 ?_
 refine s_op (k_mkr (fun _ _ => .nils) (l := L.length) (c := L.length + 1)) ?_
 refine s_op k_al ?_
 refine s_st k_st ?_
 refine qx hP hn ?_
 refine o2 ?_
 refine s_op (k_cpr (rwF L) (h0 := hL0) (hg := by exact fun i _ => rwF_def L i 0) (hg2 := by exact fun i h1 h2 => rwF_out L h1)) ?_
 refine qx hP hn ?_
 refine s_op (k_fn [.ptr 1 0 0, .ptr 4 0 0]) ?_
 refine s_op k_as ?_
 refine s_nil trivial (n_wp (w_seq ?_))
 refine g_any hP hn ?_
 refine s_op k_mv ?_
 refine s_op (k_callc [1, 4, 3] rfl (con := num1_n s L 1 L.length (by decide) (rwF L) rfl (fun _ _ => rfl) hs hs2 hL hp) (H' := [some ⟨true, [.ints .u64 4 (zs (wd m))]⟩, some ⟨true, [.one (.val (.string s))]⟩, some ⟨true, [.ints .u64 4 (zs (List.replicate 4 0))]⟩, some ⟨true, [.rows (L.length + 1) 1 (rwF (L ++ [[((1 : Nat) : Int)]]))]⟩, some ⟨true, [.one (.slice 3 0 0 L.length (L.length + 1))]⟩]) (hH := rfl)) ?_
 refine s_op k_mv ?_
 refine s_op (k_callc [1, 4, 3] rfl (con := num1_n s L 0 L.length (by decide) (rwF (L ++ [[((1 : Nat) : Int)]])) rfl (fun i hi => rwF_in L _ hi) hs hs2 hL hp) (H' := [some ⟨true, [.ints .u64 4 (zs (wd m))]⟩, some ⟨true, [.one (.val (.string s))]⟩, some ⟨true, [.ints .u64 4 (zs (List.replicate 4 0))]⟩, some ⟨true, [.rows (L.length + 1) 1 (rwF (L ++ [[((0 : Nat) : Int)]]))]⟩, some ⟨true, [.one (.slice 3 0 0 L.length (L.length + 1))]⟩]) (hH := rfl)) ?_
 refine s_op k_ld ?_
 refine s_op (k_call [] (con := wide_n (asN (strL s) L 1) (asN (strL s) L 0) m (asN_lt _ _ _) (asN_lt _ _ _) hm hm0)) ?_
 refine o2 ?_
 refine s_st k_st ?_
 refine s_op k_as ?_
 refine s_nil (by kernel_rfl) ?_
 refine n_wp ?_
 rw [nmB_def]
 refine w_ret ?_
 exact d_ret hP hn hE [] (ret2 Tryz.results138 r_cella (by first | exact ri_tmp rfl | exact ri_tmpa rfl))

end Go.Proofs.X
end

section
/- Types and functions of signatures, as instances. -/
open Go Go.Bx Go.Proofs
namespace Go.Proofs.X
instance : Clb Tryz.prog 115 := ⟨_, Tryz.func115, by kernel_rfl, rfl⟩
instance : Clb Tryz.prog 42 := ⟨_, Tryz.func42, by kernel_rfl, rfl⟩
instance : Clb Tryz.prog 75 := ⟨_, Tryz.func75, by kernel_rfl, rfl⟩
instance : Clb Tryz.prog 18 := ⟨_, Tryz.func18, by kernel_rfl, rfl⟩
instance : Clb Tryz.prog 87 := ⟨_, Tryz.func87, by kernel_rfl, rfl⟩
instance : Clb Tryz.prog 97 := ⟨_, Tryz.func97, by kernel_rfl, rfl⟩
instance : NoEq Tryz.prog 24 := ⟨by kernel_rfl⟩
instance : Und Tryz.prog 137 (.struct #[{ name := "C", type := 24, offset := 0, embedded := false, tag := "", pkgPath := "", byteOffset := 0 }, { name := "S", type := 24, offset := 4, embedded := false, tag := "", pkgPath := "", byteOffset := 32 }]) := ⟨Tryz.underlying137⟩
instance : Sz Tryz.prog 137 8 := ⟨Tryz.sizeOf137⟩
instance : Ag Tryz.prog 137 true := ⟨Tryz.isAgg137⟩
instance : Zv Tryz.prog 137 [.ints .u64 4 (zs (List.replicate 4 0)), .ints .u64 4 (zs (List.replicate 4 0))] := ⟨_, Tryz.zeroValue137, by kernel_rfl⟩
instance : FldC Tryz.prog 137 0 0 := ⟨_, _, _, Tryz.underlying137, rfl, Tryz.sizeOf24, by decide, rfl⟩
instance : FldC Tryz.prog 137 1 4 := ⟨_, _, _, Tryz.underlying137, rfl, Tryz.sizeOf24, by decide, rfl⟩
instance : Pl Tryz.prog 137 #[(0, 4), (4, 4)] := ⟨_, Tryz.underlying137, fun w => by kernel_rfl⟩
instance : Inf Tryz.prog 137 Tryz.t137 := ⟨by kernel_rfl⟩
end Go.Proofs.X
end

section
/- What may be a secret; keys. No program. -/
open Go Go.Bx
namespace Go.Proofs.X
def secP (p q g a : Nat) : Bool := fineP p q g && (!decide (a = 0) && decide (a < q))
theorem fine_may {p q g : Nat} (h : fineP p q g = true) : mayP p g = true ∧ 1 < q := by
  simp only [fineP, inP, Bool.and_eq_true, decide_eq_true_eq] at h
  exact ⟨h.2.1, h.1.1⟩
theorem expE_0 {p a : Nat} (h : mayP p a = true) : expE p a = 0 := if_pos h
abbrev drawS : ByteArray := ⟨#[100, 114, 97, 119]⟩
abbrev signS : ByteArray := ⟨#[115, 105, 103, 110]⟩
def dr0 (q a : Nat) (B : List Int) : Nat := nmB (strL drawS) [be 32 a, B] q
def drP (q a : Nat) (B : List Int) : Nat := if dr0 q a B = 0 then 1 else dr0 q a B
def sg0 (q x y : Nat) (B : List Int) : Nat := nmB (strL signS) [be 32 x, be 32 y, B] q
theorem drP_1 {q a : Nat} {B : List Int} (h : dr0 q a B = 0) : wd 1 = wd (drP q a B) := by rw [drP, if_pos h]
theorem drP_2 {q a : Nat} {B : List Int} (h : ¬ dr0 q a B = 0) : wd (dr0 q a B) = wd (drP q a B) := by rw [drP, if_neg h]
theorem dr0_lt {q a : Nat} {B : List Int} (h : 1 < q) : dr0 q a B < q := nmB_lt _ _ (by omega)
theorem drP_lt {q a : Nat} {B : List Int} (h : 1 < q) : drP q a B < q := by
  unfold drP; split
  · exact h
  · exact dr0_lt h
theorem pow_ne {p q a n : Nat} (h : inP p q a = true) (hnq : n ≤ q) : a ^ n % p ≠ 0 := by
  simp only [inP, Bool.and_eq_true, decide_eq_true_eq] at h
  intro h0
  have h1 : a ^ q = a ^ n * a ^ (q - n) := by rw [← Nat.pow_add]; congr 1; omega
  have h2 := h.2
  rw [h1, Nat.mul_mod, h0, Nat.zero_mul, Nat.zero_mod] at h2
  cases h2
theorem expP_may {p q a n : Nat} (h : inP p q a = true) (hnq : n ≤ q) : mayP p (expP p a n) = true := by
  have h1 := pow_ne h hnq
  simp only [inP, Bool.and_eq_true, decide_eq_true_eq] at h
  have h3 := (mayP_iff p a).1 h.1
  rw [expP, if_pos h.1]
  exact (mayP_iff _ _).2 ⟨h3.1, h1, Nat.mod_lt _ (by omega)⟩
theorem in_may {p q a : Nat} (h : inP p q a = true) : mayP p a = true := by
  simp only [inP, Bool.and_eq_true, decide_eq_true_eq] at h
  exact h.1
theorem fine_in {p q g : Nat} (h : fineP p q g = true) : inP p q g = true := by
  simp only [fineP, Bool.and_eq_true, decide_eq_true_eq] at h
  exact h.2
def ckA (p q g k : Nat) (B : List Int) (c s : Nat) : Bool := decide (sg0 q k (expP p g s * expP p k (q - c) % p) B = c)
theorem ckA_def (p q g k : Nat) (B : List Int) (c s : Nat) : decide (sg0 q k (expP p g s * expP p k (q - c) % p) B = c) = ckA p q g k B c s := rfl
def ckB (p q g k : Nat) (B : List Int) (c s : Nat) : Bool := (((fineP p q g && inP p q k) && !decide (k = 1)) && (decide (c < q) && decide (s < q))) && ckA p q g k B c s
theorem sg0_lt {q x y : Nat} {B : List Int} (h : 1 < q) : sg0 q x y B < q := nmB_lt _ _ (by omega)
end Go.Proofs.X
end

section
set_option maxRecDepth 100000
set_option maxHeartbeats 4000000
open Go Go.Bx Go.Proofs
namespace Go.Proofs.X
attribute [local irreducible] bitsN wd dg be rr gN cmpI fineP inP expP expE
theorem below_n (m : Nat) : Con Tryz.prog 42 [.agg [.ints .u64 4 (zs (wd m))]] [] (.s (.noid (.clo 75 1 (capF [MP m])))) [] := by
 refine con_in 4 Tryz.func42 rfl rfl (m := 0) rfl ?_
 intro E hP hn hE
 refine qz hP hn ?_
 refine s_op k_bxf ?_
 refine s_op k_as ?_
 refine qx hP hn ?_
 refine s_op (k_fnN [MP m]) ?_
 refine s_op k_as ?_
 refine s_nil trivial (n_wp (w_ret ?_))
 exact d_ret hP hn hE [] (by first | exact r_tmp Tryz.results42 | exact r_tmpa Tryz.results42)

theorem bel_y (m : Nat) (L : List Nat) (hm : m < 2 ^ 256) (hL : ∀ i, i < L.length → L.getD i 0 < 2 ^ 256) (hLb : L.length ≤ 1000000) (hall : ∀ i, i < L.length → L.getD i 0 < m) : Con Tryz.prog 75 [.s (NUMS L), .s (MP m)] [] (.s (.bool true)) [] := by
 refine con_in 17 Tryz.func75 rfl rfl (m := 0) rfl ?_
 intro E hP hn hE
 refine qz hP hn ?_
 refine s_op k_as ?_
 refine s_nil trivial (n_wp (w_seq (qz hP hn ?_)))
 refine o3 ?_
 refine s_nil trivial (n_wp (w_block ?_))
 refine c_loop (fun m_ T H => ∃ i, i ≤ L.length ∧ m_ = L.length - i ∧ (∀ k, k < i → L.getD k 0 < m) ∧ T = [(1, .s (MP m)), (6, .s (NUMS L)), (7, .s (.int .i64 ((L.length : Nat) : Int))), (8, .s (.int .i64 ((i : Nat) : Int)))] ∧ H = []) (L.length) ⟨0, by omega, rfl, fun k hk => absurd hk (Nat.not_lt_zero k), rfl, rfl⟩ (wk hE []) ?_
 rintro n_ T_ H_ ⟨i, hi, rfl, hup, rfl, rfl⟩
 refine qz hP hn ?_
 refine s_op k_lss ?_
 refine s_nil trivial (n_wp (w_seq ?_))
 refine w_if rfl (fun h_t9 => ?_) (fun h_t9 => ?_)
 · have hlt := hall i h_t9
   refine w_skip (n_wp (w_seq (w_block (qz hP hn ?_))))
   refine s_op k_ix ?_
   refine s_op (k_ld (by exact l_loadf_agg (segs := (L.map NR).getD i []) (sub := [.ints .u64 4 (zs (wd (L.getD i 0)))]) rfl (Nat.le_refl _) (nums_at L i h_t9) Ag.h Sz.h)) ?_
   refine s_op k_al ?_
   refine s_st k_st ?_
   refine qx hP hn ?_
   refine o2 ?_
   refine s_op (k_call [] (con := cmp_n (L.getD i 0) m (hL i h_t9) hm)) ?_
   refine s_op (k_ge0 (L.getD i 0) m) ?_
   refine s_nil trivial (n_wp ?_)
   refine w_F rfl ?_ (decide_eq_false (by omega))
   refine w_skip (n_blo (n_wp (g_reg hP hn ?_)))
   refine o2 ?_
   refine s_nil trivial ?_
   exact n_round (L.length - (i + 1)) (by omega) ⟨i + 1, by omega, rfl, fun k hk => (Nat.lt_succ_iff_lt_or_eq.1 hk).elim (hup k) (fun e => e ▸ hlt), rfl, rfl⟩ (wk hE [])
 · refine w_exit (x_thn (x_thn (x_eq (n_wp (qz hP hn ?_)))))
   refine s_op k_as ?_
   refine s_nil trivial (n_wp (w_ret ?_))
   exact d_ret hP hn hE [] (by first | exact r_tmp Tryz.results75 | exact r_tmpa Tryz.results75)

theorem bel_no (m : Nat) (L : List Nat) (hm : m < 2 ^ 256) (hL : ∀ i, i < L.length → L.getD i 0 < 2 ^ 256) (hLb : L.length ≤ 1000000) (j : Nat) (hj : j < L.length) (hno : ¬ L.getD j 0 < m) : Con Tryz.prog 75 [.s (NUMS L), .s (MP m)] [] (.s (.bool false)) [] := by
 refine con_in 17 Tryz.func75 rfl rfl (m := 0) rfl ?_
 intro E hP hn hE
 refine qz hP hn ?_
 refine s_op k_as ?_
 refine s_nil trivial (n_wp (w_seq (qz hP hn ?_)))
 refine o3 ?_
 refine s_nil trivial (n_wp (w_block ?_))
 refine c_loop (fun m_ T H => ∃ i, i ≤ L.length ∧ m_ = L.length - i ∧ (∀ k, k < i → L.getD k 0 < m) ∧ T = [(1, .s (MP m)), (6, .s (NUMS L)), (7, .s (.int .i64 ((L.length : Nat) : Int))), (8, .s (.int .i64 ((i : Nat) : Int)))] ∧ H = []) (L.length) ⟨0, by omega, rfl, fun k hk => absurd hk (Nat.not_lt_zero k), rfl, rfl⟩ (wk hE []) ?_
 rintro n_ T_ H_ ⟨i, hi, rfl, hup, rfl, rfl⟩
 refine qz hP hn ?_
 refine s_op k_lss ?_
 refine s_nil trivial (n_wp (w_seq ?_))
 have h_t9 : i < L.length := by
  rcases Nat.lt_or_ge i L.length with h | h
  · exact h
  · exact absurd (hup j (by omega)) hno
 refine w_T rfl ?_ (decide_eq_true h_t9)
 refine w_skip (n_wp (w_seq (w_block (qz hP hn ?_))))
 refine s_op k_ix ?_
 refine s_op (k_ld (by exact l_loadf_agg (segs := (L.map NR).getD i []) (sub := [.ints .u64 4 (zs (wd (L.getD i 0)))]) rfl (Nat.le_refl _) (nums_at L i h_t9) Ag.h Sz.h)) ?_
 refine s_op k_al ?_
 refine s_st k_st ?_
 refine qx hP hn ?_
 refine o2 ?_
 refine s_op (k_call [] (con := cmp_n (L.getD i 0) m (hL i h_t9) hm)) ?_
 refine s_op (k_ge0 (L.getD i 0) m) ?_
 refine s_nil trivial (n_wp ?_)
 refine w_if rfl (fun h_t15 => ?_) (fun h_t15 => ?_)
 · refine qz hP hn ?_
   refine s_op k_as ?_
   refine s_nil trivial (n_wp (w_ret (r_blo (r_thn (r_thn (r_blo (r_thn ?_)))))))
   exact d_ret hP hn hE [] (by first | exact r_tmp Tryz.results75 | exact r_tmpa Tryz.results75)
 · have hlt : L.getD i 0 < m := by omega
   refine w_skip (n_blo (n_wp (g_reg hP hn ?_)))
   refine o2 ?_
   refine s_nil trivial ?_
   exact n_round (L.length - (i + 1)) (by omega) ⟨i + 1, by omega, rfl, fun k hk => (Nat.lt_succ_iff_lt_or_eq.1 hk).elim (hup k) (fun e => e ▸ hlt), rfl, rfl⟩ (wk hE [])

theorem bel1_n (m a : Nat) (hm : m < 2 ^ 256) (ha : a < 2 ^ 256) : Con Tryz.prog 75 [.s (NUMS [a]), .s (MP m)] [] (.s (.bool (decide (a < m)))) [] := by
 have hL : ∀ i, i < [a].length → [a].getD i 0 < 2 ^ 256 := fun i hi => by match i, hi with | 0, _ => exact ha
 by_cases h : a < m
 · rw [decide_eq_true h]; exact bel_y m [a] hm hL (Nat.le_of_ble_eq_true rfl) (fun i hi => by match i, hi with | 0, _ => exact h)
 · rw [decide_eq_false h]; exact bel_no m [a] hm hL (Nat.le_of_ble_eq_true rfl) 0 (Nat.le_of_ble_eq_true rfl) h
theorem bel2_n (m a b : Nat) (hm : m < 2 ^ 256) (ha : a < 2 ^ 256) (hb : b < 2 ^ 256) : Con Tryz.prog 75 [.s (NUMS [a, b]), .s (MP m)] [] (.s (.bool (decide (a < m) && decide (b < m)))) [] := by
 have hL : ∀ i, i < [a, b].length → [a, b].getD i 0 < 2 ^ 256 := fun i hi => by match i, hi with | 0, _ => exact ha | 1, _ => exact hb
 by_cases h : a < m
 · by_cases h2 : b < m
   · rw [decide_eq_true h, decide_eq_true h2]; exact bel_y m [a, b] hm hL (Nat.le_of_ble_eq_true rfl) (fun i hi => by match i, hi with | 0, _ => exact h | 1, _ => exact h2)
   · rw [decide_eq_false h2, Bool.and_false]; exact bel_no m [a, b] hm hL (Nat.le_of_ble_eq_true rfl) 1 (Nat.le_of_ble_eq_true rfl) h2
 · rw [decide_eq_false h, Bool.false_and]; exact bel_no m [a, b] hm hL (Nat.le_of_ble_eq_true rfl) 0 (Nat.le_of_ble_eq_true rfl) h

theorem key_y (p q g : Nat) (hp : p < 2 ^ 256) (hq : q < 2 ^ 256) (hg : g < 2 ^ 256) (a : Nat) (ha : a < 2 ^ 256) (hf : fineP p q g = true) (h0 : a ≠ 0) (haq : a < q) : Con Tryz.prog 18 [.agg (GRP p q g), .agg [.ints .u64 4 (zs (wd a))]] [] (.tup [.agg [.ints .u64 4 (zs (wd (expP p g a)))], .s (.int .i64 (expE p g))]) [] := by
 refine con_in 31 Tryz.func18 rfl rfl (m := 0) rfl ?_
 intro E hP hn hE
 refine qz hP hn ?_
 refine s_op k_bx ?_
 refine s_op k_bx ?_
 refine o2 ?_
 refine s_nil trivial (n_wp (w_seq (w_seq ?_)))
 refine g_any hP hn ?_
 refine s_op k_ld ?_
 refine s_op (k_call [] (con := fine_n p q g hp hq hg)) ?_
 rw [hf]
 refine o2 ?_
 refine s_on rfl rfl rfl k_ld ?_
 refine s_on rfl rfl rfl (k_call [] (con := of_n 0 (by omega))) ?_
 refine s_on rfl rfl rfl (k_eqN a 0 ha (by omega)) ?_
 rw [decide_eq_false h0]
 refine o2 ?_
 refine s_on rfl rfl rfl k_fa ?_
 refine s_on rfl rfl rfl k_ld ?_
 refine s_on rfl rfl rfl (k_call [] (con := below_n q)) ?_
 refine s_on rfl rfl rfl k_ld ?_
 refine s_on rfl rfl rfl (k_bsR [NR a]) ?_
 refine s_on rfl rfl rfl (k_callN [MP q] (con := bel1_n q a hq ha)) ?_
 rw [decide_eq_true haq]
 refine s_on rfl rfl rfl k_not ?_
 refine s_op k_pk ?_
 refine s_nil (by kernel_rfl) ?_
 refine n_wp ?_
 refine w_F rfl ?_ 
 refine w_skip (n_wp (qz hP hn ?_))
 refine o4 ?_
 refine s_op (k_call [] (con := gexp_n p q g hp hq hg g a hg ha)) ?_
 refine o2 ?_
 refine s_st k_st ?_
 refine s_op k_as ?_
 refine s_nil trivial (n_wp (w_ret ?_))
 exact d_ret hP hn hE [] (ret2 Tryz.results18 r_cella (by first | exact ri_tmp rfl | exact ri_tmpa rfl))

theorem key_no1 (p q g : Nat) (hp : p < 2 ^ 256) (hq : q < 2 ^ 256) (hg : g < 2 ^ 256) (a : Nat) (ha : a < 2 ^ 256) (hf : fineP p q g = false) : Con Tryz.prog 18 [.agg (GRP p q g), .agg [.ints .u64 4 (zs (wd a))]] [] (.tup [.agg [.ints .u64 4 (zs (wd 0))], .s (.int .i64 1)]) [] := by
 refine con_in 31 Tryz.func18 rfl rfl (m := 0) rfl ?_
 intro E hP hn hE
 refine qz hP hn ?_
 refine s_op k_bx ?_
 refine s_op k_bx ?_
 refine o2 ?_
 refine s_nil trivial (n_wp (w_seq (w_seq ?_)))
 refine g_any hP hn ?_
 refine s_op k_ld ?_
 refine s_op (k_call [] (con := fine_n p q g hp hq hg)) ?_
 rw [hf]
 refine o2 ?_
 refine s_off rfl rfl rfl ?_
 refine s_off rfl rfl rfl ?_
 refine s_off rfl rfl rfl ?_
 refine o2 ?_
 refine s_off rfl rfl rfl ?_
 refine s_off rfl rfl rfl ?_
 refine s_off rfl rfl rfl ?_
 refine s_off rfl rfl rfl ?_
 refine s_off rfl rfl rfl ?_
 refine s_off rfl rfl rfl ?_
 refine s_off rfl rfl rfl ?_
 refine s_op k_pk ?_
 refine s_nil (by kernel_rfl) ?_
 refine n_wp ?_
 refine w_T rfl ?_ 
 refine qz hP hn ?_
 refine s_op (k_bd (by exact a_buildK (n := 4) (zs (wd 0)) (by kernel_rfl) (by kernel_rfl) (by rw [zs_len, wd_len]))) ?_
 refine s_st k_st ?_
 refine s_op k_as ?_
 refine s_nil trivial (n_wp (w_ret (r_thn ?_)))
 exact d_ret hP hn hE [] (ret2 Tryz.results18 r_cella (by first | exact ri_tmp rfl | exact ri_tmpa rfl))

theorem key_no2 (p q g : Nat) (hp : p < 2 ^ 256) (hq : q < 2 ^ 256) (hg : g < 2 ^ 256) (a : Nat) (ha : a < 2 ^ 256) (hf : fineP p q g = true) (h0 : a = 0) : Con Tryz.prog 18 [.agg (GRP p q g), .agg [.ints .u64 4 (zs (wd a))]] [] (.tup [.agg [.ints .u64 4 (zs (wd 0))], .s (.int .i64 1)]) [] := by
 refine con_in 31 Tryz.func18 rfl rfl (m := 0) rfl ?_
 intro E hP hn hE
 refine qz hP hn ?_
 refine s_op k_bx ?_
 refine s_op k_bx ?_
 refine o2 ?_
 refine s_nil trivial (n_wp (w_seq (w_seq ?_)))
 refine g_any hP hn ?_
 refine s_op k_ld ?_
 refine s_op (k_call [] (con := fine_n p q g hp hq hg)) ?_
 rw [hf]
 refine o2 ?_
 refine s_on rfl rfl rfl k_ld ?_
 refine s_on rfl rfl rfl (k_call [] (con := of_n 0 (by omega))) ?_
 refine s_on rfl rfl rfl (k_eqN a 0 ha (by omega)) ?_
 rw [decide_eq_true h0]
 refine o2 ?_
 refine s_off rfl rfl rfl ?_
 refine s_off rfl rfl rfl ?_
 refine s_off rfl rfl rfl ?_
 refine s_off rfl rfl rfl ?_
 refine s_off rfl rfl rfl ?_
 refine s_off rfl rfl rfl ?_
 refine s_off rfl rfl rfl ?_
 refine s_op k_pk ?_
 refine s_nil (by kernel_rfl) ?_
 refine n_wp ?_
 refine w_T rfl ?_ 
 refine qz hP hn ?_
 refine s_op (k_bd (by exact a_buildK (n := 4) (zs (wd 0)) (by kernel_rfl) (by kernel_rfl) (by rw [zs_len, wd_len]))) ?_
 refine s_st k_st ?_
 refine s_op k_as ?_
 refine s_nil trivial (n_wp (w_ret (r_thn ?_)))
 exact d_ret hP hn hE [] (ret2 Tryz.results18 r_cella (by first | exact ri_tmp rfl | exact ri_tmpa rfl))

theorem key_no3 (p q g : Nat) (hp : p < 2 ^ 256) (hq : q < 2 ^ 256) (hg : g < 2 ^ 256) (a : Nat) (ha : a < 2 ^ 256) (hf : fineP p q g = true) (h0 : a ≠ 0) (haq : ¬ a < q) : Con Tryz.prog 18 [.agg (GRP p q g), .agg [.ints .u64 4 (zs (wd a))]] [] (.tup [.agg [.ints .u64 4 (zs (wd 0))], .s (.int .i64 1)]) [] := by
 refine con_in 31 Tryz.func18 rfl rfl (m := 0) rfl ?_
 intro E hP hn hE
 refine qz hP hn ?_
 refine s_op k_bx ?_
 refine s_op k_bx ?_
 refine o2 ?_
 refine s_nil trivial (n_wp (w_seq (w_seq ?_)))
 refine g_any hP hn ?_
 refine s_op k_ld ?_
 refine s_op (k_call [] (con := fine_n p q g hp hq hg)) ?_
 rw [hf]
 refine o2 ?_
 refine s_on rfl rfl rfl k_ld ?_
 refine s_on rfl rfl rfl (k_call [] (con := of_n 0 (by omega))) ?_
 refine s_on rfl rfl rfl (k_eqN a 0 ha (by omega)) ?_
 rw [decide_eq_false h0]
 refine o2 ?_
 refine s_on rfl rfl rfl k_fa ?_
 refine s_on rfl rfl rfl k_ld ?_
 refine s_on rfl rfl rfl (k_call [] (con := below_n q)) ?_
 refine s_on rfl rfl rfl k_ld ?_
 refine s_on rfl rfl rfl (k_bsR [NR a]) ?_
 refine s_on rfl rfl rfl (k_callN [MP q] (con := bel1_n q a hq ha)) ?_
 rw [decide_eq_false haq]
 refine s_on rfl rfl rfl k_not ?_
 refine s_op k_pk ?_
 refine s_nil (by kernel_rfl) ?_
 refine n_wp ?_
 refine w_T rfl ?_ 
 refine qz hP hn ?_
 refine s_op (k_bd (by exact a_buildK (n := 4) (zs (wd 0)) (by kernel_rfl) (by kernel_rfl) (by rw [zs_len, wd_len]))) ?_
 refine s_st k_st ?_
 refine s_op k_as ?_
 refine s_nil trivial (n_wp (w_ret (r_thn ?_)))
 exact d_ret hP hn hE [] (ret2 Tryz.results18 r_cella (by first | exact ri_tmp rfl | exact ri_tmpa rfl))

end Go.Proofs.X
end

section
set_option maxRecDepth 100000
set_option maxHeartbeats 4000000
open Go Go.Bx Go.Proofs
namespace Go.Proofs.X
theorem take_map_s (L : List Nat) {i : Nat} (h : i < L.length) : (L.take (i + 1)).map (be 32) = (L.take i).map (be 32) ++ [be 32 (L.getD i 0)] := by
  have h2 : L.take (i + 1) = L.take i ++ [L.getD i 0] := by rw [List.take_add_one, List.getD_eq_getElem?_getD, List.getElem?_eq_getElem h]; rfl
  rw [h2, List.map_append]; rfl
theorem long_ok (L : List Nat) {B : List Int} (hB : B.length = 32) : ∀ i, i < (L.map (be 32) ++ [B]).length → 0 < ((L.map (be 32) ++ [B]).getD i []).length ∧ ((L.map (be 32) ++ [B]).getD i []).length ≤ 900000 := fun i hi => by
  have h : ∀ x ∈ L.map (be 32) ++ [B], x.length = 32 := fun x hx => by
    rcases List.mem_append.1 hx with h | h
    · obtain ⟨n, _, rfl⟩ := List.mem_map.1 h; exact be_len _ _
    · simp at h; subst h; exact hB
  have := h _ (List.getElem_mem hi)
  rw [List.getD_eq_getElem?_getD, List.getElem?_eq_getElem hi, Option.getD_some, this]
  exact ⟨by decide, by decide⟩
theorem conv_grR {H : Heap} {id n c : Nat} {L : List (List Int)} (hb : hget H id = some ⟨false, [.rows c 1 (rwF L)]⟩) (hc : n = c) (hn : L.length = n) : AConv [id] H (.s (.gro id 1 n)) (.s (ROWS L)) := by
  subst hc; subst hn
  exact conv_grz hb rfl rfl (Nat.le_refl _)
attribute [local irreducible] bitsN wd dg be rr gN cmpI fineP inP expP expE rwF nmB asN strL
theorem pl0_n (n : Nat) : Con Tryz.prog 71 [.s (.fzi .u8 []), .agg [.ints .u64 4 (zs (wd n))]] [] (.s (.fzi .u8 (be 32 n))) [] := pl_n [] n (by decide)

theorem number_n (p q g : Nat) (hp : p < 2 ^ 256) (hq : q < 2 ^ 256) (hg : g < 2 ^ 256) (s : ByteArray) (B : List Int) (L : List Nat) (hq0 : q ≠ 0) (hs : 0 < s.size) (hs2 : s.size ≤ 1000) (hB : B.length = 32) (hLb : L.length < 100) : Con Tryz.prog 115 [.agg (GRP p q g), .s (.val (.string s)), .agg [.ints .u8 32 B], .s (NUMS L)] [] (.agg [.ints .u64 4 (zs (wd (nmB (strL s) (L.map (be 32) ++ [B]) q)))]) [] := by
 refine con_in 42 Tryz.func115 rfl rfl (m := 0) rfl ?_
 intro E hP hn hE
 refine qz hP hn ?_
 refine s_op k_bx ?_
 refine s_op k_bx ?_
 refine s_op k_al ?_
 refine qx hP hn ?_
 refine o3 ?_
 refine s_op (l_make_gro (l := 0) (c := L.length + 1) (segs := [.rows 0 1 (rwF [])]) rfl rfl rfl rfl rfl (by show 24 * _ ≤ _; omega) (by omega) Und.h Inf.h (by exact rfl) (by exact rfl) (by exact rfl) LenN.h rfl) ?_
 refine s_op k_as ?_
 refine s_nil trivial (n_wp (w_seq (qz hP hn ?_)))
 refine o3 ?_
 refine s_nil trivial (n_wp (w_block ?_))
 refine c_loop (fun m_ T H => ∃ i, i ≤ L.length ∧ m_ = L.length - i ∧ T = [(1, .s (.val (.string s))), (4, .s (.ptr 0 0 0)), (6, .s (.ptr 1 0 0)), (8, .s (.ptr 2 0 0)), (9, .s (.gro 3 1 i)), (18, .s (NUMS L)), (19, .s (.int .i64 ((L.length : Nat) : Int))), (20, .s (.int .i64 ((i : Nat) : Int)))] ∧ H = [some ⟨true, GRP p q g⟩, some ⟨true, [.ints .u8 32 B]⟩, some ⟨true, [.ints .u64 4 (zs (List.replicate 4 0))]⟩, some ⟨true, [.rows i 1 (rwF ((L.take i).map (be 32)))]⟩]) (L.length) ⟨0, by omega, rfl, rfl, rfl⟩ (wk hE [0, 1, 2, 3]) ?_
 rintro n_ T_ H_ ⟨i, hi, rfl, rfl, rfl⟩
 refine qz hP hn ?_
 refine s_op k_lss ?_
 refine s_nil trivial (n_wp (w_seq ?_))
 refine w_if rfl (fun h_t21 => ?_) (fun h_t21 => ?_)
 · have hmi : ((L.take i).map (be 32)).length = i := by simp; omega
   refine w_skip (n_wp (w_seq (w_block (qz hP hn ?_))))
   refine s_op k_ix ?_
   refine s_op (k_ld (by exact l_loadf_agg (segs := (L.map NR).getD i []) (sub := [.ints .u64 4 (zs (wd (L.getD i 0)))]) rfl (Nat.le_refl _) (nums_at L i h_t21) Ag.h Sz.h)) ?_
   refine s_op k_al ?_
   refine s_st k_st ?_
   refine qy hP hn ?_
   refine o2 ?_
   refine s_op (k_call [] (con := pl0_n (L.getD i 0))) ?_
   refine s_op (k_bsz [.fzi .u8 (be 32 (L.getD i 0))]) ?_
   refine s_op (k_apr (rwF ((L.take i).map (be 32) ++ [be 32 (L.getD i 0)])) (hg := by exact fun a b h1 h2 => by rw [show b = 0 by omega]; exact rwF_in _ _ (by rw [hmi]; exact h1)) (hgn := by exact fun a b h1 h2 => by rw [show i + a = ((L.take i).map (be 32)).length + a by rw [hmi], rwF_new _ _ b h1]; exact row1_at _ h1)) ?_
   refine s_op k_as ?_
   refine s_nil trivial (n_blo (n_wp (g_reg hP hn ?_)))
   refine o2 ?_
   refine s_nil trivial ?_
   exact n_round (L.length - (i + 1)) (by omega) ⟨i + 1, by omega, rfl, rfl, by rw [take_map_s L h_t21]⟩ (wk hE [0, 1, 2, 6])
 · have hiL : i = L.length := by omega
   subst hiL
   rw [List.take_length]
   have hml : (L.map (be 32)).length = L.length := by simp
   have hp2 := long_ok L hB
   refine w_exit (x_thn (x_thn (x_eq (n_wp (w_seq ?_)))))
   refine w_weak (frz_ptr 6 32) ?_
   refine g_any hP hn ?_
   refine o4 ?_
   refine s_op k_slf ?_
   refine s_op (k_bsz [.fzi .u8 B]) ?_
   refine s_op (k_apr (rwF (L.map (be 32) ++ [B])) (H' := [some ⟨true, GRP p q g⟩, none, some ⟨true, [.ints .u64 4 (zs (List.replicate 4 0))]⟩, none, none, some ⟨true, [.rows (L.length + 1) 1 (rwF (L.map (be 32) ++ [B]))]⟩]) (hH := by exact rfl) (hg := by exact fun a b h1 h2 => by rw [show b = 0 by omega]; exact rwF_in _ _ (by rw [hml]; exact h1)) (hgn := by exact fun a b h1 h2 => by rw [show L.length + a = (L.map (be 32)).length + a by rw [hml], rwF_new _ _ b h1]; exact row1_at _ h1)) ?_
   refine s_op (k_tmp 5 (h := k_call [] (R := [5]) (hargs := by exact .cons (R1 := []) (R2 := [5]) rfl .same (.cons (R1 := []) (R2 := [5]) rfl .same (.cons (R1 := [5]) (R2 := []) rfl (conv_grR (L := L.map (be 32) ++ [B]) rfl rfl (by simp)) .nil))) (con := num_n s (L.map (be 32) ++ [B]) q hq hq0 (by simp) hs hs2 (by simp; omega) hp2))) ?_
   refine o4 ?_
   refine s_st k_st ?_
   refine s_op k_as ?_
   refine s_nil (by kernel_rfl) ?_
   refine n_wp (qz hP hn ?_)
   refine s_op k_ld ?_
   refine s_st k_st ?_
   refine s_nil trivial (n_wp (w_ret ?_))
   exact d_ret hP hn hE [] (r_cell Tryz.results115)

end Go.Proofs.X
end

section
set_option maxRecDepth 100000
set_option maxHeartbeats 4000000
open Go Go.Bx Go.Proofs
namespace Go.Proofs.X
theorem draw_n (p q g : Nat) (hp : p < 2 ^ 256) (hq : q < 2 ^ 256) (hg : g < 2 ^ 256) (a : Nat) (B : List Int) (hq0 : q ≠ 0) (hB : B.length = 32) : Con Tryz.prog 115 [.agg (GRP p q g), .s (.val (.string drawS)), .agg [.ints .u8 32 B], .s (NUMS [a])] [] (.agg [.ints .u64 4 (zs (wd (dr0 q a B)))]) [] := number_n p q g hp hq hg drawS B [a] hq0 (by decide) (by decide) hB (Nat.le_of_ble_eq_true rfl)
theorem sign2_n (p q g : Nat) (hp : p < 2 ^ 256) (hq : q < 2 ^ 256) (hg : g < 2 ^ 256) (x y : Nat) (B : List Int) (hq0 : q ≠ 0) (hB : B.length = 32) : Con Tryz.prog 115 [.agg (GRP p q g), .s (.val (.string signS)), .agg [.ints .u8 32 B], .s (NUMS [x, y])] [] (.agg [.ints .u64 4 (zs (wd (sg0 q x y B)))]) [] := number_n p q g hp hq hg signS B [x, y] hq0 (by decide) (by decide) hB (Nat.le_of_ble_eq_true rfl)
theorem key_f (p q g : Nat) (hp : p < 2 ^ 256) (hq : q < 2 ^ 256) (hg : g < 2 ^ 256) (a : Nat) (ha : a < 2 ^ 256) (hf : fineP p q g = true) (h0 : a ≠ 0) (haq : a < q) : Con Tryz.prog 18 [.agg (GRP p q g), .agg [.ints .u64 4 (zs (wd a))]] [] (.tup [.agg [.ints .u64 4 (zs (wd (expP p g a)))], .s (.int .i64 0)]) [] := by
 have h := key_y p q g hp hq hg a ha hf h0 haq
 rw [expE_0 (fine_may hf).1] at h
 exact h
theorem gexp_f (p q g : Nat) (hp : p < 2 ^ 256) (hq : q < 2 ^ 256) (hg : g < 2 ^ 256) (b n : Nat) (hb : b < 2 ^ 256) (hnn : n < 2 ^ 256) (hmay : mayP p b = true) : Con Tryz.prog 43 [.agg (GRP p q g), .agg [.ints .u64 4 (zs (wd b))], .agg [.ints .u64 4 (zs (wd n))]] [] (.tup [.agg [.ints .u64 4 (zs (wd (expP p b n)))], .s (.int .i64 0)]) [] := by
 have h := gexp_n p q g hp hq hg b n hb hnn
 rw [expE_0 hmay] at h
 exact h

attribute [local irreducible] bitsN wd dg be rr gN cmpI fineP mayP inP expP expE rwF nmB asN strL dr0 drP sg0
theorem sign_y (p q g : Nat) (hp : p < 2 ^ 256) (hq : q < 2 ^ 256) (hg : g < 2 ^ 256) (a : Nat) (B : List Int) (ha : a < 2 ^ 256) (hB : B.length = 32) (hf : fineP p q g = true) (h0 : a ≠ 0) (haq : a < q) : Con Tryz.prog 87 [.agg (GRP p q g), .agg [.ints .u64 4 (zs (wd a))], .agg [.ints .u8 32 B]] [] (.tup [.agg [.ints .u64 4 (zs (wd (sg0 q (expP p g a) (expP p g (drP q a B)) B))), .ints .u64 4 (zs (wd ((drP q a B + a * sg0 q (expP p g a) (expP p g (drP q a B)) B % q) % q)))], .s (.int .i64 0)]) [] := by
 refine con_in 70 Tryz.func87 rfl rfl (m := 0) rfl ?_
 intro E hP hn hE
 have hmay := (fine_may hf).1
 have hq1 := (fine_may hf).2
 have hq0 : q ≠ 0 := by omega
 have hdl := @drP_lt q a B hq1
 refine qz hP hn ?_
 refine s_op k_bx ?_
 refine s_op k_bx ?_
 refine s_op k_bx ?_
 refine o2 ?_
 refine qx hP hn ?_
 refine o2 ?_
 refine s_op (k_call [] (con := key_f p q g hp hq hg a ha hf h0 haq)) ?_
 refine o4 ?_
 refine s_st k_st ?_
 refine s_op k_as ?_
 refine s_nil trivial (n_wp (w_seq (qz hP hn ?_)))
 refine o2 ?_
 refine s_nil trivial (n_wp ?_)
 refine w_F rfl ?_ 
 refine w_skip (n_wp (qz hP hn ?_))
 refine o3 ?_
 refine s_op (k_bsR [NR a]) ?_
 refine s_op (k_call [] (con := draw_n p q g hp hq hg a B hq0 hB)) ?_
 refine s_op k_al ?_
 refine s_st k_st ?_
 refine s_nil trivial (n_wp (w_seq (w_seq ?_)))
 refine g_any hP hn ?_
 refine s_op k_ld ?_
 refine s_op (k_call [] (con := of_n 0 (by omega))) ?_
 refine s_op (k_eqN (dr0 q a B) 0 (by have := @dr0_lt q a B hq1; omega) (by omega)) ?_
 refine s_nil (by kernel_rfl) ?_
 refine n_wp ?_
 refine w_if rfl (fun h_t35 => ?_) (fun h_t35 => ?_)
 · have hd := drP_1 h_t35
   refine g_reg hP hn ?_
   refine s_op (k_call [] (con := of_n 1 (by omega))) ?_
   refine s_st k_st ?_
   refine s_nil trivial (n_wp (w_seq ?_))
   rw [hd]
   refine g_reg hP hn ?_
   refine o4 ?_
   refine s_op (k_call [] (con := gexp_f p q g hp hq hg g (drP q a B) hg (by omega) hmay)) ?_
   refine o4 ?_
   refine s_st k_st ?_
   refine s_op k_as ?_
   refine qx hP hn ?_
   refine o4 ?_
   refine s_op (k_bsR [NR (expP p g a), NR (expP p g (drP q a B))]) ?_
   refine s_op (k_call [] (con := sign2_n p q g hp hq hg (expP p g a) (expP p g (drP q a B)) B hq0 hB)) ?_
   refine s_op k_al ?_
   refine s_st k_st ?_
   refine qx hP hn ?_
   refine o4 ?_
   refine s_op (k_call [] (con := mmul_n a (sg0 q (expP p g a) (expP p g (drP q a B)) B) q haq (sg0_lt hq1) hq hq1)) ?_
   refine o4 ?_
   refine s_st k_st ?_
   refine s_op k_as ?_
   refine qx hP hn ?_
   refine o4 ?_
   refine s_op (k_call [] (con := madd_n (drP q a B) (a * sg0 q (expP p g a) (expP p g (drP q a B)) B % q) q hdl (Nat.mod_lt _ (by omega)) hq hq1)) ?_
   refine o4 ?_
   refine s_st k_st ?_
   refine s_op k_as ?_
   refine qx hP hn ?_
   refine o2 ?_
   refine s_op k_bd ?_
   refine s_st k_st ?_
   refine s_op k_as ?_
   refine s_nil trivial (n_wp (w_ret ?_))
   exact d_ret hP hn hE [] (ret2 Tryz.results87 r_cella (by first | exact ri_tmp rfl | exact ri_tmpa rfl))
 · have hd := drP_2 h_t35
   refine w_skip (n_wp (w_seq ?_))
   rw [hd]
   refine g_reg hP hn ?_
   refine o4 ?_
   refine s_op (k_call [] (con := gexp_f p q g hp hq hg g (drP q a B) hg (by omega) hmay)) ?_
   refine o4 ?_
   refine s_st k_st ?_
   refine s_op k_as ?_
   refine qx hP hn ?_
   refine o4 ?_
   refine s_op (k_bsR [NR (expP p g a), NR (expP p g (drP q a B))]) ?_
   refine s_op (k_call [] (con := sign2_n p q g hp hq hg (expP p g a) (expP p g (drP q a B)) B hq0 hB)) ?_
   refine s_op k_al ?_
   refine s_st k_st ?_
   refine qx hP hn ?_
   refine o4 ?_
   refine s_op (k_call [] (con := mmul_n a (sg0 q (expP p g a) (expP p g (drP q a B)) B) q haq (sg0_lt hq1) hq hq1)) ?_
   refine o4 ?_
   refine s_st k_st ?_
   refine s_op k_as ?_
   refine qx hP hn ?_
   refine o4 ?_
   refine s_op (k_call [] (con := madd_n (drP q a B) (a * sg0 q (expP p g a) (expP p g (drP q a B)) B % q) q hdl (Nat.mod_lt _ (by omega)) hq hq1)) ?_
   refine o4 ?_
   refine s_st k_st ?_
   refine s_op k_as ?_
   refine qx hP hn ?_
   refine o2 ?_
   refine s_op k_bd ?_
   refine s_st k_st ?_
   refine s_op k_as ?_
   refine s_nil trivial (n_wp (w_ret ?_))
   exact d_ret hP hn hE [] (ret2 Tryz.results87 r_cella (by first | exact ri_tmp rfl | exact ri_tmpa rfl))

end Go.Proofs.X
end

section
set_option maxRecDepth 100000
set_option maxHeartbeats 4000000
open Go Go.Bx Go.Proofs
namespace Go.Proofs.X
theorem key_no (p q g : Nat) (hp : p < 2 ^ 256) (hq : q < 2 ^ 256) (hg : g < 2 ^ 256) (a : Nat) (ha : a < 2 ^ 256) (hno : (fineP p q g && (!decide (a = 0) && decide (a < q))) = false) : Con Tryz.prog 18 [.agg (GRP p q g), .agg [.ints .u64 4 (zs (wd a))]] [] (.tup [.agg [.ints .u64 4 (zs (wd 0))], .s (.int .i64 1)]) [] := by
 cases hf : fineP p q g with
 | false => exact key_no1 p q g hp hq hg a ha hf
 | true =>
  rw [hf, Bool.true_and] at hno
  by_cases h0 : a = 0
  · exact key_no2 p q g hp hq hg a ha hf h0
  · rw [decide_eq_false h0] at hno
    exact key_no3 p q g hp hq hg a ha hf h0 (of_decide_eq_false hno)

attribute [local irreducible] bitsN wd dg be rr gN cmpI subN fineP mayP inP expP expE rwF nmB asN strL dr0 drP sg0 ckA
theorem check_no1 (p q g : Nat) (hp : p < 2 ^ 256) (hq : q < 2 ^ 256) (hg : g < 2 ^ 256) (k : Nat) (B : List Int) (c s : Nat) (hk : k < 2 ^ 256) (hB : B.length = 32) (hc : c < 2 ^ 256) (hs : s < 2 ^ 256) (hf : fineP p q g = false)  : Con Tryz.prog 97 [.agg (GRP p q g), .agg [.ints .u64 4 (zs (wd k))], .agg [.ints .u8 32 B], .agg [.ints .u64 4 (zs (wd c)), .ints .u64 4 (zs (wd s))]] [] (.s (.bool false)) [] := by
 refine con_in 83 Tryz.func97 rfl rfl (m := 0) rfl ?_
 intro E hP hn hE
 refine qz hP hn ?_
 refine s_op k_bx ?_
 refine s_op k_bx ?_
 refine s_op k_bx ?_
 refine s_op k_bx ?_
 refine s_op k_as ?_
 refine s_nil trivial (n_wp (w_seq (w_seq ?_)))
 refine g_any hP hn ?_
 refine s_op k_ld ?_
 refine s_op (k_call [] (con := fine_n p q g hp hq hg)) ?_
 rw [hf]
 refine o2 ?_
 refine s_off rfl rfl rfl ?_
 refine s_off rfl rfl rfl ?_
 refine s_off rfl rfl rfl ?_
 refine s_off rfl rfl rfl ?_
 refine o2 ?_
 refine s_off rfl rfl rfl ?_
 refine s_off rfl rfl rfl ?_
 refine s_off rfl rfl rfl ?_
 refine o2 ?_
 refine s_off rfl rfl rfl ?_
 refine s_off rfl rfl rfl ?_
 refine s_off rfl rfl rfl ?_
 refine s_off rfl rfl rfl ?_
 refine s_off rfl rfl rfl ?_
 refine s_off rfl rfl rfl ?_
 refine s_off rfl rfl rfl ?_
 refine s_off rfl rfl rfl ?_
 refine s_off rfl rfl rfl ?_
 refine s_off rfl rfl rfl ?_
 refine s_op k_pk ?_
 refine s_nil (by kernel_rfl) ?_
 refine n_wp ?_
 refine w_T rfl ?_ 
 refine qz hP hn ?_
 refine s_op k_as ?_
 refine s_nil trivial (n_wp (w_ret (r_thn ?_)))
 exact d_ret hP hn hE [] (by first | exact r_tmp Tryz.results97 | exact r_tmpa Tryz.results97)

theorem check_no2 (p q g : Nat) (hp : p < 2 ^ 256) (hq : q < 2 ^ 256) (hg : g < 2 ^ 256) (k : Nat) (B : List Int) (c s : Nat) (hk : k < 2 ^ 256) (hB : B.length = 32) (hc : c < 2 ^ 256) (hs : s < 2 ^ 256) (hf : fineP p q g = true) (hin : inP p q k = false)  : Con Tryz.prog 97 [.agg (GRP p q g), .agg [.ints .u64 4 (zs (wd k))], .agg [.ints .u8 32 B], .agg [.ints .u64 4 (zs (wd c)), .ints .u64 4 (zs (wd s))]] [] (.s (.bool false)) [] := by
 refine con_in 83 Tryz.func97 rfl rfl (m := 0) rfl ?_
 intro E hP hn hE
 refine qz hP hn ?_
 refine s_op k_bx ?_
 refine s_op k_bx ?_
 refine s_op k_bx ?_
 refine s_op k_bx ?_
 refine s_op k_as ?_
 refine s_nil trivial (n_wp (w_seq (w_seq ?_)))
 refine g_any hP hn ?_
 refine s_op k_ld ?_
 refine s_op (k_call [] (con := fine_n p q g hp hq hg)) ?_
 rw [hf]
 refine o2 ?_
 refine s_on rfl rfl rfl k_ld ?_
 refine s_on rfl rfl rfl k_ld ?_
 refine s_on rfl rfl rfl (k_call [] (con := in_n p q g hp hq hg k hk)) ?_
 rw [hin]
 refine s_on rfl rfl rfl k_not ?_
 refine o2 ?_
 refine s_off rfl rfl rfl ?_
 refine s_off rfl rfl rfl ?_
 refine s_off rfl rfl rfl ?_
 refine o2 ?_
 refine s_off rfl rfl rfl ?_
 refine s_off rfl rfl rfl ?_
 refine s_off rfl rfl rfl ?_
 refine s_off rfl rfl rfl ?_
 refine s_off rfl rfl rfl ?_
 refine s_off rfl rfl rfl ?_
 refine s_off rfl rfl rfl ?_
 refine s_off rfl rfl rfl ?_
 refine s_off rfl rfl rfl ?_
 refine s_off rfl rfl rfl ?_
 refine s_op k_pk ?_
 refine s_nil (by kernel_rfl) ?_
 refine n_wp ?_
 refine w_T rfl ?_ 
 refine qz hP hn ?_
 refine s_op k_as ?_
 refine s_nil trivial (n_wp (w_ret (r_thn ?_)))
 exact d_ret hP hn hE [] (by first | exact r_tmp Tryz.results97 | exact r_tmpa Tryz.results97)

theorem check_no3 (p q g : Nat) (hp : p < 2 ^ 256) (hq : q < 2 ^ 256) (hg : g < 2 ^ 256) (k : Nat) (B : List Int) (c s : Nat) (hk : k < 2 ^ 256) (hB : B.length = 32) (hc : c < 2 ^ 256) (hs : s < 2 ^ 256) (hf : fineP p q g = true) (hin : inP p q k = true) (hk1 : decide (k = 1) = true)  : Con Tryz.prog 97 [.agg (GRP p q g), .agg [.ints .u64 4 (zs (wd k))], .agg [.ints .u8 32 B], .agg [.ints .u64 4 (zs (wd c)), .ints .u64 4 (zs (wd s))]] [] (.s (.bool false)) [] := by
 refine con_in 83 Tryz.func97 rfl rfl (m := 0) rfl ?_
 intro E hP hn hE
 refine qz hP hn ?_
 refine s_op k_bx ?_
 refine s_op k_bx ?_
 refine s_op k_bx ?_
 refine s_op k_bx ?_
 refine s_op k_as ?_
 refine s_nil trivial (n_wp (w_seq (w_seq ?_)))
 refine g_any hP hn ?_
 refine s_op k_ld ?_
 refine s_op (k_call [] (con := fine_n p q g hp hq hg)) ?_
 rw [hf]
 refine o2 ?_
 refine s_on rfl rfl rfl k_ld ?_
 refine s_on rfl rfl rfl k_ld ?_
 refine s_on rfl rfl rfl (k_call [] (con := in_n p q g hp hq hg k hk)) ?_
 rw [hin]
 refine s_on rfl rfl rfl k_not ?_
 refine o2 ?_
 refine s_on rfl rfl rfl k_ld ?_
 refine s_on rfl rfl rfl (k_call [] (con := of_n 1 (by omega))) ?_
 refine s_on rfl rfl rfl (k_eqN k 1 hk (by omega)) ?_
 rw [hk1]
 refine o2 ?_
 refine s_off rfl rfl rfl ?_
 refine s_off rfl rfl rfl ?_
 refine s_off rfl rfl rfl ?_
 refine s_off rfl rfl rfl ?_
 refine s_off rfl rfl rfl ?_
 refine s_off rfl rfl rfl ?_
 refine s_off rfl rfl rfl ?_
 refine s_off rfl rfl rfl ?_
 refine s_off rfl rfl rfl ?_
 refine s_off rfl rfl rfl ?_
 refine s_op k_pk ?_
 refine s_nil (by kernel_rfl) ?_
 refine n_wp ?_
 refine w_T rfl ?_ 
 refine qz hP hn ?_
 refine s_op k_as ?_
 refine s_nil trivial (n_wp (w_ret (r_thn ?_)))
 exact d_ret hP hn hE [] (by first | exact r_tmp Tryz.results97 | exact r_tmpa Tryz.results97)

theorem check_no4 (p q g : Nat) (hp : p < 2 ^ 256) (hq : q < 2 ^ 256) (hg : g < 2 ^ 256) (k : Nat) (B : List Int) (c s : Nat) (hk : k < 2 ^ 256) (hB : B.length = 32) (hc : c < 2 ^ 256) (hs : s < 2 ^ 256) (hf : fineP p q g = true) (hin : inP p q k = true) (hk1 : decide (k = 1) = false) (hcs : (decide (c < q) && decide (s < q)) = false)  : Con Tryz.prog 97 [.agg (GRP p q g), .agg [.ints .u64 4 (zs (wd k))], .agg [.ints .u8 32 B], .agg [.ints .u64 4 (zs (wd c)), .ints .u64 4 (zs (wd s))]] [] (.s (.bool false)) [] := by
 refine con_in 83 Tryz.func97 rfl rfl (m := 0) rfl ?_
 intro E hP hn hE
 refine qz hP hn ?_
 refine s_op k_bx ?_
 refine s_op k_bx ?_
 refine s_op k_bx ?_
 refine s_op k_bx ?_
 refine s_op k_as ?_
 refine s_nil trivial (n_wp (w_seq (w_seq ?_)))
 refine g_any hP hn ?_
 refine s_op k_ld ?_
 refine s_op (k_call [] (con := fine_n p q g hp hq hg)) ?_
 rw [hf]
 refine o2 ?_
 refine s_on rfl rfl rfl k_ld ?_
 refine s_on rfl rfl rfl k_ld ?_
 refine s_on rfl rfl rfl (k_call [] (con := in_n p q g hp hq hg k hk)) ?_
 rw [hin]
 refine s_on rfl rfl rfl k_not ?_
 refine o2 ?_
 refine s_on rfl rfl rfl k_ld ?_
 refine s_on rfl rfl rfl (k_call [] (con := of_n 1 (by omega))) ?_
 refine s_on rfl rfl rfl (k_eqN k 1 hk (by omega)) ?_
 rw [hk1]
 refine o2 ?_
 refine s_on rfl rfl rfl k_fa ?_
 refine s_on rfl rfl rfl k_ld ?_
 refine s_on rfl rfl rfl (k_call [] (con := below_n q)) ?_
 refine s_on rfl rfl rfl k_fa ?_
 refine s_on rfl rfl rfl k_ld ?_
 refine s_on rfl rfl rfl k_fa ?_
 refine s_on rfl rfl rfl k_ld ?_
 refine s_on rfl rfl rfl (k_bsR [NR c, NR s]) ?_
 refine s_on rfl rfl rfl (k_callN [MP q] (con := bel2_n q c s hq hc hs) (H' := [some ⟨true, GRP p q g⟩, some ⟨true, [.ints .u64 4 (zs (wd k))]⟩, some ⟨true, [.ints .u8 32 B]⟩, some ⟨true, [.ints .u64 4 (zs (wd c)), .ints .u64 4 (zs (wd s))]⟩, none]) (hH := rfl)) ?_
 rw [hcs]
 refine s_on rfl rfl rfl k_not ?_
 refine s_op k_pk ?_
 refine s_nil (by kernel_rfl) ?_
 refine n_wp ?_
 refine w_T rfl ?_ 
 refine qz hP hn ?_
 refine s_op k_as ?_
 refine s_nil trivial (n_wp (w_ret (r_thn ?_)))
 exact d_ret hP hn hE [] (by first | exact r_tmp Tryz.results97 | exact r_tmpa Tryz.results97)

theorem check_y (p q g : Nat) (hp : p < 2 ^ 256) (hq : q < 2 ^ 256) (hg : g < 2 ^ 256) (k : Nat) (B : List Int) (c s : Nat) (hk : k < 2 ^ 256) (hB : B.length = 32) (hc : c < 2 ^ 256) (hs : s < 2 ^ 256) (hf : fineP p q g = true) (hin : inP p q k = true) (hk1 : decide (k = 1) = false) (hcs : (decide (c < q) && decide (s < q)) = true)  : Con Tryz.prog 97 [.agg (GRP p q g), .agg [.ints .u64 4 (zs (wd k))], .agg [.ints .u8 32 B], .agg [.ints .u64 4 (zs (wd c)), .ints .u64 4 (zs (wd s))]] [] (.s (.bool (ckA p q g k B c s))) [] := by
 refine con_in 83 Tryz.func97 rfl rfl (m := 0) rfl ?_
 intro E hP hn hE
 have hmg := (fine_may hf).1
 have hq1 := (fine_may hf).2
 have hq0 : q ≠ 0 := by omega
 have hmk := in_may hin
 have hcs2 : c < q ∧ s < q := by simpa using hcs
 have hm1 := expP_may (n := s) (fine_in hf) (by omega)
 have hm2 := expP_may (n := q - c) hin (by omega)
 have hsub : subN q c = q - c := subN_le hq (by omega)
 refine qz hP hn ?_
 refine s_op k_bx ?_
 refine s_op k_bx ?_
 refine s_op k_bx ?_
 refine s_op k_bx ?_
 refine s_op k_as ?_
 refine s_nil trivial (n_wp (w_seq (w_seq ?_)))
 refine g_any hP hn ?_
 refine s_op k_ld ?_
 refine s_op (k_call [] (con := fine_n p q g hp hq hg)) ?_
 rw [hf]
 refine o2 ?_
 refine s_on rfl rfl rfl k_ld ?_
 refine s_on rfl rfl rfl k_ld ?_
 refine s_on rfl rfl rfl (k_call [] (con := in_n p q g hp hq hg k hk)) ?_
 rw [hin]
 refine s_on rfl rfl rfl k_not ?_
 refine o2 ?_
 refine s_on rfl rfl rfl k_ld ?_
 refine s_on rfl rfl rfl (k_call [] (con := of_n 1 (by omega))) ?_
 refine s_on rfl rfl rfl (k_eqN k 1 hk (by omega)) ?_
 rw [hk1]
 refine o2 ?_
 refine s_on rfl rfl rfl k_fa ?_
 refine s_on rfl rfl rfl k_ld ?_
 refine s_on rfl rfl rfl (k_call [] (con := below_n q)) ?_
 refine s_on rfl rfl rfl k_fa ?_
 refine s_on rfl rfl rfl k_ld ?_
 refine s_on rfl rfl rfl k_fa ?_
 refine s_on rfl rfl rfl k_ld ?_
 refine s_on rfl rfl rfl (k_bsR [NR c, NR s]) ?_
 refine s_on rfl rfl rfl (k_callN [MP q] (con := bel2_n q c s hq hc hs) (H' := [some ⟨true, GRP p q g⟩, some ⟨true, [.ints .u64 4 (zs (wd k))]⟩, some ⟨true, [.ints .u8 32 B]⟩, some ⟨true, [.ints .u64 4 (zs (wd c)), .ints .u64 4 (zs (wd s))]⟩, none]) (hH := rfl)) ?_
 rw [hcs]
 refine s_on rfl rfl rfl k_not ?_
 refine s_op k_pk ?_
 refine s_nil (by kernel_rfl) ?_
 refine n_wp ?_
 refine w_F rfl ?_ 
 refine w_skip (n_wp (qz hP hn ?_))
 refine o4 ?_
 refine s_op (k_call [] (con := sub_n q c hq hc)) ?_
 refine o4 ?_
 refine s_st k_st ?_
 refine s_op k_as ?_
 refine s_nil trivial (n_wp (w_seq ?_))
 rw [hsub]
 refine g_reg hP hn ?_
 refine o3 ?_
 refine o2 ?_
 refine s_op (k_call [] (con := gexp_f p q g hp hq hg g s hg hs hmg)) ?_
 refine o4 ?_
 refine s_st k_st ?_
 refine s_op k_as ?_
 refine qx hP hn ?_
 refine o3 ?_
 refine s_op (k_call [] (con := gexp_f p q g hp hq hg k (q - c) hk (by omega) hmk)) ?_
 refine o4 ?_
 refine s_st k_st ?_
 refine s_op k_as ?_
 refine qx hP hn ?_
 refine o3 ?_
 refine s_op (k_call [] (con := gmul_y p q g hp hq hg (expP p g s) (expP p k (q - c)) (expP_lt hp) (expP_lt hp) hm1 hm2)) ?_
 refine o4 ?_
 refine s_st k_st ?_
 refine s_op k_as ?_
 refine s_nil trivial (n_wp (w_seq ?_))
 refine g_any hP hn ?_
 refine o4 ?_
 refine s_op (k_bsR [NR k, NR (expP p g s * expP p k (q - c) % p)]) ?_
 refine s_op (k_call [] (con := sign2_n p q g hp hq hg k (expP p g s * expP p k (q - c) % p) B hq0 hB)) ?_
 refine o2 ?_
 refine s_op (k_eqN (sg0 q k (expP p g s * expP p k (q - c) % p) B) c (by have := @sg0_lt q k (expP p g s * expP p k (q - c) % p) B hq1; omega) hc) ?_
 refine s_op k_as ?_
 refine s_nil (by kernel_rfl) ?_
 refine n_wp ?_
 rw [ckA_def]
 refine w_ret ?_
 exact d_ret hP hn hE [] (by first | exact r_tmp Tryz.results97 | exact r_tmpa Tryz.results97)

theorem check_n (p q g : Nat) (hp : p < 2 ^ 256) (hq : q < 2 ^ 256) (hg : g < 2 ^ 256) (k : Nat) (B : List Int) (c s : Nat) (hk : k < 2 ^ 256) (hB : B.length = 32) (hc : c < 2 ^ 256) (hs : s < 2 ^ 256) : Con Tryz.prog 97 [.agg (GRP p q g), .agg [.ints .u64 4 (zs (wd k))], .agg [.ints .u8 32 B], .agg [.ints .u64 4 (zs (wd c)), .ints .u64 4 (zs (wd s))]] [] (.s (.bool (ckB p q g k B c s))) [] := by
 unfold ckB
 cases hf : fineP p q g with
 | false => simp only [Bool.false_and]; exact check_no1 p q g hp hq hg k B c s hk hB hc hs hf
 | true =>
 cases hin : inP p q k with
 | false => simp only [Bool.true_and, Bool.false_and]; exact check_no2 p q g hp hq hg k B c s hk hB hc hs hf hin
 | true =>
 cases hk1 : decide (k = 1) with
 | true => simp only [Bool.true_and, Bool.not_true, Bool.false_and]; exact check_no3 p q g hp hq hg k B c s hk hB hc hs hf hin hk1
 | false =>
 cases hcs : decide (c < q) && decide (s < q) with
 | false => simp only [Bool.true_and, Bool.not_false, Bool.false_and]; exact check_no4 p q g hp hq hg k B c s hk hB hc hs hf hin hk1 hcs
 | true => simp only [Bool.true_and, Bool.not_false]; exact check_y p q g hp hq hg k B c s hk hB hc hs hf hin hk1 hcs

end Go.Proofs.X
end

section
/- Slices compared with nil; what is empty, nil or not. No program. -/
namespace Go.Bx
theorem run_snil {P : Program} (w : World) (t e : TypeId) (a : Option Addr) (l c : Nat) (h : P.underlying t = some (.slice e)) : (binOp .eql t (.slice a l c) (.slice none 0 0)).run P w = .ok (.bool a.isNone) w := by
  have := Go.run_eql_slice_nil (P := P) w t e a l c h
  exact this
section
variable {P : Program} {T : Tm} {H : Heap} {d : Option Tmp} {ty : TypeId} {pos : String} {af : Array Edge} {g : Option (Nat × Bool)}
theorem k_snf {t e tyy : TypeId} {x : Operand} {k : IntKind} {l : List Int} [hu : Und P t (.slice e)] (hx : ev T x = .s (.fzi k l) := by rfl) (hl : 0 < l.length) : LOk P ⟨d, .binOp .eql t x (.const (.slice none 0 0)) tyy, ty, pos, af, g⟩ T H H (.s (.bool false)) [] [] :=
  lok_pure fun ρ a w ho => by
    have h1 : (ev T x).rep ρ (a.eval x) := ho x (by simp [Op.operands])
    rw [hx] at h1
    refine ⟨.bool false, ?_, rfl⟩
    have hy : a.eval (.const (.slice none 0 0)) = .slice none 0 0 := rfl
    rcases h1 with ⟨e1, _⟩ | ⟨b, o, c, cs, e1, _⟩
    · subst e1; simp at hl
    · simp [execOp, e1, hy, Sem.run_bind, eqGuard, run_snil w t e _ _ _ hu.h]
theorem k_snv {t e tyy : TypeId} {x : Operand} {ad : Option Addr} {l c : Nat} [hu : Und P t (.slice e)] (hx : ev T x = .s (.val (.slice ad l c)) := by rfl) : LOk P ⟨d, .binOp .eql t x (.const (.slice none 0 0)) tyy, ty, pos, af, g⟩ T H H (.s (.bool ad.isNone)) [] [] :=
  lok_pure fun ρ a w ho => by
    have h1 : (ev T x).rep ρ (a.eval x) := ho x (by simp [Op.operands])
    rw [hx] at h1
    refine ⟨.bool ad.isNone, ?_, rfl⟩
    have hy : a.eval (.const (.slice none 0 0)) = .slice none 0 0 := rfl
    simp [execOp, h1.1, hy, Sem.run_bind, eqGuard, run_snil w t e _ _ _ hu.h]
end
theorem con_e {P : Program} {f : FuncId} {k : IntKind} {r : List AV} {v : AV} {H H' : Heap} (h : ∀ a c, Con P f (.s (.val (.slice a 0 c)) :: r) H v H') : Con P f (.s (.fzi k []) :: r) H v H' := by
  refine ⟨(h none 0).len, fun W ρ vals w hH hn hW ha => ?_⟩
  have h0 := (ha.2 0 (.s (.fzi k [])) rfl)
  obtain ⟨a, c, e⟩ : ∃ a c, vals.getD 0 undef = .slice a 0 c := by
    rcases h0 with ⟨_, a, c, e⟩ | ⟨b, o, c, cs, e, _⟩
    · exact ⟨a, c, e⟩
    · exact ⟨_, c, e⟩
  refine (h a c).run W ρ vals w hH hn hW ⟨ha.1, fun i x hx => ?_⟩
  cases i with
  | zero =>
    have hx : AV.s (.val (.slice a 0 c)) = x := Option.some.inj hx
    subst hx
    exact ⟨e, rfl⟩
  | succ i => exact ha.2 (i + 1) x hx
end Go.Bx
end

section
/- Empty slices, made and put behind. No program. -/
namespace Go.Bx
theorem asrc_e {P : Program} {tx e : TypeId} {H : Heap} {k : IntKind} {ad : Option Addr} {cc : Nat} (hk : P.underlying tx = some (.slice e)) : ASrc P tx 1 [] H (.val (.slice ad 0 cc)) 0 [.ints k 0 []] :=
  ⟨by simp [sizeS, Seg.size], fun c W ρ w v _ hH h => by
    obtain ⟨rfl, _⟩ := h
    refine ⟨[], ?_, fun i x h => by obtain ⟨h, _⟩ := atS_ints1 h; omega, fun q hq => ?_⟩
    case refine_2 =>
      have : q = 0 := by simpa using hq
      subst this
      cases ad with
      | none => rw [run_firstCells_none]; simp
      | some a => have := run_firstCells_some (P := P) w 1 0 a 0 cc [] (by simp) (fun j u h => by simp at h); simpa using this
    cases ad with
    | none => exact .ofNil w hk cc
    | some a => exact .ofSlice w hk a 0 cc [] (by simp) (fun j u h => by simp at h) (fun u h => by cases h)⟩
section
variable {P : Program} {T : Tm} {H : Heap} {d : Option Tmp} {ty : TypeId} {pos : String} {af : Array Edge} {g : Option (Nat × Bool)}
theorem k_bs0 (k : IntKind) {t e : TypeId} {n0 : Nat} {H' : Heap} [hu : Und P t (.slice e)] [he : Sz P e 1] [hN : LenN H n0] (hH : H ++ [some (Blk.mk true [.ints k 0 []])] = H' := by repeat (first | exact happ_0 | apply happ_s)) : LOk P ⟨d, .buildSlice t 0 #[], ty, pos, af, g⟩ T H H' (.s (.gro n0 1 0)) [] [] := by
  subst hH
  refine lok_new [] (fun _ h => by cases h) fun H0 hl0 _ => ?_
  have hn := hN.h
  subst hn
  intro W ρ a w hH hf hW ho next Q hq
  have hrun : (execOp a.eval ⟨d, .buildSlice t 0 #[], ty, pos, af, g⟩).run P w = .ok (.value (.slice (some ⟨w.heap.size, 0, none⟩) 0 0)) (w.alloc (.cells #[] e)) := by
    simp only [execOp]
    simp [Instr.buildSlice, Sem.run_bind, run_underlying hu.h, he.h, Sem.run_pure, Instr.fill, newRow, show Array.range 0 = #[] from by decide]
  rw [hrun]
  obtain ⟨ρ', k3, k4, k5⟩ := nx_alloc (t := e) hH (hf _ (Nat.le_refl _) (by simp)) hW (cells := #[]) (segs := [.ints k 0 []]) (fun ρ' _ i z hz => by
    obtain ⟨h, _⟩ := atS_ints1 hz; omega)
  exact hq _ _ ⟨ρ', W, k3, .inr ⟨w.heap.size, 0, 0, 0, by rw [← hl0]; exact k4, rfl, Nat.le_refl _, k5, by omega⟩⟩
theorem k_ape {x y : Operand} {t tx e rt : TypeId} {id n0 : Nat} {k : IntKind} {ad : Option Addr} {cc : Nat} {inf : TypeInfo} {z : Value} {H' : Heap} [hu : Und P t (.slice e)] [hux : Und P tx (.slice e)] [hi : Inf P e inf] [hN : LenN H n0] (hx : ev T x = .s (.gro id 1 0) := by rfl) (hy : ev T y = .s (.val (.slice ad 0 cc)) := by rfl) (hb : hget H id = some ⟨true, [.ints k 0 []]⟩ := by rfl) (hsz : inf.size = 1 := by exact rfl) (hz : inf.zero = some z := by exact rfl) (hzs : z.cells.size = 1 := by exact rfl) (hb1 : 0 < inf.bytes := by exact Nat.le_of_ble_eq_true rfl) (hH : H.set id none ++ [some (Blk.mk true [.ints k 0 []])] = H' := by exact rfl) :
    LOk P ⟨d, .call ⟨.builtin .append, #[x, y], #[t, tx]⟩, rt, pos, af, g⟩ T H H' (.s (.gro n0 1 0)) [id] [id] :=
  a_app (m := 0) hx hy hb hsz hz hzs (asrc_e hux.h) (Nat.zero_le _) (Joins.ints (l2 := []) rfl (Nat.le_refl 0)) (by simp) hb1 (fun _ h => by cases h) hN.h hH
end
end Go.Bx
end

section
/- A full slice of integers, and integers behind it: a new row. No program. -/
namespace Go.Bx
section
variable {P : Program} {T : Tm} {H : Heap} {d : Option Tmp} {ty : TypeId} {pos : String} {af : Array Edge} {g : Option (Nat × Bool)}
theorem l_apf {x y : Operand} {t tx e rt : TypeId} {id base idx len n0 : Nat} {k : IntKind} {segs : List Seg} {l l2 : List Int} {inf : TypeInfo} {H' : Heap} (hx : ev T x = .s (.slice id base idx len len)) (hy : ev T y = .s (.fzi k l2)) (hb : hget H id = some ⟨true, segs⟩) (hsub : SubS segs (base + idx) (len * 1) [.ints k len l]) (hl : l.length = len)
    (hu : P.underlying t = some (.slice e)) (htn : P.underlying tx = some (.slice e)) (hi : P.info? e = some inf) (hsz : inf.size = 1) (hz : inf.zero = some (.int k 0)) (h0 : 0 < l2.length) (hbig : (len + l2.length) * inf.bytes ≤ 140737488355328) (hb1 : 0 < inf.bytes) (hn : H.length = n0) (hH : H ++ [some (Blk.mk true [.ints k (len + l2.length) (l ++ l2)])] = H') :
    LOk P ⟨d, .call ⟨.builtin .append, #[x, y], #[t, tx]⟩, rt, pos, af, g⟩ T H H' (.s (.gro n0 1 (len + l2.length))) [id] [] := by
  subst hH
  have hlt := hget_lt hb
  refine lok_new [id] (fun j h => by simp at h; subst h; exact hlt) fun H0 hl0 hg0 => ?_
  subst hn
  intro W ρ a w hH hf hW ho next Q hq
  have k1 : (ev T x).rep ρ (a.eval x) := ho x (by simp [Op.operands, Call.operands])
  have k2 : (ev T y).rep ρ (a.eval y) := ho y (by simp [Op.operands, Call.operands])
  rw [hx] at k1
  rw [hy] at k2
  obtain ⟨_, hsrc⟩ := asrc_sl (P := P) (cap := len) hu (id := id) (H := H) (base := base) (idx := idx) (n := len) (size := 1) hb hsub
  obtain ⟨olds, hS0, hnr0, _⟩ := hsrc _ W ρ w _ (fun j hj => hg0 j hj) hH k1
  obtain ⟨news, hS, hnr, _⟩ := (asrc_fzi (P := P) (H := H) (k := k) (l := l2) htn).2 _ W ρ w _ (fun _ h => by cases h) hH k2
  obtain ⟨b, o, hρ, hev⟩ := k1
  have hol : olds.length = len := by have := hS0.newsLen; omega
  have hnl : news.length = l2.length := by have := hS.newsLen; omega
  have hold := hS0.cellsD
  rw [hev] at hold
  have h63 : ((len + l2.length : Nat) : Int) ≤ 9223372036854775807 := by
    have : len + l2.length ≤ (len + l2.length) * inf.bytes := Nat.le_mul_of_pos_right _ hb1
    omega
  have hS' : Src P inf.size tx (a.eval y) l2.length news w := by rw [hsz]; exact hS
  have hr := run_append_grow_src (P := P) w t tx rt e inf (.int k 0) hu hi hz (some ⟨b, o + base + idx, none⟩) len len olds (by rw [hsz]; exact hold) _ l2.length news hS' (by omega) h63 (growslice_fits (by omega) hbig)
  generalize hcap : grownCap w (len + l2.length) len e = cap at hr
  have hcap' : len + l2.length ≤ cap := hcap ▸ grownCap_ge w _ _ _
  have hrun : (execOp a.eval ⟨d, .call ⟨.builtin .append, #[x, y], #[t, tx]⟩, rt, pos, af, g⟩).run P w = .ok (.value (.slice (some ⟨w.heap.size, 0, none⟩) (len + l2.length) cap)) (w.drew.alloc (.cells ((olds ++ news).toArray ++ Builtin.zeroCells (Value.int k 0).cells (cap - (len + l2.length))) e)) := by
    simp only [execOp, resolve, invoke, builtin, List.map_toArray, List.map_cons, List.map_nil, hev]
    simp [Sem.run_bind, hr]
  rw [hrun]
  generalize hcells : (olds ++ news).toArray ++ Builtin.zeroCells (Value.int k 0).cells (cap - (len + l2.length)) = cells
  have hHd : HRep W ρ (hget H0) w.drew := hH.ext (.drew w)
  have hsize : cells.size = cap := by
    rw [← hcells]; simp [Builtin.zeroCells, hnl, hol, Value.cells]; omega
  obtain ⟨ρ', k3, k4, k5⟩ := nx_alloc (t := e) (w := w.drew) (H0 := H0) (cells := cells) (segs := [.ints k (len + l2.length) (l ++ l2)]) hHd (hf _ (Nat.le_refl _) (by simp)) (fun b hb => hW b hb) (fun ρ' hle i z hz => by
    obtain ⟨hi2, rfl⟩ := atS_ints1 hz
    have hcell : ∀ v, (olds ++ news)[i]? = some v → cells[i]? = some v := fun v hv => by
      have hi' := (List.getElem?_eq_some_iff.1 hv).1
      rw [← hcells, Array.getElem?_append_left (by simpa using hi')]
      simpa using hv
    rcases Nat.lt_or_ge i len with h | h
    · obtain ⟨v, hv, hc⟩ := hnr0 i (.int k (l.getD i 0)) (by simp [atS, Seg.size, Seg.at, h])
      have hv' : v = .int k (l.getD i 0) := hc.1
      subst hv'
      refine ⟨.int k (l.getD i 0), hcell _ (by rw [List.getElem?_append_left (by omega)]; exact hv), ?_, rfl⟩
      show _ = _
      rw [List.getD_eq_getElem?_getD, List.getD_eq_getElem?_getD, List.getElem?_append_left (by omega)]
    · obtain ⟨v, hv, hc⟩ := hnr (i - len) (.int k (l2.getD (i - len) 0)) (by simp only [atS]; rw [if_pos (by show i - len < l2.length; omega)]; rfl)
      have hv' : v = .int k (l2.getD (i - len) 0) := hc.1
      subst hv'
      refine ⟨.int k (l2.getD (i - len) 0), hcell _ (by rw [List.getElem?_append_right (by omega), hol]; exact hv), ?_, rfl⟩
      show _ = _
      rw [List.getD_eq_getElem?_getD, List.getD_eq_getElem?_getD, List.getElem?_append_right (by omega), hl])
  refine hq _ _ ⟨ρ', W, ?_, .inr ⟨w.heap.size, 0, cap, cells.size, ?_, rfl, hcap', k5, by rw [hsize]; omega⟩⟩
  · exact ⟨k3.le, k3.old, k3.rep, ((Ext.drew w).fr W).trans k3.fr, k3.sub, k3.fresh, k3.fzn⟩
  · rw [← hl0]; exact k4
theorem k_apf {x y : Operand} {t tx e rt : TypeId} {id len c n0 : Nat} {k : IntKind} {l l2 l' : List Int} {inf : TypeInfo} {H' : Heap} [hu : Und P t (.slice e)] [htn : Und P tx (.slice e)] [hi : Inf P e inf] [hN : LenN H n0] (hx : ev T x = .s (.slice id 0 0 len len) := by rfl) (hy : ev T y = .s (.fzi k l2) := by rfl) (hb : hget H id = some ⟨true, [.ints k len l]⟩ := by rfl) (hl : l.length = len := by first | assumption | omega | simp [*]) (hsz : inf.size = 1 := by exact rfl) (hz : inf.zero = some (.int k 0) := by exact rfl) (h0 : 0 < l2.length := by omega) (hc : len + l2.length = c := by rfl) (hl' : l ++ l2 = l' := by rfl) (hbig : len + l2.length ≤ 1000000 := by omega) (hbb : Nat.ble (1000000 * inf.bytes) 140737488355328 = true := by exact rfl) (hb1 : 0 < inf.bytes := by exact Nat.le_of_ble_eq_true rfl) (hH : H ++ [some (Blk.mk true [.ints k c l'])] = H' := by repeat (first | exact happ_0 | apply happ_s)) :
    LOk P ⟨d, .call ⟨.builtin .append, #[x, y], #[t, tx]⟩, rt, pos, af, g⟩ T H H' (.s (.gro n0 1 c)) [id] [] := by
  subst hc; subst hl'
  exact l_apf hx hy hb (by rw [Nat.mul_one]; exact .whole (by simp [sizeS, Seg.size])) hl hu.h htn.h hi.h hsz hz h0 (big_ok hbig hbb) hb1 hN.h hH
end
end Go.Bx
end

section
/- Plain function values, told as closures that catch nothing. No program. -/
namespace Go.Bx
theorem conv_vf {H : Heap} {f : Nat} {q : Nat → SV} : AConv [] H (.s (.val (.func (.func f) #[] #[]))) (.s (.noid (.clo f 0 q))) := fun _ _ _ _ _ _ _ h => by
  have h1 := h.1
  subst h1
  exact ⟨⟨#[], rfl, rfl, fun i hi => absurd hi (Nat.not_lt_zero i)⟩, rfl⟩
end Go.Bx
end

section
/- Types and functions of pieces, as instances. -/
open Go Go.Bx Go.Proofs
namespace Go.Proofs.X
instance : Clb Tryz.prog 34 := ⟨_, Tryz.func34, by kernel_rfl, rfl⟩
instance : Clb Tryz.prog 88 := ⟨_, Tryz.func88, by kernel_rfl, rfl⟩
instance : Clb Tryz.prog 55 := ⟨_, Tryz.func55, by kernel_rfl, rfl⟩
instance : Clb Tryz.prog 59 := ⟨_, Tryz.func59, by kernel_rfl, rfl⟩
instance : Clb Tryz.prog 122 := ⟨_, Tryz.func122, by kernel_rfl, rfl⟩
instance : Clb Tryz.prog 91 := ⟨_, Tryz.func91, by kernel_rfl, rfl⟩
instance : Clb Tryz.prog 136 := ⟨_, Tryz.func136, by kernel_rfl, rfl⟩
instance : Clb Tryz.prog 137 := ⟨_, Tryz.func137, by kernel_rfl, rfl⟩
instance : Clb Tryz.prog 80 := ⟨_, Tryz.func80, by kernel_rfl, rfl⟩
instance : Clb Tryz.prog 114 := ⟨_, Tryz.func114, by kernel_rfl, rfl⟩
instance : Clb Tryz.prog 135 := ⟨_, Tryz.func135, by kernel_rfl, rfl⟩
instance : Clb Tryz.prog 113 := ⟨_, Tryz.func113, by kernel_rfl, rfl⟩
instance : Und Tryz.prog 57 (.slice 123) := ⟨Tryz.underlying57⟩
instance : Sz Tryz.prog 57 1 := ⟨Tryz.sizeOf57⟩
instance : Ag Tryz.prog 57 false := ⟨Tryz.isAgg57⟩
instance : Zv Tryz.prog 57 [.one .nils] := ⟨_, Tryz.zeroValue57, by kernel_rfl⟩
instance : Zn Tryz.prog 57 := ⟨Tryz.zeroValue57⟩
instance : Inf Tryz.prog 57 Tryz.t57 := ⟨by kernel_rfl⟩
instance : Und Tryz.prog 89 (.int .u16) := ⟨Tryz.underlying89⟩
instance : Sz Tryz.prog 89 1 := ⟨Tryz.sizeOf89⟩
instance : Ag Tryz.prog 89 false := ⟨Tryz.isAgg89⟩
instance : Zv Tryz.prog 89 [.one (.int .u16 0)] := ⟨_, Tryz.zeroValue89, by kernel_rfl⟩
instance : Zi Tryz.prog 89 .u16 := ⟨Tryz.zeroValue89⟩
instance : Inf Tryz.prog 89 Tryz.t89 := ⟨by kernel_rfl⟩
instance : Und Tryz.prog 123 (.struct #[{ name := "Type", type := 89, offset := 0, embedded := false, tag := "", pkgPath := "", byteOffset := 0 }, { name := "Body", type := 53, offset := 1, embedded := false, tag := "", pkgPath := "", byteOffset := 8 }]) := ⟨Tryz.underlying123⟩
instance : Sz Tryz.prog 123 2 := ⟨Tryz.sizeOf123⟩
instance : Ag Tryz.prog 123 true := ⟨Tryz.isAgg123⟩
instance : Zv Tryz.prog 123 [.one (.int .u16 0), .one .nils] := ⟨_, Tryz.zeroValue123, by kernel_rfl⟩
instance : FldC Tryz.prog 123 0 0 := ⟨_, _, _, Tryz.underlying123, rfl, Tryz.sizeOf89, by decide, rfl⟩
instance : FldC Tryz.prog 123 1 1 := ⟨_, _, _, Tryz.underlying123, rfl, Tryz.sizeOf53, by decide, rfl⟩
instance : Pl Tryz.prog 123 #[(0, 1), (1, 1)] := ⟨_, Tryz.underlying123, fun w => by kernel_rfl⟩
instance : Inf Tryz.prog 123 Tryz.t123 := ⟨by kernel_rfl⟩
instance : Und Tryz.prog 197 (.struct #[{ name := "Bits", type := 5, offset := 0, embedded := false, tag := "", pkgPath := "", byteOffset := 0 }, { name := "Gen", type := 22, offset := 1, embedded := false, tag := "", pkgPath := "", byteOffset := 8 }, { name := "I", type := 28, offset := 2, embedded := false, tag := "", pkgPath := "", byteOffset := 16 }]) := ⟨Tryz.underlying197⟩
instance : Sz Tryz.prog 197 34 := ⟨Tryz.sizeOf197⟩
instance : Ag Tryz.prog 197 true := ⟨Tryz.isAgg197⟩
instance : Zv Tryz.prog 197 [.one (.int .u8 0), .one (.int .u64 0), .ints .u8 32 (zs (List.replicate 32 0))] := ⟨_, Tryz.zeroValue197, by kernel_rfl⟩
instance : FldC Tryz.prog 197 0 0 := ⟨_, _, _, Tryz.underlying197, rfl, Tryz.sizeOf5, by decide, rfl⟩
instance : FldC Tryz.prog 197 1 1 := ⟨_, _, _, Tryz.underlying197, rfl, Tryz.sizeOf22, by decide, rfl⟩
instance : FldC Tryz.prog 197 2 2 := ⟨_, _, _, Tryz.underlying197, rfl, Tryz.sizeOf28, by decide, rfl⟩
instance : Pl Tryz.prog 197 #[(0, 1), (1, 1), (2, 32)] := ⟨_, Tryz.underlying197, fun w => by kernel_rfl⟩
instance : Inf Tryz.prog 197 Tryz.t197 := ⟨by kernel_rfl⟩
instance : Und Tryz.prog 202 (.slice 203) := ⟨Tryz.underlying202⟩
instance : Sz Tryz.prog 202 1 := ⟨Tryz.sizeOf202⟩
instance : Ag Tryz.prog 202 false := ⟨Tryz.isAgg202⟩
instance : Zv Tryz.prog 202 [.one .nils] := ⟨_, Tryz.zeroValue202, by kernel_rfl⟩
instance : Zn Tryz.prog 202 := ⟨Tryz.zeroValue202⟩
instance : Inf Tryz.prog 202 Tryz.t202 := ⟨by kernel_rfl⟩
instance : Und Tryz.prog 203 (.func #[53] #[4] false) := ⟨Tryz.underlying203⟩
instance : Sz Tryz.prog 203 1 := ⟨Tryz.sizeOf203⟩
instance : Ag Tryz.prog 203 false := ⟨Tryz.isAgg203⟩
instance : Zv Tryz.prog 203 [.one (.val .nilFunc)] := ⟨_, Tryz.zeroValue203, by kernel_rfl⟩
instance : Inf Tryz.prog 203 Tryz.t203 := ⟨by kernel_rfl⟩
instance : Und Tryz.prog 231 (.func #[53] #[197] false) := ⟨Tryz.underlying231⟩
instance : Sz Tryz.prog 231 1 := ⟨Tryz.sizeOf231⟩
instance : Ag Tryz.prog 231 false := ⟨Tryz.isAgg231⟩
instance : Zv Tryz.prog 231 [.one (.val .nilFunc)] := ⟨_, Tryz.zeroValue231, by kernel_rfl⟩
instance : Inf Tryz.prog 231 Tryz.t231 := ⟨by kernel_rfl⟩
end Go.Proofs.X
end

section
set_option maxRecDepth 100000
set_option maxHeartbeats 4000000
open Go Go.Bx Go.Proofs
namespace Go.Proofs.X
attribute [local irreducible] wd dg be gN
theorem clone_1 (A : List Int) (h0 : 0 < A.length) (hA : A.length ≤ 1000000) : Con Tryz.prog 34 [.s (.fzi .u8 A)] [] (.s (.fzi .u8 A)) [] := by
 refine con_in 8 Tryz.func34 rfl rfl (m := 0) rfl ?_
 intro E hP hn hE
 refine qz hP hn ?_
 refine s_op k_as ?_
 refine s_nil trivial (n_wp (w_seq (qz hP hn ?_)))
 refine s_op k_mv ?_
 refine s_op (k_snf (hl := h0)) ?_
 refine s_nil trivial (n_wp ?_)
 refine w_F rfl ?_ 
 refine w_skip (n_wp (qz hP hn ?_))
 refine s_op (k_bs0 .u8) ?_
 refine s_op k_mv ?_
 refine s_op (k_apg (c := A.length) (l' := A) (hc := by omega) (hl' := by rfl) (hl := by rfl)) ?_
 refine s_op k_as ?_
 refine s_nil trivial (n_wp (w_ret ?_))
 exact d_retw hP hn (r_tmp Tryz.results34) ((frz_gro 0 (l' := A) (hl := rfl) (hl' := List.take_length)).trans (wk hE []))

theorem clone_n (c : Nat) : Con Tryz.prog 34 [.s (.val (.slice none 0 c))] [] (.s (.fzi .u8 [])) [] := by
 refine con_in 8 Tryz.func34 rfl rfl (m := 0) rfl ?_
 intro E hP hn hE
 refine qz hP hn ?_
 refine s_op k_as ?_
 refine s_nil trivial (n_wp (w_seq (qz hP hn ?_)))
 refine s_op k_mv ?_
 refine s_op k_snv ?_
 refine s_nil trivial (n_wp ?_)
 refine w_T rfl ?_ 
 refine qz hP hn ?_
 refine s_op k_as ?_
 refine s_nil trivial (n_wp (w_ret (r_thn ?_)))
 exact d_retw hP hn (r_tmp Tryz.results34) ((weak_conv 0 rfl conv_nil).trans (wk hE []))

theorem clone_e (a : Addr) (c : Nat) : Con Tryz.prog 34 [.s (.val (.slice (some a) 0 c))] [] (.s (.fzi .u8 [])) [] := by
 refine con_in 8 Tryz.func34 rfl rfl (m := 0) rfl ?_
 intro E hP hn hE
 refine qz hP hn ?_
 refine s_op k_as ?_
 refine s_nil trivial (n_wp (w_seq (qz hP hn ?_)))
 refine s_op k_mv ?_
 refine s_op k_snv ?_
 refine s_nil trivial (n_wp ?_)
 refine w_F rfl ?_ 
 refine w_skip (n_wp (qz hP hn ?_))
 refine s_op (k_bs0 .u8) ?_
 refine s_op k_mv ?_
 refine s_op k_ape ?_
 refine s_op k_as ?_
 refine s_nil trivial (n_wp (w_ret ?_))
 exact d_retw hP hn (r_tmp Tryz.results34) ((frz_gro 0 (n := 0) (kk := .u8) (l := []) (l' := []) (hl := rfl) (hl' := rfl)).trans (wk hE []))

theorem clone_c (A : List Int) (hA : A.length ≤ 1000000) : Con Tryz.prog 34 [.s (.fzi .u8 A)] [] (.s (.fzi .u8 A)) [] := by
 cases A with
 | nil => exact con_e fun a c => (match a with | none => clone_n c | some a => clone_e a c)
 | cons x r => exact clone_1 (x :: r) (by simp) hA

theorem clip_f (A : List Int) : Con Tryz.prog 54 [.s (.fzi .u8 A)] [] (.s (.fzi .u8 A)) [] := by
 refine con_in 9 Tryz.func54 rfl rfl (m := 0) rfl ?_
 intro E hP hn hE
 refine qz hP hn ?_
 refine s_op k_as ?_
 refine qx hP hn ?_
 refine o3 ?_
 refine o2 ?_
 refine s_op (l_sli (ys := A) (l := 0) (h := A.length) rfl rfl ⟨_, _, rfl, rfl⟩ (.inr ⟨A.length, ⟨_, rfl, _, _, rfl, rfl⟩, Nat.le_refl _, Nat.le_refl _⟩) rfl Und.h Sz.h (Nat.zero_le _) (Nat.le_refl _) (by simp)) ?_
 refine s_op k_as ?_
 refine s_nil trivial (n_wp (w_ret ?_))
 exact d_ret hP hn hE [] (by first | exact r_tmp Tryz.results54 | exact r_tmpa Tryz.results54)

theorem psum_n (B : List Int) (hB : B.length = 32) : Con Tryz.prog 55 [.agg [.ints .u8 32 B]] [] (.s (.fzi .u8 B)) [] := by
 refine con_in 5 Tryz.func55 rfl rfl (m := 0) rfl ?_
 intro E hP hn hE
 refine qz hP hn ?_
 refine s_op k_bxf ?_
 refine s_op k_as ?_
 refine qx hP hn ?_
 refine s_op k_slf ?_
 refine s_op (k_call [] (con := clone_c B (by omega))) ?_
 refine s_op k_as ?_
 refine s_nil trivial (n_wp (w_ret ?_))
 exact d_ret hP hn hE [] (by first | exact r_tmp Tryz.results55 | exact r_tmpa Tryz.results55)

theorem psig_n (c s : Nat) : Con Tryz.prog 88 [.agg [.ints .u64 4 (zs (wd c)), .ints .u64 4 (zs (wd s))]] [] (.s (.fzi .u8 (be 32 c ++ be 32 s))) [] := by
 refine con_in 10 Tryz.func88 rfl rfl (m := 0) rfl ?_
 intro E hP hn hE
 refine qz hP hn ?_
 refine s_op k_bx ?_
 refine s_op k_as ?_
 refine s_nil trivial (n_wp (w_seq ?_))
 refine g_any hP hn ?_
 refine o2 ?_
 refine s_op (k_call [] (con := pl0_n c)) ?_
 refine o2 ?_
 refine s_op (k_call [] (con := pl_n (be 32 c) s (by rw [be_len]; decide))) ?_
 refine s_op (k_call [] (con := clip_f (be 32 c ++ be 32 s))) ?_
 refine s_op k_as ?_
 refine s_nil (by kernel_rfl) ?_
 refine n_wp (w_ret ?_)
 exact d_ret hP hn hE [] (by first | exact r_tmp Tryz.results88 | exact r_tmpa Tryz.results88)

theorem filled_n (n : Nat) (h : n ≤ 1000000000) : Con Tryz.prog 59 [.s (.int .i64 ((n : Nat) : Int))] [] (.s (.int .i64 (((n + 8 - 1) / 8 * 8 : Nat) : Int))) [] := by
 refine con_in 8 Tryz.func59 rfl rfl (m := 0) rfl ?_
 intro E hP hn hE
 refine qz hP hn ?_
 refine s_op k_as ?_
 refine qx hP hn ?_
 refine o4 ?_
 refine o2 ?_
 refine s_nil trivial (n_wp (w_ret ?_))
 exact d_ret hP hn hE [] (by first | exact r_tmp Tryz.results59 | exact r_tmpa Tryz.results59)

end Go.Proofs.X
end

section
/- Rows of several cells that may be written: made, put behind, copied, cleared, set; their overlaps. No program. -/
namespace Go.Bx
theorem atS_rowsW {c w j : Nat} {g : Nat → Nat → SV} {y : SV} (h : atS [.rows c w g] j = some y) : j < c * w ∧ y = .noid (g (j / w) (j % w)) := by
  have hs : (Seg.rows c w g).size = c * w := rfl
  simp only [atS] at h
  rw [hs] at h
  by_cases hj : j < c * w
  · rw [if_pos hj] at h
    exact ⟨hj, (Option.some.inj h).symm⟩
  · rw [if_neg hj] at h; cases h
theorem rowsW_at {c w : Nat} (g : Nat → Nat → SV) {j : Nat} (h : j < c * w) : atS [.rows c w g] j = some (.noid (g (j / w) (j % w))) := by
  have hs : (Seg.rows c w g).size = c * w := rfl
  simp only [atS]
  rw [hs, if_pos h]
  rfl
theorem row_ix {w p j : Nat} (hw : 0 < w) : (p * w + j) / w = p + j / w ∧ (p * w + j) % w = j % w := by
  constructor
  · rw [Nat.add_comm, Nat.add_mul_div_right _ _ hw, Nat.add_comm]
  · rw [Nat.add_comm, Nat.add_mul_mod_self_right]
theorem div_lt' {w c j : Nat} (h : j < c * w) : j / w < c := by
  have hw : 0 < w := by
    rcases Nat.eq_zero_or_pos w with rfl | h'
    · simp at h
    · exact h'
  exact (Nat.div_lt_iff_lt_mul hw).2 h
theorem PutS.rowsW {w m p c : Nat} {g g2 g' : Nat → Nat → SV} (hw : 0 < w) (h0 : 0 < m) (hc : p + m ≤ c) (hg : ∀ i j, i < m → j < w → g' (p + i) j = g2 i j) (hg2 : ∀ i j, ¬(p ≤ i ∧ i < p + m) → i < c → j < w → g' i j = g i j) : PutS [.rows c w g] (p * w) (m * w) [.rows m w g2] [.rows c w g'] := by
  refine ⟨⟨Nat.mul_pos h0 hw, ?_⟩, fun j y hy => ?_⟩
  · have : (p + m) * w ≤ c * w := Nat.mul_le_mul_right w hc
    rw [Nat.add_mul] at this
    simpa [sizeS, Seg.size] using this
  obtain ⟨hj, rfl⟩ := atS_rowsW hy
  have hm := Nat.mod_lt j hw
  split
  · rename_i h
    obtain ⟨k, rfl⟩ : ∃ k, j = p * w + k := ⟨j - p * w, by omega⟩
    have hk : k < m * w := by omega
    rw [Nat.add_sub_cancel_left, rowsW_at g2 hk, (row_ix hw).1, (row_ix hw).2, hg _ _ (div_lt' hk) (Nat.mod_lt _ hw)]
  · rename_i h
    rw [rowsW_at g hj, hg2 _ _ (fun hh => h ?_) (div_lt' hj) hm]
    have e := Nat.div_add_mod' j w
    have h1 : p * w ≤ j / w * w := Nat.mul_le_mul_right w hh.1
    have h2 : (j / w + 1) * w ≤ (p + m) * w := Nat.mul_le_mul_right w hh.2
    rw [Nat.add_mul, Nat.one_mul] at h2
    rw [Nat.add_mul] at h2
    omega
theorem SubS.rowsW {w m p c : Nat} {g g2 : Nat → Nat → SV} (hw : 0 < w) (hc : p + m ≤ c) (hg : ∀ i j, i < m → j < w → g2 i j = g (p + i) j) : SubS [.rows c w g] (p * w) (m * w) [.rows m w g2] := by
  refine .of_eq (by simp [sizeS, Seg.size]) fun k hk => ?_
  have h1 : p * w + k < c * w := by
    have : (p + m) * w ≤ c * w := Nat.mul_le_mul_right w hc
    rw [Nat.add_mul] at this
    omega
  rw [rowsW_at g2 hk, rowsW_at g h1, (row_ix hw).1, (row_ix hw).2, hg _ _ (div_lt' hk) (Nat.mod_lt _ hw)]
theorem row_noid {ρ : Rho} {row : List Seg} {w : Nat} {get : Nat → Option Value} (hs : sizeS row = w) (hid : row.all (Seg.idB fun _ => false) = true) {g2 : Nat → Nat → SV} (hg : ∀ j, j < w → g2 0 j = cellsF row j) (hr : RowRep ρ row get) : RowRep ρ [.rows 1 w g2] get := fun j y hy => by
  obtain ⟨hj, rfl⟩ := atS_rowsW hy
  rw [Nat.one_mul] at hj
  obtain ⟨x, hx⟩ := atS_some (l := row) (i := j) (by omega)
  obtain ⟨v, hv, hc⟩ := hr j x hx
  refine ⟨v, hv, ?_⟩
  rw [Nat.div_eq_of_lt hj, Nat.mod_eq_of_lt hj, hg j hj, show cellsF row j = x by simp [cellsF, hx]]
  exact joined (.inr ⟨rfl, atS_idB hid hx⟩) hc
section
variable {P : Program} {T : Tm} {H : Heap} {d : Option Tmp} {ty : TypeId} {pos : String} {af : Array Edge} {g : Option (Nat × Bool)}
theorem k_mkW {t e : TypeId} {x y : Operand} {l c n w : Nat} {k1 k2 : IntKind} {m1 m2 : Int} {inf : TypeInfo} {z : Value} {H' : Heap} (Z : List Seg) (q : Nat → Nat → SV) [hu : Und P t (.slice e)] [hi : Inf P e inf] [hN : LenN H n] [hm1 : IsN m1 l] [hm2 : IsN m2 c] (hx : ev T x = .s (.int k1 m1) := by rfl) (hy : ev T y = .s (.int k2 m2) := by rfl) (hlc : l ≤ c := by omega) (hc2 : c ≤ 1000000 := by omega) (hbb : Nat.ble (inf.bytes * 1000000) 281474976710656 = true := by exact rfl)
    (hs : inf.size = w := by exact rfl) (hw : 0 < w := by exact Nat.le_of_ble_eq_true rfl) (hz : inf.zero = some z := by exact rfl) (hZ : rowOk Z z.cells = true := by exact rfl) (hZn : sizeS Z = w := by exact rfl) (hid : Z.all (Seg.idB fun _ => false) = true := by exact rfl) (hq : ∀ i j, i < c → j < w → q i j = cellsF Z j := by exact fun _ _ _ _ => rfl) (hH : H ++ [some (Blk.mk true [.rows c w q])] = H' := by repeat (first | exact happ_0 | apply happ_s)) :
    LOk P ⟨d, .makeSlice t x y, ty, pos, af, g⟩ T H H' (.s (.slice n 0 0 l c)) [] [] := by
  subst hH
  have hc : inf.bytes * c ≤ 281474976710656 := Nat.le_trans (Nat.mul_le_mul_left _ hc2) (Nat.le_of_ble_eq_true hbb)
  refine lok_new [] (fun _ h => by cases h) fun H0 hl0 _ => ?_
  have hn := hN.h
  subst hn
  have e1 := hm1.h
  have e2 := hm2.h
  subst e1; subst e2
  intro W ρ a w' hH hf hW ho next Q hQ
  obtain ⟨h1, h2⟩ := two (op := .makeSlice t x y) rfl ho hx hy
  simp only [AV.rep, AV.rep0, SV.rep] at h1 h2
  have hm := run_make (P := P) w' t e inf z hu.h hi.h hz k1 k2 (l : Int) (c : Int) (by omega) (by omega) (by
    have h : ((inf.bytes * c : Nat) : Int) ≤ 281474976710656 := by omega
    rwa [Int.natCast_mul] at h) (by omega)
  simp only [Int.toNat_natCast, hs] at hm
  have hrun : (execOp a.eval ⟨d, .makeSlice t x y, ty, pos, af, g⟩).run P w' = .ok (.value (.slice (some ⟨w'.heap.size, 0, none⟩) l c)) (w'.alloc (.cells (madeCells z.cells (c * w)) e)) := by
    simp [execOp, h1, h2, Sem.run_bind, hm]
  rw [hrun]
  obtain ⟨hzs, hzr⟩ := rowOk_rep hZ
  obtain ⟨ρ', k3, k4, _⟩ := nx_alloc (t := e) hH (hf _ (Nat.le_refl _) (by simp)) hW (cells := madeCells z.cells (c * w)) (segs := [.rows c w q]) (fun ρ' _ i y hy => by
    obtain ⟨hi, rfl⟩ := atS_rowsW hy
    have hm := Nat.mod_lt i hw
    obtain ⟨x, hx⟩ := atS_some (l := Z) (i := i % w) (by omega)
    obtain ⟨v, hv, hc⟩ := hzr ρ' _ x hx
    refine ⟨v, ?_, ?_⟩
    · have hsz : z.cells.size = w := by omega
      have : i % z.cells.size < z.cells.size := by rw [hsz]; exact hm
      have hv : z.cells[i % w]? = some v := hv
      rw [← hsz] at hv
      simp only [madeCells, Array.getElem?_map, Array.getElem?_range, hi, if_true, Option.map_some]
      rw [getElem!_pos z.cells (i % z.cells.size) this]
      rw [Array.getElem?_eq_getElem this] at hv
      exact hv
    · rw [hq _ _ (div_lt' hi) hm, show cellsF Z (i % w) = x by simp [cellsF, hx]]
      exact joined (.inr ⟨rfl, atS_idB hid hx⟩) hc)
  exact hQ _ _ ⟨ρ', W, k3, w'.heap.size, 0, by rw [← hl0]; exact k4, rfl⟩
theorem k_apiW (q' : Nat → Nat → SV) {x y : Operand} {t tx e rt : TypeId} {id n m dc c r w : Nat} {q g2 : Nat → Nat → SV} {inf : TypeInfo} {H' : Heap} [hu : Und P t (.slice e)] [hux : Und P tx (.slice e)] [hi : Inf P e inf] (hx : ev T x = .s (.slice id 0 0 n dc) := by rfl) (hy : ev T y = .s (.fz m w g2) := by rfl) (hb : hget H id = some ⟨true, [.rows c w q]⟩ := by rfl) (hsz : inf.size = w := by exact rfl) (hw : 0 < w := by exact Nat.le_of_ble_eq_true rfl) (h0 : 0 < m := by exact Nat.le_of_ble_eq_true rfl) (hdc : n + m ≤ dc := by omega) (hc : n + m ≤ c := by omega) (hr : n + m = r := by rfl) (hg : ∀ i j, i < m → j < w → q' (n + i) j = g2 i j) (hg2 : ∀ i j, ¬(n ≤ i ∧ i < n + m) → i < c → j < w → q' i j = q i j) (hH : H.set id (some ⟨true, [.rows c w q']⟩) = H' := by repeat (first | exact hset_0 | apply hset_s)) :
    LOk P ⟨d, .call ⟨.builtin .append, #[x, y], #[t, tx]⟩, rt, pos, af, g⟩ T H H' (.s (.slice id 0 0 r dc)) [id] [id] := by
  subst hH; subst hr
  have hlt := hget_lt hb
  refine lok_set [id] (fun j hj => by simp at hj; subst hj; exact hlt) (by simp) fun H0 hl hag => ?_
  intro W ρ a w' hH hnn hW ho next Q hq
  have k1 : (ev T x).rep ρ (a.eval x) := ho x (by simp [Op.operands, Call.operands])
  have k2 : (ev T y).rep ρ (a.eval y) := ho y (by simp [Op.operands, Call.operands])
  rw [hx] at k1
  rw [hy] at k2
  obtain ⟨b, o, hρ, k1⟩ := k1
  obtain ⟨news, hS, hnr, _⟩ := (asrc_fz (P := P) (H := H) (n := m) (g := g2) hw hux.h).2 _ W ρ w' _ (fun _ h => by cases h) hH k2
  have hb0 : hget H0 id = some ⟨true, [.rows c w q]⟩ := (hag id (by simp)).trans hb
  obtain ⟨⟨cells, tt, fr, g1, g2', _, g4⟩, hWb⟩ := hH.rep id b o _ hρ hb0
  have hfr := g2' rfl
  subst hfr
  have hp : PutS [.rows c w q] (n * w) (m * w) [.rows m w g2] [.rows c w q'] := .rowsW hw h0 hc hg hg2
  have hfit := fits g4 hp
  have hnl : news.length = m * w := hS.newsLen
  have hst := run_storeCells_at P b (o + n * w) tt news 0 cells w' g1 (by rw [hnl]; omega) hS.one
  rw [Nat.add_zero] at hst
  have hrun : (execOp a.eval ⟨d, .call ⟨.builtin .append, #[x, y], #[t, tx]⟩, rt, pos, af, g⟩).run P w' = .ok (.value (.slice (some ⟨b, o, none⟩) (n + m) dc)) (w'.setRow b (cells.toList.take (o + n * w) ++ news ++ cells.toList.drop (o + n * w + news.length)).toArray) := by
    simp only [execOp, resolve, invoke, builtin, List.map_toArray, List.map_cons, List.map_nil, k1]
    have hc2 := hS.cells
    rcases hS.kind with ⟨e', hk⟩ | hk <;> (simp [Builtin.append_, Sem.run_bind, run_underlying hu.h, run_underlying hk, sizeOf, typeInfo, hi.h, hsz, hS.len, hc2, hdc, addr_add]; rw [hst]; simp)
  rw [hrun]
  refine hq _ _ ⟨ρ, W, nx_write hH hW hρ hb0 g1 g4 hp hnl (fun i z hz => ?_) hfit, b, o, hρ, rfl⟩
  exact hnr i z hz
theorem l_cpW (p : Nat) (q' : Nat → Nat → SV) {x y : Operand} {t tx e rt : TypeId} {u : SV} {id ix dl dc n m c w : Nat} {R : List Nat} {q g2 : Nat → Nat → SV} {H' : Heap} [hu : Und P t (.slice e)] [hs : Sz P e w] (hx : ev T x = .s (.slice id 0 ix dl dc)) (hp : ix = p * w) (hy : ev T y = .s u) (hsrc : ASrc P tx w R H u m [.rows m w g2]) (hb : hget H id = some ⟨true, [.rows c w q]⟩) (hw : 0 < w) (hn : min m dl = n) (h0 : 0 < n) (hc : p + n ≤ c) (hg : ∀ i j, i < n → j < w → q' (p + i) j = g2 i j) (hg2 : ∀ i j, ¬(p ≤ i ∧ i < p + n) → i < c → j < w → q' i j = q i j) (hRi : ∀ i ∈ R, i < H.length) (hH : H.set id (some ⟨true, [.rows c w q']⟩) = H') :
    LOk P ⟨d, .call ⟨.builtin .copy, #[x, y], #[t, tx]⟩, rt, pos, af, g⟩ T H H' (.s (.int .i64 (n : Int))) (id :: R) [id] := by
  subst hp
  refine l_copy (sub' := [.rows n w g2]) hx hy hb hsrc hn hu.h hs.h ?_ ?_ hRi hH
  · have h := SubS.rowsW (p := 0) (m := n) (c := m) (g := g2) (g2 := g2) hw (by omega) (fun i j _ _ => by rw [Nat.zero_add])
    rwa [Nat.zero_mul] at h
  · rw [Nat.zero_add]
    exact .rowsW hw h0 hc hg hg2
theorem k_cpW (p s : Nat) (g2 q' : Nat → Nat → SV) {x y : Operand} {t tx e rt : TypeId} {id id2 ix iy dl dc n m mc c c2 w : Nat} {b2 : Bool} {q q2 : Nat → Nat → SV} {H' : Heap} [hu : Und P t (.slice e)] [hux : Und P tx (.slice e)] [hs : Sz P e w] (hx : ev T x = .s (.slice id 0 ix dl dc) := by rfl) (hp : ix = p * w := by rfl) (hy : ev T y = .s (.slice id2 0 iy m mc) := by rfl) (hsy : iy = s * w := by rfl) (hb : hget H id = some ⟨true, [.rows c w q]⟩ := by rfl) (hb2 : hget H id2 = some ⟨b2, [.rows c2 w q2]⟩ := by rfl) (hw : 0 < w := by exact Nat.le_of_ble_eq_true rfl) (hn : min m dl = n := by omega) (h0 : 0 < n := by omega) (hc : p + n ≤ c := by omega) (hc2 : s + m ≤ c2 := by omega) (hgs : ∀ i j, i < m → j < w → g2 i j = q2 (s + i) j) (hg : ∀ i j, i < n → j < w → q' (p + i) j = g2 i j) (hg2 : ∀ i j, ¬(p ≤ i ∧ i < p + n) → i < c → j < w → q' i j = q i j) (hlt : id2 < H.length := by exact Nat.le_of_ble_eq_true rfl) (hH : H.set id (some ⟨true, [.rows c w q']⟩) = H' := by repeat (first | exact hset_0 | apply hset_s)) :
    LOk P ⟨d, .call ⟨.builtin .copy, #[x, y], #[t, tx]⟩, rt, pos, af, g⟩ T H H' (.s (.int .i64 (n : Int))) [id, id2] [id] := by
  subst hsy
  refine l_cpW p q' (g2 := g2) hx hp hy (asrc_sl hux.h hb2 ?_) hb hw hn h0 hc hg hg2 (fun i hi => by simp at hi; subst hi; exact hlt) hH
  rw [Nat.zero_add]
  exact .rowsW hw hc2 hgs
theorem k_clW (p : Nat) (Z : List Seg) (q' : Nat → Nat → SV) {x : Operand} {t e rt : TypeId} {id ix n dc c w : Nat} {q : Nat → Nat → SV} {z : Value} {H' : Heap} [hu : Und P t (.slice e)] (hzv : ∀ w, (zeroValue e).run P w = .ok z w) (hx : ev T x = .s (.slice id 0 ix n dc) := by rfl) (hp : ix = p * w := by rfl) (hb : hget H id = some ⟨true, [.rows c w q]⟩ := by rfl) (hw : 0 < w := by exact Nat.le_of_ble_eq_true rfl) (h0 : 0 < n := by omega) (hc : p + n ≤ c := by omega) (hZ : rowOk Z z.cells = true := by exact rfl) (hZn : sizeS Z = w := by exact rfl) (hid : Z.all (Seg.idB fun _ => false) = true := by exact rfl) (hone : ∀ u ∈ z.cells.toList, u.oneCell' = true) (hg : ∀ i j, i < n → j < w → q' (p + i) j = cellsF Z j) (hg2 : ∀ i j, ¬(p ≤ i ∧ i < p + n) → i < c → j < w → q' i j = q i j) (hH : H.set id (some ⟨true, [.rows c w q']⟩) = H' := by repeat (first | exact hset_0 | apply hset_s)) :
    LOk P ⟨d, .call ⟨.builtin .clear, #[x], #[t]⟩, rt, pos, af, g⟩ T H H' (.s .junk) [id] [id] := by
  subst hH; subst hp
  have hlt := hget_lt hb
  refine lok_set [id] (fun j hj => by simp at hj; subst hj; exact hlt) (by simp) fun H0 hl hag => ?_
  intro W ρ a w' hH hnn hW ho next Q hq
  have k1 : (ev T x).rep ρ (a.eval x) := ho x (by simp [Op.operands, Call.operands])
  rw [hx] at k1
  obtain ⟨b, o, hρ, k1⟩ := k1
  have hb0 : hget H0 id = some ⟨true, [.rows c w q]⟩ := (hag id (by simp)).trans hb
  obtain ⟨⟨cells, tt, fr, g1, g2', _, g4⟩, hWb⟩ := hH.rep id b o _ hρ hb0
  have hfr := g2' rfl
  subst hfr
  obtain ⟨hzs, hzr⟩ := rowOk_rep hZ
  have hsz : z.cells.size = w := by omega
  have hnews : (Builtin.zeroCells z.cells n).toList.length = n * w := by simp [Builtin.zeroCells, hsz]
  have hp : PutS [.rows c w q] (p * w) (n * w) [.rows n w fun _ j => cellsF Z j] [.rows c w q'] := .rowsW hw h0 hc (fun i j hi hj => hg i j hi hj) hg2
  have hfit := fits g4 hp
  have hget : ∀ i, i < n * w → ∃ v, (Builtin.zeroCells z.cells n).toList[i]? = some v ∧ z.cells[i % w]? = some v := by
    intro i hi
    have hm := Nat.mod_lt i hw
    have : i % z.cells.size < z.cells.size := by rw [hsz]; exact hm
    refine ⟨z.cells[i % z.cells.size], ?_, ?_⟩
    · have hi' : i < n * z.cells.size := by rw [hsz]; exact hi
      simp only [Builtin.zeroCells, Array.getElem?_toList, Array.getElem?_map, Array.getElem?_range, hi', if_true, Option.map_some]
      rw [getElem!_pos z.cells (i % z.cells.size) this]
    · rw [Array.getElem?_eq_some_iff]
      refine ⟨by rw [hsz]; exact hm, ?_⟩
      congr 1
      rw [hsz]
  have hall : ∀ u ∈ (Builtin.zeroCells z.cells n).toList, u.oneCell' = true := by
    intro u hu
    obtain ⟨i, hi, rfl⟩ := List.mem_iff_getElem.1 hu
    obtain ⟨v, h1, h2⟩ := hget i (by rw [← hnews]; exact hi)
    rw [List.getElem?_eq_getElem hi] at h1
    cases h1
    exact hone _ (Array.mem_toList_iff.2 (Array.mem_of_getElem? h2))
  have hst := run_storeCells_at P b (o + p * w) tt (Builtin.zeroCells z.cells n).toList 0 cells w' g1 (by rw [hnews]; omega) hall
  rw [Nat.add_zero] at hst
  obtain ⟨n, rfl⟩ : ∃ k, n = k + 1 := ⟨n - 1, by omega⟩
  have hrun : (execOp a.eval ⟨d, .call ⟨.builtin .clear, #[x], #[t]⟩, rt, pos, af, g⟩).run P w' = .ok (.value (.tuple #[])) (w'.setRow b (cells.toList.take (o + p * w) ++ (Builtin.zeroCells z.cells (n + 1)).toList ++ cells.toList.drop (o + p * w + (Builtin.zeroCells z.cells (n + 1)).toList.length)).toArray) := by
    simp only [execOp, resolve, invoke, builtin, List.map_toArray, List.map_cons, List.map_nil, k1]
    simp [Builtin.clear_, Sem.run_bind, run_underlying hu.h, hzv]
    rw [hst]; simp
  rw [hrun]
  refine hq _ _ ⟨ρ, W, nx_write hH hW hρ hb0 g1 g4 hp hnews (fun i y hy => ?_) hfit, trivial⟩
  obtain ⟨hi, rfl⟩ := atS_rowsW hy
  obtain ⟨v, h1, h2⟩ := hget i hi
  have hm := Nat.mod_lt i hw
  obtain ⟨x', hx'⟩ := atS_some (l := Z) (i := i % w) (by omega)
  obtain ⟨v', hv', hc'⟩ := hzr ρ _ x' hx'
  have hv' : z.cells[i % w]? = some v' := hv'
  rw [h2] at hv'
  cases hv'
  refine ⟨v, h1, ?_⟩
  rw [show cellsF Z (i % w) = x' by simp [cellsF, hx']]
  exact joined (.inr ⟨rfl, atS_idB hid hx'⟩) hc'
theorem k_stW (i : Nat) (q' : Nat → Nat → SV) {t : TypeId} {x y : Operand} {id ix c w : Nat} {q : Nat → Nat → SV} {row : List Seg} {H' : Heap} [hs : Sz P t w] (hx : ev T x = .s (.ptr id 0 ix) := by rfl) (hi : ix = i * w := by rfl) (hy : ev T y = .agg row := by rfl) (hb : hget H id = some ⟨true, [.rows c w q]⟩ := by rfl) (hw : 0 < w := by exact Nat.le_of_ble_eq_true rfl) (hr : sizeS row = w := by exact rfl) (hid : row.all (Seg.idB fun _ => false) = true := by exact rfl) (hc : i < c := by omega) (hg : ∀ j, j < w → q' i j = cellsF row j) (hg2 : ∀ k j, k ≠ i → k < c → j < w → q' k j = q k j) (hH : H.set id (some ⟨true, [.rows c w q']⟩) = H' := by repeat (first | exact hset_0 | apply hset_s)) :
    LOk P ⟨d, .store t x y, ty, pos, af, g⟩ T H H' (.s .junk) [id] [id] := by
  subst hH; subst hi
  refine l_store (n := w) (sub := [.rows 1 w fun _ j => cellsF row j]) hx hb (fun ρ v h => ?_) ?_ hs.h
  · rw [hy] at h
    obtain ⟨h1, h2, h3⟩ := rep_cells_agg h hr
    exact ⟨h1, row_noid hr hid (fun _ _ => rfl) h2, h3⟩
  · rw [Nat.zero_add]
    have h := PutS.rowsW (m := 1) (p := i) (c := c) (g := q) (g2 := fun _ j => cellsF row j) (g' := q') hw Nat.zero_lt_one (by omega) (fun k j hk hj => by
      obtain rfl : k = 0 := by omega
      rw [Nat.add_zero]; exact hg j hj) (fun k j hk hkc hj => hg2 k j (by omega) hkc hj)
    rwa [Nat.one_mul] at h
end
end Go.Bx
end

section
/- Rows built to be written; one of their cells set; frozen; two rows' overlaps. No program. -/
namespace Go.Bx
theorem conv_slW {H : Heap} {id len cap n w : Nat} {k : Blk} {g g' : Nat → Nat → SV} (hb : hget H id = some k) (hro : k.rw = false) (hs : k.segs = [.rows n w g]) (hn : len ≤ n) (hc : len ≤ cap) (hg : ∀ i j, i < len → j < w → g' i j = g i j) :
    AConv [id] H (.s (.slice id 0 0 len cap)) (.s (.fz len w g')) := by
  rintro c W ρ w0 u hcc hH ⟨b, o, h1, rfl⟩
  obtain ⟨⟨cells, t, fr, g1, g2, g3, g4⟩, _⟩ := hH.rep id b o k h1 ((hcc id (by simp)).trans hb)
  refine .inr ⟨b, o, cap, cells, rfl, hc, g3 hro, fun i j hi hj => ?_⟩
  have hlt := row_lt (i := i) (n := n) (w := w) (j := j) (by omega) hj
  obtain ⟨v, hv, hr⟩ := g4 (i * w + j) _ (by rw [hs]; exact rowsW_at g hlt)
  rw [(row_div hj).1, (row_div hj).2] at hr
  rw [hg i j hi hj]
  exact ⟨v, hv, hr.1.1, hr.2⟩
section
variable {E : Env} {P : Program} {T : Tm} {H : Heap} {d : Option Tmp} {ty : TypeId} {pos : String} {af : Array Edge} {g : Option (Nat × Bool)}
theorem frz_slW (t : Nat) (g' : Nat → Nat → SV) {id len cap n w : Nat} {g : Nat → Nat → SV} {H' : Heap} (hx : look T t = .s (.slice id 0 0 len cap) := by rfl) (hb : hget H id = some ⟨true, [.rows n w g]⟩ := by rfl) (hn : len ≤ n := by omega) (hc : len ≤ cap := by omega) (hg : ∀ i j, i < len → j < w → g' i j = g i j) (hH : H.set id none = H' := by repeat (first | exact hset_0 | apply hset_s)) : Weak E T H ((t, .s (.fz len w g')) :: T) H' := by
  have hlt := hget_lt hb
  refine (weak_frz id hb rfl).trans ((weak_conv t hx (conv_slW (k := ⟨false, [.rows n w g]⟩) (by rw [hget_set hlt, if_pos rfl]) rfl rfl hn hc hg)).trans (weak_drop id ?_))
  rw [List.set_set]; exact hH
theorem k_bsW {t e : TypeId} {n0 w : Nat} {parts : Array (Nat × Operand)} {ps : List (Nat × Operand)} {l : List (Nat × AV)} {Z row : List Seg} {H' : Heap} (q : Nat → Nat → SV) [hu : Und P t (.slice e)] [he : Sz P e w] [hz : Zv P e Z] [hN : LenN H n0] (hps : parts.toList = ps := by rfl) (hl : PartL T ps l := by exact (pc (k := .nil))) (hbig : 1 * w ≤ 16777216 := by exact Nat.le_of_ble_eq_true rfl) (hZn : sizeS Z = w := by rfl) (hs : fillS (fun i => some (i * w, w)) (List.replicate 1 Z).flatten l = some row := by exact rfl) (hr : sizeS row = w := by exact rfl) (hid : row.all (Seg.idB fun _ => false) = true := by exact rfl) (hq : ∀ j, j < w → q 0 j = cellsF row j := by exact fun _ _ => rfl) (h0 : 0 < 1 * w := by exact Nat.le_of_ble_eq_true rfl) (hH : H ++ [some (Blk.mk true [.rows 1 w q])] = H' := by repeat (first | exact happ_0 | apply happ_s)) : LOk P ⟨d, .buildSlice t 1 parts, ty, pos, af, g⟩ T H H' (.s (.slice n0 0 0 1 1)) [] [] := by
  obtain ⟨z, hz1, hz2⟩ := hz.h
  have hzs : z.cells.size = w := by rw [(rowOk_rep hz2).1, hZn]
  have hZ1 : rowOk (List.replicate 1 Z).flatten ((Array.range (1 * w)).map fun i => z.cells[i % z.cells.size]!) = true := by
    have := range_rep z.cells 1
    rw [hzs] at this
    rw [hzs, this]
    exact rowOk_rep_n hz2 1
  exact l_bsl hps hl hu.h he.h hbig hz1 hZ1 hs h0 (fun ρ get h => row_noid hr hid hq h) hN.h hH
theorem k_stC (i k : Nat) (q' : Nat → Nat → SV) {t : TypeId} {x y : Operand} {id ix c w : Nat} {q : Nat → Nat → SV} {v : SV} {H' : Heap} [hs : Sz P t 1] (hx : ev T x = .s (.ptr id 0 ix) := by rfl) (hi : ix = i * w + k := by rfl) (hy : ev T y = .s v := by rfl) (hb : hget H id = some ⟨true, [.rows c w q]⟩ := by rfl) (hj : v ≠ .junk := by exact fun h => by cases h) (hid : v.idB (fun _ => false) = true := by exact rfl) (hk : k < w := by exact Nat.le_of_ble_eq_true rfl) (hc : i < c := by omega) (hg : q' i k = v) (hg2 : ∀ a b, ¬(a = i ∧ b = k) → a < c → b < w → q' a b = q a b) (hH : H.set id (some ⟨true, [.rows c w q']⟩) = H' := by repeat (first | exact hset_0 | apply hset_s)) :
    LOk P ⟨d, .store t x y, ty, pos, af, g⟩ T H H' (.s .junk) [id] [id] := by
  subst hH; subst hi
  have hlt : i * w + k < c * w := row_lt hc hk
  refine l_store (n := 1) (sub := [.one (.noid v)]) hx hb (fun ρ u h => ?_) ?_ hs.h
  · rw [hy] at h
    obtain ⟨h1, h2, h3⟩ := rep_cells_s h hj
    refine ⟨h1, fun j y hy => ?_, h3⟩
    obtain ⟨rfl, rfl⟩ := atS_one1 hy
    obtain ⟨u', hu', hr'⟩ := h2 0 v (by simp [atS, Seg.size, Seg.at])
    exact ⟨u', hu', joined (.inr ⟨rfl, hid⟩) hr'⟩
  · rw [Nat.zero_add]
    refine ⟨⟨Nat.zero_lt_one, by simp [sizeS, Seg.size]; omega⟩, fun j y hy => ?_⟩
    obtain ⟨hj', rfl⟩ := atS_rowsW hy
    have hm := Nat.mod_lt j (show 0 < w by omega)
    split
    · rename_i h
      obtain rfl : j = i * w + k := by omega
      rw [(row_div hk).1, (row_div hk).2, Nat.sub_self, hg]
      simp [atS, Seg.size, Seg.at]
    · rename_i h
      rw [rowsW_at q hj', hg2 _ _ (fun hh => h ?_) (div_lt' hj') hm]
      have e := Nat.div_add_mod' j w
      rw [hh.1, hh.2] at e
      omega
theorem k_ovl {f : FuncId} {fn : Func} {tS tR e : TypeId} {x y : Operand} {at_ : Array TypeId} {id id2 b1 i1 l1 c1 b2 i2 l2 c2 n1 n2 w : Nat} {q1 q2 : Nat → Nat → SV} (hf : P.funcs[f]? = some fn) (hname : (fn.name == "runtime.NumGoroutine") = false) (hbn : fn.body.isNone = true) (hnx : Extern.findNext fn = none) (he : Extern.find fn = some (Extern.SlicesOverlaps.overlaps #[tS, tS] #[tR])) [hu : Und P tS (.slice e)] [hs : Sz P e w] (hx : ev T x = .s (.slice id b1 i1 l1 c1) := by rfl) (hy : ev T y = .s (.slice id2 b2 i2 l2 c2) := by rfl) (hb : hget H id = some ⟨true, [.rows n1 w q1]⟩ := by rfl) (hb2 : hget H id2 = some ⟨true, [.rows n2 w q2]⟩ := by rfl) (hne : id ≠ id2 := by decide) (hw : 0 < w := by exact Nat.le_of_ble_eq_true rfl) (hn2 : 0 < n2 := by omega) :
    LOk P ⟨d, .call ⟨.value (.func f), #[x, y], at_⟩, ty, pos, af, g⟩ T H H (.s (.bool false)) [id, id2] [] :=
  lok_read [id, id2] (fun i hi => by
    simp at hi
    rcases hi with rfl | rfl
    · exact hget_lt hb
    · exact hget_lt hb2) fun H0 hl hag => .pure fun W ρ a w0 hH ho => by
    have k1 : (ev T x).rep ρ (a.eval x) := ho x (by simp [Op.operands, Call.operands])
    have k2 : (ev T y).rep ρ (a.eval y) := ho y (by simp [Op.operands, Call.operands])
    rw [hx] at k1
    rw [hy] at k2
    obtain ⟨ba, oa, hρ1, k1⟩ := k1
    obtain ⟨bb, ob, hρ2, k2⟩ := k2
    have e1 : hget H0 id = some ⟨true, [.rows n1 w q1]⟩ := (hag id (by simp)).trans hb
    have e2 : hget H0 id2 = some ⟨true, [.rows n2 w q2]⟩ := (hag id2 (by simp)).trans hb2
    obtain ⟨⟨ca, ta, fra, g1, g2, _, g3⟩, _⟩ := hH.rep id ba oa _ hρ1 e1
    obtain ⟨⟨cb, tb, frb, h1, h2, _, h3⟩, _⟩ := hH.rep id2 bb ob _ hρ2 e2
    obtain rfl := g2 rfl
    obtain rfl := h2 rfl
    have hbb : ba ≠ bb := by
      rintro rfl
      have := (hH.apart id id2 ba oa ob _ _ hne hρ1 hρ2 e1 e2).1
      cases this
    have hcb : cb.size ≠ 0 := by
      obtain ⟨v, hv, _⟩ := h3 0 _ (rowsW_at q2 (Nat.mul_pos hn2 hw))
      have hv : cb[ob + 0]? = some v := hv
      have := (Array.getElem?_eq_some_iff.1 hv).1
      omega
    refine ⟨.bool false, ?_, rfl⟩
    have hr := Lib.run_overlaps_apart w0 tS tR e hu.h w hs.h ⟨ba, oa + b1 + i1, none⟩ ⟨bb, ob + b2 + i2, none⟩ l1 c1 l2 c2 hbb ta tb ca.size cb.size (by simp [World.shape?, g1]) (by simp [World.shape?, h1]) hcb (by simp [World.frozen?, g1]) (by simp [World.frozen?, g1])
    have hc : (execOp a.eval ⟨d, .call ⟨.value (.func f), #[x, y], at_⟩, ty, pos, af, g⟩).run P w0 = (callFunc f #[a.eval x, a.eval y]).run P w0 := by
      simp [execOp, resolve, Deferred.ofValue, invoke, Act.eval, Sem.run_bind]
    rw [hc, run_callFunc_extern hf hname hbn hnx he, k1, k2, hr]
    rfl
end
end Go.Bx
end

section
/- Pieces, as lists. No program. -/
open Go Go.Bx
namespace Go.Proofs.X
abbrev Pc := Nat × List Int
abbrev p0 : Pc := (0, [])
abbrev PR (p : Nat × List Int) : List Seg := [.one (.int .u16 ((p.1 : Nat) : Int)), .one (.fzi .u8 p.2)]
abbrev gP (F : Nat → Nat × List Int) : Nat → Nat → SV := rowsF fun i => PR (F i)
abbrev PARS (L : List (Nat × List Int)) : SV := .fz L.length 2 (gP fun i => L.getD i p0)
section
variable {P : Program} {T : Tm} {H : Heap} {d : Option Tmp} {ty : TypeId} {pos : String} {af : Array Edge} {g : Option (Nat × Bool)}
theorem k_ldP {F : Nat → Nat × List Int} {i : Nat} {t : TypeId} {x : Operand} [ha : Ag P t true] [hz : Sz P t 2] (hx : ev T x = .s (.fptr 2 (gP F i) 0 0) := by rfl) : LOk P ⟨d, .load t x, ty, pos, af, g⟩ T H H (.agg (PR (F i))) [] [] := l_loadf_agg (segs := PR (F i)) hx (Nat.le_refl _) (.whole rfl) ha.h hz.h
theorem k_ldM (i : Nat) {F : Nat → Nat × List Int} {id ix c : Nat} {b : Bool} {t : TypeId} {x : Operand} [ha : Ag P t true] [hz : Sz P t 2] (hx : ev T x = .s (.ptr id 0 ix) := by rfl) (hi : ix = i * 2 := by rfl) (hb : hget H id = some ⟨b, [.rows c 2 (gP F)]⟩ := by rfl) (hc : i < c := by omega) : LOk P ⟨d, .load t x, ty, pos, af, g⟩ T H H (.agg (PR (F i))) [id] [] := by
  subst hi
  exact a_load_rowA (rows := fun i => PR (F i)) hx hb rfl hc rfl
end
def lastT (L : List (Nat × List Int)) : Nat → Nat
  | 0 => 0
  | i + 1 => (L.getD i p0).1
end Go.Proofs.X
end

section
set_option maxRecDepth 100000
set_option maxHeartbeats 4000000
open Go Go.Bx Go.Proofs
namespace Go.Proofs.X
theorem spl_all {B : List Int} {n : Nat} (hB : B.length = n) : spl (z n) (B.take n) 0 n n = B := by
 have h := spl_app [] (B.take n) (z n) 0 n n rfl (by rw [List.length_take]; omega) (by omega) (by simp [z])
 have h2 : spl (z n) (B.take n) 0 n n = B.take n ++ (z n).drop n := h
 rw [h2, List.take_of_length_le (by omega)]; simp [z]
attribute [local irreducible] wd dg be gN
theorem twin_n (t : Nat) (A : List Int) (hA : A.length ≤ 1000000) : Con Tryz.prog 122 [.agg (PR (t, A))] [] (.agg (PR (t, A))) [] := by
 refine con_in 9 Tryz.func122 rfl rfl (m := 0) rfl ?_
 intro E hP hn hE
 refine qz hP hn ?_
 refine s_op k_bx ?_
 refine s_op k_al ?_
 refine qx hP hn ?_
 refine o2 ?_
 refine s_op (k_call [] (con := clone_c A hA)) ?_
 refine s_op (k_call [] (con := clip_f A)) ?_
 refine s_op k_fa ?_
 refine s_st k_st ?_
 refine qx hP hn ?_
 refine s_op k_ld ?_
 refine s_st k_st ?_
 refine s_nil trivial (n_wp (w_ret ?_))
 exact d_ret hP hn hE [] (r_cell Tryz.results122)

theorem sump_n (B : List Int) (hB : B.length = 32) : Con Tryz.prog 91 [.s (.fzi .u8 B)] [] (.agg [.ints .u8 32 B]) [] := by
 refine con_in 7 Tryz.func91 rfl rfl (m := 0) rfl ?_
 intro E hP hn hE
 refine qz hP hn ?_
 refine s_op k_al ?_
 refine qx hP hn ?_
 refine s_op k_sl ?_
 refine s_op k_mv ?_
 refine s_op (k_cpn 32) ?_
 refine qx hP hn ?_
 refine s_op k_ld ?_
 refine s_st k_st ?_
 refine s_nil trivial (n_wp ?_)
 rw [show spl (zs (List.replicate 32 0)) (B.take 32) 0 32 32 = B from spl_all hB]
 refine w_ret ?_
 exact d_ret hP hn hE [] (r_cell Tryz.results91)

theorem work_n (B : List Int) (h : 0 < B.length) : Con Tryz.prog 137 [.s (.fzi .u8 B)] [] (.s (.bool (decide (B.getD 0 0 ≤ 12)))) [] := by
 refine con_in 7 Tryz.func137 rfl rfl (m := 0) rfl ?_
 intro E hP hn hE
 refine qz hP hn ?_
 refine s_op k_as ?_
 refine qx hP hn ?_
 refine o3 ?_
 refine o2 ?_
 refine s_nil trivial (n_wp (w_ret ?_))
 exact d_ret hP hn hE [] (by first | exact r_tmp Tryz.results137 | exact r_tmpa Tryz.results137)

theorem maypar_y (L : List (Nat × List Int)) (hLb : L.length ≤ 1000000) (hall : ∀ i, i < L.length → lastT L i < (L.getD i p0).1) : Con Tryz.prog 80 [.s (PARS L)] [] (.s (.bool true)) [] := by
 refine con_in 19 Tryz.func80 rfl rfl (m := 0) rfl ?_
 intro E hP hn hE
 refine qz hP hn ?_
 refine s_op k_as ?_
 refine qx hP hn ?_
 refine s_op k_as ?_
 refine s_nil trivial (n_wp (w_seq (qz hP hn ?_)))
 refine o3 ?_
 refine s_nil trivial (n_wp (w_block ?_))
 refine c_loop (fun m_ T H => ∃ i, i ≤ L.length ∧ m_ = L.length - i ∧ (∀ k, k < i → lastT L k < (L.getD k p0).1) ∧ T = [(3, .s (.int .u16 ((lastT L i : Nat) : Int))), (6, .s (PARS L)), (7, .s (.int .i64 ((L.length : Nat) : Int))), (8, .s (.int .i64 ((i : Nat) : Int)))] ∧ H = []) (L.length) ⟨0, by omega, rfl, fun k hk => absurd hk (Nat.not_lt_zero k), rfl, rfl⟩ (wk hE []) ?_
 rintro n_ T_ H_ ⟨i, hi, rfl, hup, rfl, rfl⟩
 refine qz hP hn ?_
 refine s_op k_lss ?_
 refine s_nil trivial (n_wp (w_seq ?_))
 refine w_if rfl (fun h_t9 => ?_) (fun h_t9 => ?_)
 · have hlt := hall i h_t9
   refine w_skip (n_wp (w_seq (w_block (qz hP hn ?_))))
   refine s_op k_ix ?_
   refine s_op k_ldP ?_
   refine s_op k_al ?_
   refine s_st k_st ?_
   refine s_nil trivial (n_wp (w_seq (qz hP hn ?_)))
   refine o4 ?_
   refine s_nil trivial (n_wp ?_)
   refine w_F rfl ?_ (decide_eq_false (by omega))
   refine w_skip (n_wp (g_reg hP hn ?_))
   refine o3 ?_
   refine s_nil trivial (n_blo (n_wp (g_reg hP hn ?_)))
   refine o2 ?_
   refine s_nil trivial ?_
   exact n_round (L.length - (i + 1)) (by omega) ⟨i + 1, by omega, rfl, fun k hk => (Nat.lt_succ_iff_lt_or_eq.1 hk).elim (hup k) (fun e => e ▸ hlt), rfl, rfl⟩ (wk hE [])
 · refine w_exit (x_thn (x_thn (x_eq (n_wp (qz hP hn ?_)))))
   refine s_op k_as ?_
   refine s_nil trivial (n_wp (w_ret ?_))
   exact d_ret hP hn hE [] (by first | exact r_tmp Tryz.results80 | exact r_tmpa Tryz.results80)

theorem readp_n (B : List Int) (hB : B.length = 41 ∨ B.length = 73) (hU : U8' B) : Con Tryz.prog 136 [.s (.fzi .u8 B)] [] (.agg [.one (.int .u8 (B.getD 0 0)), .one (.int .u64 (((gN ((B.drop 1).take (B.length - 1)) 8) : Nat) : Int)), .ints .u8 32 ((B.drop 9).take 32)]) [] := by
 refine con_in 19 Tryz.func136 rfl rfl (m := 0) rfl ?_
 intro E hP hn hE
 refine qz hP hn ?_
 refine s_op k_al ?_
 refine qx hP hn ?_
 refine s_op k_mv ?_
 refine s_op k_sl ?_
 refine s_op (k_call [] (con := get_n ((B.drop 1).take (B.length - 1)) 8 (by decide) (by decide) (by simp; omega) (U8'_take (U8'_drop hU 1) _))) ?_
 refine o3 ?_
 refine o2 ?_
 refine s_nil trivial (n_wp (w_seq ?_))
 refine g_any hP hn ?_
 refine o3 ?_
 refine o2 ?_
 refine s_op k_sl ?_
 refine s_op (k_call [] (con := sump_n ((B.drop 9).take 32) (by simp; omega))) ?_
 refine s_op k_bd ?_
 refine s_st k_st ?_
 refine s_nil (by kernel_rfl) ?_
 refine n_wp (w_ret ?_)
 exact d_ret hP hn hE [] (r_cell Tryz.results136)

end Go.Proofs.X
end
