/- A part of the proofs of this claim: BPar3, BPar4, Bx39, BPcsT, BPcsS, BPcs1, BPcs2, BPcs3, Bx40, Bx41, BPktT, BPktS. No conditions. -/
import Derived.Test.YtcddchknofjbhaaGreatA8
set_option linter.unusedVariables false
set_option linter.unusedSimpArgs false
section
set_option maxRecDepth 100000
set_option maxHeartbeats 4000000
open Go Go.Bx Go.Proofs
namespace Go.Proofs.X
theorem row1_m (B ws : List Int) (each tot : Nat) (ht : tot = B.length + each * ws.length) (htb : tot ≤ 140737488355328) (hws : ws.length ≤ 1000000) (h0 : 0 < B.length) : Con Tryz.prog 81 [.s (.fzi .u8 B), .s (.int .i64 ((each : Nat) : Int)), .s (.fzi .u64 ws)] [] (.s (.slice 0 0 0 tot tot)) [some ⟨true, [.ints .u8 tot (spl (rr tot each ws.length ws ws.length) (B.take B.length) 0 B.length tot)]⟩] := by
 refine con_inF 44 Tryz.func81 rfl rfl (m := 0) rfl ?_
 intro E hP hn hE hF
 refine qz hP hn ?_
 refine s_op k_bx ?_
 refine s_op k_as ?_
 refine qx hP hn ?_
 refine o4 ?_
 refine o2 ?_
 refine s_op (k_add (by exact l_bin rfl rfl (b_add (r := ((tot : Nat) : Int)) (by rw [ht]; exact m_add (by omega))))) ?_
 refine s_op k_mk ?_
 refine s_op k_al ?_
 refine s_st k_st ?_
 refine qx hP hn ?_
 refine o3 ?_
 refine s_st k_st ?_
 refine s_nil trivial (n_wp (w_seq (qz hP hn ?_)))
 refine s_op k_mv ?_
 refine s_op (k_call [] (con := backward_c _)) ?_
 refine s_nil trivial (n_wp (w_block ?_))
 have hmul : each * ws.length ≤ tot := by omega
 refine w_weak (weak_tm (T' := [(0, .s (.fzi .u8 B)), (4, .s (.ptr 0 0 0)), (7, .s (.ptr 2 0 0)), (8, .s (.ptr 3 0 0)), (22, .s (.clo 129 1 (capF [.ptr 4 0 0])))])) ?_
 refine w_rangeFunc (gf := 129) (n := 1) (q := capF [.ptr 4 0 0]) (Hend := RH each tot (tot - each * ws.length) (rr tot each ws.length ws ws.length) ws) hF rfl (by rw [hP]; exact Clb.h) (Nat.le_refl _) (back_iter hP hn 4 ws 23 24 (by decide) (by decide) _ _ _ (fun k => RH each tot (tot - each * k) (rr tot each ws.length ws k) ws) hws (fun _ _ => rfl) (fun k hk => ?_)) ?_
 · have hk1 : each * (k + 1) ≤ each * ws.length := Nat.mul_le_mul_left each hk
   have hnx : tot - each * (k + 1) = tot - each * k - each := by rw [Nat.mul_succ]; omega
   have hA1 : each ≤ tot - each * k := by rw [Nat.mul_succ] at hk1; omega
   have hA2 : tot - each * k ≤ tot := Nat.sub_le _ _
   show YRound _ _ _ _ _ (RH each tot (tot - each * k) (rr tot each ws.length ws k) ws) (RH each tot (tot - each * (k + 1)) (rb (rr tot each ws.length ws k) (tot - each * k) (ws.getD (ws.length - 1 - k) 0) each).1 ws)
   rw [hnx]
   have hout := rr_len tot each ws.length ws k
   generalize tot - each * k = A at *
   generalize rr tot each ws.length ws k = out at *
   generalize ws.getD (ws.length - 1 - k) 0 = v at *
   refine ⟨Nat.le_refl _, [(4, .s (.ptr 0 0 0)), (7, .s (.ptr 2 0 0)), (8, .s (.ptr 3 0 0)), (10, .s (.int .u64 v))], fun l E hP hn hE => ⟨?_, ?_⟩⟩
   · refine ig_reg hP hn ?_
     refine s_op k_as ?_
     refine s_nil trivial ?_
     exact ⟨rfl, weak_tm⟩
   · refine i_block ?_
     refine i_seq ?_
     refine ig_reg hP hn ?_
     refine o2 ?_
     refine s_nil trivial ?_
     refine ni_wp ?_
     refine i_block ?_
     refine i_loop (fun m T H => ∃ j, j ≤ each ∧ m = each - j ∧ T = [(4, .s (.ptr 0 0 0)), (7, .s (.ptr 2 0 0)), (8, .s (.ptr 3 0 0)), (10, .s (.int .u64 (rb out A v j).2)), (25, .s (.int .i64 ((each : Nat) : Int))), (26, .s (.int .i64 ((j : Nat) : Int)))] ∧ H = RH each tot (A - j) (rb out A v j).1 ws) (each) ⟨0, by omega, rfl, rfl, rfl⟩ weak_tm ?_
     rintro n_ T_ H_ ⟨j, hj, rfl, rfl, rfl⟩
     have hlj : (rb out A v j).1.length = tot := (rb_len out A v j).trans hout
     refine i_seq ?_
     refine ig_reg hP hn ?_
     refine s_op k_lss ?_
     refine s_nil trivial ?_
     refine ni_wp ?_
     refine i_seq ?_
     refine iw_if rfl (fun h_t27 => ?_) (fun h_t27 => ?_)
     · refine i_skip ?_
       refine ni_wp ?_
       refine i_seq ?_
       refine i_block ?_
       refine i_seq ?_
       refine ig_reg hP hn ?_
       refine o2 ?_
       refine s_st k_st ?_
       refine s_nil trivial ?_
       refine ni_wp ?_
       refine ig_reg hP hn ?_
       refine o3 ?_
       refine o2 ?_
       refine s_op (k_quo (by exact l_bin rfl rfl (b_quo (by decide) rfl))) ?_
       refine s_op k_ix ?_
       refine s_st k_st ?_
       refine s_op k_as ?_
       refine s_nil trivial (n_blo ?_)
       refine ni_wp ?_
       refine ig_reg hP hn ?_
       refine o2 ?_
       refine s_nil trivial ?_
       exact n_round (each - (j + 1)) (by omega) ⟨j + 1, by omega, rfl, rfl, rfl⟩ weak_tm
     · have hje : j = each := by omega
       subst hje
       refine i_exit ?_
       refine x_thn (x_thn (x_eq (n_blo ?_)))
       exact ⟨rfl, weak_tm⟩
 have hat : tot - each * ws.length = B.length := by omega
 rw [hat]
 refine n_blo (n_wp (qz hP hn ?_))
 refine o2 ?_
 refine s_op k_sl ?_
 refine s_op k_mv ?_
 refine s_op (k_cpn B.length) ?_
 refine qx hP hn ?_
 refine o2 ?_
 refine s_nil trivial (n_wp (w_ret ?_))
 exact d_retw hP hn (r_tmp Tryz.results81) (wk hE [1])

theorem row1_b (B : List Int) (n v : Nat) (hn0 : 0 < n) (hv : v < 18446744073709551616) (h0 : 0 < B.length) (hB : B.length + n ≤ 140737488355000) : Con Tryz.prog 81 [.s (.fzi .u8 B), .s (.int .i64 ((n : Nat) : Int)), .s (.fzi .u64 [(v : Int)])] [] (.s (.slice 0 0 0 (B.length + n) (B.length + n))) [some ⟨true, [.ints .u8 (B.length + n) (B ++ be n v)]⟩] := by
 have h := row1_m B [(v : Int)] n (B.length + n) (by simp) (by omega) (Nat.le_of_ble_eq_true rfl) h0
 have e := rowL_1 B n v hn0 hv
 rw [rowL, if_neg (by omega)] at e
 rw [show spl (rr (B.length + n) n [(v : Int)].length [(v : Int)] [(v : Int)].length) (B.take B.length) 0 B.length (B.length + n) = B ++ be n v from e] at h
 exact h

attribute [local irreducible] wd dg be gN rr
theorem put_m (B : List Int) (v n : Nat) (hn0 : 0 < n) (hn8 : n ≤ 8) (hv : v < 18446744073709551616) (h0 : 0 < B.length) (hB : B.length ≤ 1000000) : Con Tryz.prog 52 [.s (.fzi .u8 B), .s (.int .u64 ((v : Nat) : Int)), .s (.int .i64 ((n : Nat) : Int))] [] (.s (.slice 0 0 0 (B.length + n) (B.length + n))) [some ⟨true, [.ints .u8 (B.length + n) (B ++ be n v)]⟩] := by
 refine con_in 14 Tryz.func52 rfl rfl (m := 0) rfl ?_
 intro E hP hn hE
 refine qz hP hn ?_
 refine s_op k_as ?_
 refine qx hP hn ?_
 refine o2 ?_
 refine s_op (k_min (by exact l_min (r := ((n : Nat) : Int)) rfl rfl (by have := hn8; split <;> omega))) ?_
 refine s_op (k_max (by exact l_max (r := ((n : Nat) : Int)) rfl rfl (by split <;> omega))) ?_
 refine s_op k_mv ?_
 refine s_op k_bsf ?_
 refine s_op (k_call [] (con := row1_b B n v hn0 hv h0 (by omega))) ?_
 refine s_op k_as ?_
 refine s_nil trivial (n_wp (w_ret ?_))
 exact d_ret hP hn hE [1] (by first | exact r_tmp Tryz.results52 | exact r_tmpa Tryz.results52)

theorem put9_m (b : Int) (n : Nat) (hn64 : n < 18446744073709551616) : Con Tryz.prog 52 [.s (.fzi .u8 [b]), .s (.int .u64 ((n : Nat) : Int)), .s (.int .i64 ((8 : Nat) : Int))] [] (.s (.slice 0 0 0 9 9)) [some ⟨true, [.ints .u8 9 ([b] ++ be 8 n)]⟩] := put_m [b] n 8 (by decide) (by decide) hn64 (Nat.le_of_ble_eq_true rfl) (Nat.le_of_ble_eq_true rfl)

theorem pp_n (b : Int) (n : Nat) (I : List Int) (hn64 : n < 18446744073709551616) (hI : I.length = 32) : Con Tryz.prog 114 [.agg [.one (.int .u8 b), .one (.int .u64 ((n : Nat) : Int)), .ints .u8 32 I]] [] (.s (.fzi .u8 ([b] ++ be 8 n ++ I))) [] := by
 refine con_in 13 Tryz.func114 rfl rfl (m := 0) rfl ?_
 intro E hP hn hE
 refine qz hP hn ?_
 refine s_op k_bxf ?_
 refine s_op k_as ?_
 refine s_nil trivial (n_wp (w_seq ?_))
 refine g_any hP hn ?_
 refine o2 ?_
 refine s_op k_bsf ?_
 refine o2 ?_
 refine s_op (k_call [] (con := put9_m b n hn64) (v := .s (.slice 2 0 0 9 9)) (hv := rfl) (H' := [none, none, some ⟨true, [.ints .u8 9 ([b] ++ be 8 n)]⟩]) (hH := rfl)) ?_
 refine s_op k_fa ?_
 refine s_op k_slp ?_
 refine s_op (k_apf (hl := by simp [be_len]) (c := 41) (hc := by simp [hI]) (l' := [b] ++ be 8 n ++ I) (hl' := by rfl) (hbig := by simp [hI])) ?_
 refine s_op (k_call [3] (con := clip_g 41 41 ([b] ++ be 8 n ++ I))) ?_
 refine s_op k_as ?_
 refine s_nil (by kernel_rfl) ?_
 refine n_wp (w_ret ?_)
 have HL : ([b] ++ be 8 n ++ I).length = 41 := by simp [be_len, hI]
 exact d_retw hP hn (r_tmp Tryz.results114) ((frz_gro 0 (l' := [b] ++ be 8 n ++ I) (hl := HL) (hl' := List.take_of_length_le (Nat.le_of_eq HL))).trans (wk hE []))

end Go.Proofs.X
end

section
set_option maxRecDepth 100000
set_option maxHeartbeats 4000000
open Go Go.Bx Go.Proofs
namespace Go.Proofs.X
attribute [local irreducible] wd dg be gN rr
theorem ex_form (B : List Int) (hB : ¬ B.length = 41) : Con Tryz.prog 135 [.s (.fzi .u8 B), .s (.int .i64 41), .s (.val (.func (.func 136) #[] #[])), .s (.fz 1 1 fun _ _ => .val (.func (.func 137) #[] #[]))] [] (.tup [.agg [.one (.int .u8 0), .one (.int .u64 0), .ints .u8 32 (zs (List.replicate 32 0))], .s (.int .i64 4)]) [] := by
 refine con_in 32 Tryz.func135 rfl rfl (m := 0) rfl ?_
 intro E hP hn hE
 refine qz hP hn ?_
 refine o2 ?_
 refine s_nil trivial (n_wp (w_seq (qz hP hn ?_)))
 refine o4 ?_
 refine s_nil trivial (n_wp ?_)
 refine w_T rfl ?_ (by first | (rw [decide_eq_false hB]; rfl) | (simp [hB]; done) | exact decide_eq_true (by omega))
 refine qz hP hn ?_
 refine s_op k_ld ?_
 refine s_st k_st ?_
 refine s_op k_as ?_
 refine s_nil trivial (n_wp (w_ret (r_thn ?_)))
 exact d_ret hP hn hE [] (ret2 Tryz.results135 r_cella (by first | exact ri_tmp rfl | exact ri_tmpa rfl))

theorem ex_y (B : List Int) (hB : B.length = 41) (hU : U8' B) (hw : B.getD 0 0 ≤ 12) : Con Tryz.prog 135 [.s (.fzi .u8 B), .s (.int .i64 41), .s (.val (.func (.func 136) #[] #[])), .s (.fz 1 1 fun _ _ => .val (.func (.func 137) #[] #[]))] [] (.tup [.agg [.one (.int .u8 (B.getD 0 0)), .one (.int .u64 (((gN ((B.drop 1).take (B.length - 1)) 8) : Nat) : Int)), .ints .u8 32 ((B.drop 9).take 32)], .s (.int .i64 0)]) [] := by
 refine con_in 32 Tryz.func135 rfl rfl (m := 0) rfl ?_
 intro E hP hn hE
 refine qz hP hn ?_
 refine o2 ?_
 refine s_nil trivial (n_wp (w_seq (qz hP hn ?_)))
 refine o4 ?_
 refine s_nil trivial (n_wp ?_)
 refine w_F rfl ?_ (by rw [hB]; rfl)
 refine w_skip (n_wp (w_seq (qz hP hn ?_)))
 refine o3 ?_
 refine s_nil trivial (n_wp (w_block ?_))
 refine c_loop (fun m_ T H => ∃ i, i ≤ 1 ∧ m_ = 1 - i ∧ T = [(0, .s (.fzi .u8 B)), (2, .s (.val (.func (.func 136) #[] #[]))), (8, .s (.ptr 0 0 0)), (9, .s (.int .i64 0)), (17, .s (.fz 1 1 fun _ _ => .val (.func (.func 137) #[] #[]))), (18, .s (.int .i64 ((1 : Nat) : Int))), (19, .s (.int .i64 ((i : Nat) : Int)))] ∧ H = [some ⟨true, [.one (.int .u8 0), .one (.int .u64 0), .ints .u8 32 (zs (List.replicate 32 0))]⟩]) (1) ⟨0, by omega, rfl, rfl, rfl⟩ (wk hE [0]) ?_
 rintro n_ T_ H_ ⟨i, hi, rfl, rfl, rfl⟩
 refine qz hP hn ?_
 refine s_op k_lss ?_
 refine s_nil trivial (n_wp (w_seq ?_))
 refine w_if rfl (fun h_t20 => ?_) (fun h_t20 => ?_)
 · refine w_skip (n_wp (w_seq (w_block (qz hP hn ?_))))
   refine s_op k_ix ?_
   refine s_op (k_ld (by exact a_loadf (v := .val (.func (.func 137) #[] #[])) rfl (by omega) rfl)) ?_
   refine s_op k_as ?_
   refine s_nil trivial (n_wp (w_seq ?_))
   refine w_weak (weak_conv 11 rfl (conv_vf (q := capF []))) ?_
   refine g_reg hP hn ?_
   refine o2 ?_
   refine s_op (k_callN [] (con := work_n B (by omega))) ?_
   refine s_op k_not ?_
   refine s_nil trivial (n_wp ?_)
   refine w_F rfl ?_ (by rw [decide_eq_true hw]; rfl)
   refine w_skip (n_blo (n_wp (g_reg hP hn ?_)))
   refine o2 ?_
   refine s_nil trivial ?_
   exact n_round (1 - (i + 1)) (by omega) ⟨i + 1, by omega, rfl, rfl, rfl⟩ (wk hE [0])
 · refine w_exit (x_thn (x_thn (x_eq (n_wp (w_seq ?_)))))
   refine w_weak (weak_conv 2 rfl (conv_vf (q := capF []))) ?_
   refine g_reg hP hn ?_
   refine o2 ?_
   refine s_op (k_callN [] (con := readp_n B (.inl hB) hU)) ?_
   refine s_st k_st ?_
   refine s_op k_as ?_
   refine s_nil trivial (n_wp (w_ret ?_))
   exact d_ret hP hn hE [] (ret2 Tryz.results135 r_cella (by first | exact ri_tmp rfl | exact ri_tmpa rfl))

theorem ex_work (B : List Int) (hB : B.length = 41) (hw : ¬ B.getD 0 0 ≤ 12) : Con Tryz.prog 135 [.s (.fzi .u8 B), .s (.int .i64 41), .s (.val (.func (.func 136) #[] #[])), .s (.fz 1 1 fun _ _ => .val (.func (.func 137) #[] #[]))] [] (.tup [.agg [.one (.int .u8 0), .one (.int .u64 0), .ints .u8 32 (zs (List.replicate 32 0))], .s (.int .i64 4)]) [] := by
 refine con_in 32 Tryz.func135 rfl rfl (m := 0) rfl ?_
 intro E hP hn hE
 refine qz hP hn ?_
 refine o2 ?_
 refine s_nil trivial (n_wp (w_seq (qz hP hn ?_)))
 refine o4 ?_
 refine s_nil trivial (n_wp ?_)
 refine w_F rfl ?_ (by rw [hB]; rfl)
 refine w_skip (n_wp (w_seq (qz hP hn ?_)))
 refine o3 ?_
 refine s_nil trivial (n_wp (w_block ?_))
 refine c_loop (fun m_ T H => ∃ i, i ≤ 1 ∧ m_ = 1 - i ∧ i = 0 ∧ T = [(0, .s (.fzi .u8 B)), (2, .s (.val (.func (.func 136) #[] #[]))), (8, .s (.ptr 0 0 0)), (9, .s (.int .i64 0)), (17, .s (.fz 1 1 fun _ _ => .val (.func (.func 137) #[] #[]))), (18, .s (.int .i64 ((1 : Nat) : Int))), (19, .s (.int .i64 ((i : Nat) : Int)))] ∧ H = [some ⟨true, [.one (.int .u8 0), .one (.int .u64 0), .ints .u8 32 (zs (List.replicate 32 0))]⟩]) (1) ⟨0, by omega, rfl, rfl, rfl, rfl⟩ (wk hE [0]) ?_
 rintro n_ T_ H_ ⟨i, hi, rfl, hi0, rfl, rfl⟩
 refine qz hP hn ?_
 refine s_op k_lss ?_
 refine s_nil trivial (n_wp (w_seq ?_))
 have h_t20 : i < 1 := by omega
 refine w_T rfl ?_ (decide_eq_true (by omega))
 refine w_skip (n_wp (w_seq (w_block (qz hP hn ?_))))
 refine s_op k_ix ?_
 refine s_op (k_ld (by exact a_loadf (v := .val (.func (.func 137) #[] #[])) rfl (by omega) rfl)) ?_
 refine s_op k_as ?_
 refine s_nil trivial (n_wp (w_seq ?_))
 refine w_weak (weak_conv 11 rfl (conv_vf (q := capF []))) ?_
 refine g_reg hP hn ?_
 refine o2 ?_
 refine s_op (k_callN [] (con := work_n B (by omega))) ?_
 refine s_op k_not ?_
 refine s_nil trivial (n_wp ?_)
 refine w_T rfl ?_ (by rw [decide_eq_false hw]; rfl)
 refine qz hP hn ?_
 refine s_op k_ld ?_
 refine s_st k_st ?_
 refine s_op k_as ?_
 refine s_nil trivial (n_wp (w_ret (r_blo (r_thn (r_thn (r_blo (r_thn ?_)))))))
 exact d_ret hP hn hE [] (ret2 Tryz.results135 r_cella (by first | exact ri_tmp rfl | exact ri_tmpa rfl))

end Go.Proofs.X
end

section
/- Rows put behind rows out of other memory; a struct's field. No program. -/
namespace Go.Bx
section
variable {P : Program} {T : Tm} {H : Heap} {d : Option Tmp} {ty : TypeId} {pos : String} {af : Array Edge} {g : Option (Nat × Bool)}
theorem k_apiS (q' : Nat → Nat → SV) {x y : Operand} {t tx e rt : TypeId} {id id2 n m dc c c2 mc r w : Nat} {b2 : Bool} {q g2 : Nat → Nat → SV} {inf : TypeInfo} {H' : Heap} [hu : Und P t (.slice e)] [hux : Und P tx (.slice e)] [hi : Inf P e inf] (hx : ev T x = .s (.slice id 0 0 n dc) := by rfl) (hy : ev T y = .s (.slice id2 0 0 m mc) := by rfl) (hb : hget H id = some ⟨true, [.rows c w q]⟩ := by rfl) (hb2 : hget H id2 = some ⟨b2, [.rows c2 w g2]⟩ := by rfl) (hsz : inf.size = w := by exact rfl) (hw : 0 < w := by exact Nat.le_of_ble_eq_true rfl) (h0 : 0 < m := by exact Nat.le_of_ble_eq_true rfl) (hdc : n + m ≤ dc := by omega) (hc : n + m ≤ c := by omega) (hc2 : m ≤ c2 := by omega) (hr : n + m = r := by rfl) (hg : ∀ i j, i < m → j < w → q' (n + i) j = g2 i j) (hg2 : ∀ i j, ¬(n ≤ i ∧ i < n + m) → i < c → j < w → q' i j = q i j) (hH : H.set id (some ⟨true, [.rows c w q']⟩) = H' := by repeat (first | exact hset_0 | apply hset_s)) :
    LOk P ⟨d, .call ⟨.builtin .append, #[x, y], #[t, tx]⟩, rt, pos, af, g⟩ T H H' (.s (.slice id 0 0 r dc)) [id, id2] [id] := by
  subst hH; subst hr
  have hlt := hget_lt hb
  have hlt2 := hget_lt hb2
  refine lok_set [id, id2] (fun j hj => by
    simp at hj
    rcases hj with rfl | rfl
    · exact hlt
    · exact hlt2) (by simp) fun H0 hl hag => ?_
  intro W ρ a w' hH hnn hW ho next Q hq
  have k1 : (ev T x).rep ρ (a.eval x) := ho x (by simp [Op.operands, Call.operands])
  have k2 : (ev T y).rep ρ (a.eval y) := ho y (by simp [Op.operands, Call.operands])
  rw [hx] at k1
  rw [hy] at k2
  obtain ⟨b, o, hρ, k1⟩ := k1
  have hsub : SubS [.rows c2 w g2] (0 + 0) (m * w) [.rows m w g2] := by
    have h := SubS.rowsW (p := 0) (m := m) (c := c2) (g := g2) (g2 := g2) hw (by omega) (fun i j _ _ => by rw [Nat.zero_add])
    rwa [Nat.zero_mul] at h
  obtain ⟨news, hS, hnr, _⟩ := (asrc_sl (P := P) (tx := tx) (cap := mc) (base := 0) (idx := 0) (n := m) (size := w) hux.h hb2 hsub).2 _ W ρ w' _ (fun j hj => by simp at hj; subst hj; exact hag _ (by simp)) hH k2
  have hb0 : hget H0 id = some ⟨true, [.rows c w q]⟩ := (hag id (by simp)).trans hb
  obtain ⟨⟨cells, tt, fr, g1, g2', _, g4⟩, hWb⟩ := hH.rep id b o _ hρ hb0
  have hfr := g2' rfl
  subst hfr
  have hp : PutS [.rows c w q] (n * w) (m * w) [.rows m w g2] [.rows c w q'] := .rowsW hw h0 hc hg hg2
  have hfit := fits g4 hp
  have hnl : news.length = m * w := hS.newsLen
  have hst := run_storeCells_at P b (o + n * w) tt news 0 cells w' g1 (by rw [hnl]; omega) hS.one
  rw [Nat.add_zero] at hst
  have hrun : (execOp a.eval ⟨d, .call ⟨.builtin .append, #[x, y], #[t, tx]⟩, rt, pos, af, g⟩).run P w' = .ok (.value (.slice (some ⟨b, o, none⟩) (n + m) dc)) (w'.setRow b (cells.toList.take (o + n * w) ++ news ++ cells.toList.drop (o + n * w + news.length)).toArray) := by
    simp only [execOp, resolve, invoke, builtin, List.map_toArray, List.map_cons, List.map_nil, k1]
    have hc2 := hS.cells
    rcases hS.kind with ⟨e', hk⟩ | hk <;> (simp [Builtin.append_, Sem.run_bind, run_underlying hu.h, run_underlying hk, sizeOf, typeInfo, hi.h, hsz, hS.len, hc2, hdc, addr_add]; rw [hst]; simp)
  rw [hrun]
  refine hq _ _ ⟨ρ, W, nx_write hH hW hρ hb0 g1 g4 hp hnl (fun i z hz => ?_) hfit, b, o, hρ, rfl⟩
  exact hnr i z hz
theorem k_bxs {t : TypeId} {x : Operand} {v : SV} {H' : Heap} (hx : ev T x = .s v := by rfl) (hj : v ≠ .junk := by exact fun h => by cases h) (hid : v.idB (fun _ => false) = true := by exact rfl) (hH : H ++ [none] = H' := by repeat (first | exact happ_0 | apply happ_s)) : LOk P ⟨d, .box t x, ty, pos, af, g⟩ T H H' (.s (.fptr 1 (cellsF [.one v]) 0 0)) [] [] :=
  lok_val' (l_box hx hj rfl) (conv_ptr (k := ⟨false, [.one v]⟩) (hget_last _ _) rfl rfl (by simp [Seg.idB, hid])) hH
theorem k_fd {t : TypeId} {x : Operand} {f : Nat} {fs : Array Field} {fd : Field} {segs : List Seg} {v : SV} [hu : Und P t (.struct fs)] (hf : fs[f]? = some fd := by rfl) (ha : ∀ w, (isAgg fd.type).run P w = .ok false w := by exact Ag.h) (hx : ev T x = .agg segs := by rfl) (hv : atS segs fd.offset = some v := by rfl) : LOk P ⟨d, .field t x f, ty, pos, af, g⟩ T H H (.s v) [] [] :=
  lok_pure fun ρ a w ho => by
    have h1 := one (op := .field t x f) rfl ho hx
    obtain ⟨cs, e1, _, e2⟩ := h1
    obtain ⟨u, hu1, hr, _⟩ := e2 _ v hv
    have hu1 : cs[fd.offset]? = some u := hu1
    exact ⟨u, by simp [execOp, e1, Instr.field, Sem.run_bind, run_underlying hu.h, hf, ha, part, hu1, asAgg], hr⟩
end
end Go.Bx
end

section
/- Types and functions of pieces in memory, as instances. -/
open Go Go.Bx Go.Proofs
namespace Go.Proofs.X
instance : Clb Tryz.prog 120 := ⟨_, Tryz.func120, by kernel_rfl, rfl⟩
instance : Clb Tryz.prog 109 := ⟨_, Tryz.func109, by kernel_rfl, rfl⟩
instance : Clb Tryz.prog 58 := ⟨_, Tryz.func58, by kernel_rfl, rfl⟩
instance : Clb Tryz.prog 132 := ⟨_, Tryz.func132, by kernel_rfl, rfl⟩
instance : Clb Tryz.prog 147 := ⟨_, Tryz.func147, by kernel_rfl, rfl⟩
instance : Clb Tryz.prog 130 := ⟨_, Tryz.func130, by kernel_rfl, rfl⟩
instance : Clb Tryz.prog 148 := ⟨_, Tryz.func148, by kernel_rfl, rfl⟩
instance : Clb Tryz.prog 131 := ⟨_, Tryz.func131, by kernel_rfl, rfl⟩
instance : Clb Tryz.prog 121 := ⟨_, Tryz.func121, by kernel_rfl, rfl⟩
instance : Clb Tryz.prog 110 := ⟨_, Tryz.func110, by kernel_rfl, rfl⟩
instance : Clb Tryz.prog 133 := ⟨_, Tryz.func133, by kernel_rfl, rfl⟩
instance : Clb Tryz.prog 134 := ⟨_, Tryz.func134, by kernel_rfl, rfl⟩
instance : Clb Tryz.prog 111 := ⟨_, Tryz.func111, by kernel_rfl, rfl⟩
instance : Clb Tryz.prog 96 := ⟨_, Tryz.func96, by kernel_rfl, rfl⟩
instance : Clb Tryz.prog 113 := ⟨_, Tryz.func113, by kernel_rfl, rfl⟩
instance : Und Tryz.prog 87 (.func #[59] #[53, 48] false) := ⟨Tryz.underlying87⟩
instance : Sz Tryz.prog 87 1 := ⟨Tryz.sizeOf87⟩
instance : Ag Tryz.prog 87 false := ⟨Tryz.isAgg87⟩
instance : Zv Tryz.prog 87 [.one (.val .nilFunc)] := ⟨_, Tryz.zeroValue87, by kernel_rfl⟩
instance : Inf Tryz.prog 87 Tryz.t87 := ⟨by kernel_rfl⟩
instance : Und Tryz.prog 163 (.struct #[{ name := "t", type := 89, offset := 0, embedded := false, tag := "", pkgPath := "burrow/covers", byteOffset := 0 }, { name := "body", type := 87, offset := 1, embedded := false, tag := "", pkgPath := "burrow/covers", byteOffset := 8 }]) := ⟨Tryz.underlying163⟩
instance : Sz Tryz.prog 163 2 := ⟨Tryz.sizeOf163⟩
instance : Ag Tryz.prog 163 true := ⟨Tryz.isAgg163⟩
instance : Zv Tryz.prog 163 [.one (.int .u16 0), .one (.val .nilFunc)] := ⟨_, Tryz.zeroValue163, by kernel_rfl⟩
instance : FldC Tryz.prog 163 0 0 := ⟨_, _, _, Tryz.underlying163, rfl, Tryz.sizeOf89, by decide, rfl⟩
instance : FldC Tryz.prog 163 1 1 := ⟨_, _, _, Tryz.underlying163, rfl, Tryz.sizeOf87, by decide, rfl⟩
instance : Pl Tryz.prog 163 #[(0, 1), (1, 1)] := ⟨_, Tryz.underlying163, fun w => by kernel_rfl⟩
instance : Inf Tryz.prog 163 Tryz.t163 := ⟨by kernel_rfl⟩
instance : Und Tryz.prog 193 (.func #[123] #[4] false) := ⟨Tryz.underlying193⟩
instance : Sz Tryz.prog 193 1 := ⟨Tryz.sizeOf193⟩
instance : Ag Tryz.prog 193 false := ⟨Tryz.isAgg193⟩
instance : Zv Tryz.prog 193 [.one (.val .nilFunc)] := ⟨_, Tryz.zeroValue193, by kernel_rfl⟩
instance : Inf Tryz.prog 193 Tryz.t193 := ⟨by kernel_rfl⟩
instance : Und Tryz.prog 227 (.func #[123, 89] #[3] false) := ⟨Tryz.underlying227⟩
instance : Sz Tryz.prog 227 1 := ⟨Tryz.sizeOf227⟩
instance : Ag Tryz.prog 227 false := ⟨Tryz.isAgg227⟩
instance : Zv Tryz.prog 227 [.one (.val .nilFunc)] := ⟨_, Tryz.zeroValue227, by kernel_rfl⟩
instance : Inf Tryz.prog 227 Tryz.t227 := ⟨by kernel_rfl⟩
end Go.Proofs.X
end

section
/- Pieces in memory, as functions. No program. -/
open Go Go.Bx
namespace Go.Proofs.X
def twF (L : List Pc) (i : Nat) : Nat → Pc := fun k => if k < i then L.getD k p0 else p0
def kpF (L : List Pc) : Nat → Pc := fun k => L.getD k p0
theorem tw_kp (L : List Pc) : twF L L.length = kpF L := by
  funext k
  unfold twF kpF
  split
  · rfl
  · rename_i h
    rw [List.getD_eq_getElem?_getD, List.getElem?_eq_none (by omega)]; rfl
theorem tw_g (L : List Pc) (i : Nat) : ∀ a b, a < 1 → b < 2 → gP (twF L (i + 1)) (i + a) b = rowsF (fun k => [PR (L.getD i p0)].getD k []) a b := fun a b ha _ => by
  obtain rfl : a = 0 := by omega
  show cellsF (PR (twF L (i + 1) (i + 0))) b = cellsF (PR (L.getD i p0)) b
  rw [show i + 0 = i from rfl, twF, if_pos (show i < i + 1 by omega)]
theorem tw_g2 (L : List Pc) (i c : Nat) : ∀ a b, ¬(i ≤ a ∧ a < i + 1) → a < c → b < 2 → gP (twF L (i + 1)) a b = gP (twF L i) a b := fun a b h _ _ => by
  have : twF L (i + 1) a = twF L i a := by
    unfold twF
    by_cases h1 : a < i
    · rw [if_pos h1, if_pos (by omega)]
    · rw [if_neg h1, if_neg (by omega)]
  show cellsF (PR (twF L (i + 1) a)) b = cellsF (PR (twF L i a)) b
  rw [this]
theorem tw_0 (L : List Pc) (c : Nat) : ∀ i j, i < c → j < 2 → gP (twF L 0) i j = cellsF (PR p0) j := fun i j _ _ => by
  show cellsF (PR (twF L 0 i)) j = _
  rw [twF, if_neg (Nat.not_lt_zero i)]
theorem kp_out {L : List Pc} {k : Nat} (h : L.length ≤ k) : kpF L k = p0 := by
  unfold kpF; rw [List.getD_eq_getElem?_getD, List.getElem?_eq_none h]; rfl
theorem gP_at (F : Nat → Pc) (i j : Nat) : gP F i j = cellsF (PR (F i)) j := rfl
theorem gP_congr {F G : Nat → Pc} {i : Nat} (h : F i = G i) (j : Nat) : gP F i j = gP G i j := by rw [gP_at, gP_at, h]
def insF (F : Nat → Pc) (i : Nat) (p : Pc) : Nat → Pc := fun k => if k < i then F k else if k = i then p else F (k - 1)
def shF (F : Nat → Pc) (i : Nat) : Nat → Pc := fun k => if k < i + 1 then F k else F (k - 1)
def insL (L : List Pc) (i : Nat) (p : Pc) : List Pc := L.take i ++ p :: L.drop i
theorem ins_kp {L : List Pc} {i : Nat} {p : Pc} (h : i ≤ L.length) (k : Nat) : (insL L i p).getD k p0 = insF (kpF L) i p k := by
  unfold insL insF kpF
  simp only [List.getD_eq_getElem?_getD]
  by_cases h1 : k < i
  · rw [if_pos h1, List.getElem?_append_left (by simp; omega), List.getElem?_take_of_lt h1]
  · rw [if_neg h1, List.getElem?_append_right (by simp; omega), List.length_take, Nat.min_eq_left h]
    by_cases h2 : k = i
    · subst h2; simp
    · rw [if_neg h2]
      obtain ⟨q, hq⟩ : ∃ q, k - i = q + 1 := ⟨k - i - 1, by omega⟩
      rw [hq, List.getElem?_cons_succ, List.getElem?_drop, show i + q = k - 1 by omega]
theorem ins_g (F G : Nat → Pc) (i : Nat) : ∀ a b, a < 1 → b < 2 → gP (insF F i (G 0)) (i + a) b = gP G a b := fun a b ha _ => by
  obtain rfl : a = 0 := by omega
  show cellsF (PR (insF F i (G 0) (i + 0))) b = cellsF (PR (G 0)) b
  rw [show i + 0 = i from rfl, insF, if_neg (Nat.lt_irrefl i), if_pos rfl]
theorem ins_ge (F : Nat → Pc) (p : Pc) (n : Nat) : ∀ a b, ¬(n ≤ a ∧ a < n + 1) → a < n + 1 → b < 2 → gP (insF F n p) a b = gP F a b := fun a b h h1 _ => by
  show cellsF (PR (insF F n p a)) b = cellsF (PR (F a)) b
  rw [insF, if_pos (by omega)]
theorem sh_g (F : Nat → Pc) (i m : Nat) : ∀ a b, a < m → b < 2 → gP (shF F i) (i + 1 + a) b = gP F (i + a) b := fun a b _ _ => by
  show cellsF (PR (shF F i (i + 1 + a))) b = cellsF (PR (F (i + a))) b
  rw [shF, if_neg (by omega), show i + 1 + a - 1 = i + a by omega]
theorem sh_ge (F : Nat → Pc) (i n : Nat) (hi : i ≤ n) : ∀ a b, ¬(i + 1 ≤ a ∧ a < i + 1 + (n - i)) → a < n + 1 → b < 2 → gP (shF F i) a b = gP F a b := fun a b h h1 _ => by
  show cellsF (PR (shF F i a)) b = cellsF (PR (F a)) b
  rw [shF, if_pos (by omega)]
theorem ins_sh (F : Nat → Pc) (p : Pc) (i c : Nat) : ∀ a b, ¬(i ≤ a ∧ a < i + 1) → a < c → b < 2 → gP (insF F i p) a b = gP (shF F i) a b := fun a b h _ _ => by
  show cellsF (PR (insF F i p a)) b = cellsF (PR (shF F i a)) b
  unfold insF shF
  by_cases h1 : a < i
  · rw [if_pos h1, if_pos (by omega)]
  · rw [if_neg h1, if_neg (by omega), if_neg (by omega)]
def okPz (B : List Int) : Bool := decide (B.length = 41) && decide (B.getD 0 0 ≤ 12)
def pzb (B : List Int) : Int := if okPz B then B.getD 0 0 else 0
def pzg (B : List Int) : Nat := if okPz B then gN ((B.drop 1).take (B.length - 1)) 8 else 0
def pzi (B : List Int) : List Int := if okPz B then (B.drop 9).take 32 else zs (List.replicate 32 0)
def pze (B : List Int) : Int := if okPz B then 0 else 4
theorem first_or (pr : Nat → Bool) : ∀ (L : List Pc), (∃ j, j < L.length ∧ (∀ k, k < j → pr (L.getD k p0).1 = false) ∧ pr (L.getD j p0).1 = true ∧ L.any (fun p => pr p.1) = true) ∨ ((∀ k, k < L.length → pr (L.getD k p0).1 = false) ∧ L.any (fun p => pr p.1) = false)
  | [] => .inr ⟨fun k h => absurd h (Nat.not_lt_zero k), rfl⟩
  | x :: r => by
    cases hx : pr x.1 with
    | true => exact .inl ⟨0, by simp, fun k h => absurd h (Nat.not_lt_zero k), hx, by simp [hx]⟩
    | false =>
      rcases first_or pr r with ⟨j, h1, h2, h3, h4⟩ | ⟨h1, h2⟩
      · refine .inl ⟨j + 1, by simpa using h1, fun k hk => ?_, h3, by rw [List.any_cons, h4, Bool.or_true]⟩
        cases k with
        | zero => exact hx
        | succ k => exact h2 k (by omega)
      · refine .inr ⟨fun k hk => ?_, by rw [List.any_cons, h2, hx]; rfl⟩
        cases k with
        | zero => exact hx
        | succ k => exact h1 k (by simpa using hk)
def keepL (pr : Nat → Bool) (L : List Pc) : List Pc := L.filter fun p => !pr p.1
theorem keep_none {pr : Nat → Bool} {L : List Pc} (h : ∀ k, k < L.length → pr (L.getD k p0).1 = false) : keepL pr L = L := by
  refine List.filter_eq_self.2 fun p hp => ?_
  obtain ⟨i, hi, rfl⟩ := List.mem_iff_getElem.1 hp
  have := h i hi
  rw [List.getD_eq_getElem?_getD, List.getElem?_eq_getElem hi] at this
  simp only [Option.getD_some] at this
  simp [this]
theorem take_snoc {L : List Pc} {i : Nat} (h : i < L.length) : L.take (i + 1) = L.take i ++ [L.getD i p0] := by
  rw [List.take_add_one, List.getD_eq_getElem?_getD, List.getElem?_eq_getElem h]; simp
theorem keep_yes {pr : Nat → Bool} {L : List Pc} {i : Nat} (h : i < L.length) (hp : pr (L.getD i p0).1 = false) : keepL pr (L.take (i + 1)) = keepL pr (L.take i) ++ [L.getD i p0] := by
  rw [take_snoc h, keepL, List.filter_append, List.filter_cons_of_pos (by rw [hp]; rfl)]; rfl
theorem keep_no {pr : Nat → Bool} {L : List Pc} {i : Nat} (h : i < L.length) (hp : pr (L.getD i p0).1 = true) : keepL pr (L.take (i + 1)) = keepL pr (L.take i) := by
  rw [take_snoc h, keepL, List.filter_append, List.filter_cons_of_neg (by rw [hp]; exact Bool.false_ne_true), List.filter_nil, List.append_nil]; rfl
theorem keep_first {pr : Nat → Bool} {L : List Pc} {j : Nat} (h : j < L.length) (hn : ∀ k, k < j → pr (L.getD k p0).1 = false) (hp : pr (L.getD j p0).1 = true) : keepL pr (L.take (j + 1)) = L.take j := by
  rw [keep_no h hp]
  refine keep_none fun k hk => ?_
  rw [List.length_take, Nat.min_eq_left (by omega)] at hk
  rw [List.getD_eq_getElem?_getD, List.getElem?_take_of_lt hk, ← List.getD_eq_getElem?_getD]
  exact hn k hk
theorem keep_len (pr : Nat → Bool) (L : List Pc) (i : Nat) : (keepL pr (L.take i)).length ≤ i := Nat.le_trans (List.length_filter_le _ _) (by rw [List.length_take]; exact Nat.min_le_left _ _)
structure DelI (pr : Nat → Bool) (L : List Pc) (j : Nat) (F : Nat → Pc) : Prop where
  lo : ∀ k, k < (keepL pr (L.take j)).length → F k = (keepL pr (L.take j)).getD k p0
  hi : ∀ k, j ≤ k → F k = kpF L k
theorem DelI.start {pr : Nat → Bool} {L : List Pc} {j : Nat} (h : j < L.length) (hn : ∀ k, k < j → pr (L.getD k p0).1 = false) (hp : pr (L.getD j p0).1 = true) : DelI pr L (j + 1) (kpF L) ∧ (keepL pr (L.take (j + 1))).length = j := by
  have e := keep_first h hn hp
  have l : (L.take j).length = j := by rw [List.length_take]; omega
  refine ⟨⟨fun k hk => ?_, fun _ _ => rfl⟩, by rw [e, l]⟩
  rw [e] at hk ⊢
  rw [l] at hk
  rw [List.getD_eq_getElem?_getD, List.getElem?_take_of_lt hk, ← List.getD_eq_getElem?_getD]; rfl
def setF (F : Nat → Pc) (i : Nat) (p : Pc) : Nat → Pc := fun k => if k = i then p else F k
theorem DelI.yes {pr : Nat → Bool} {L : List Pc} {j : Nat} {F : Nat → Pc} (h : DelI pr L j F) (hj : j < L.length) (hp : pr (L.getD j p0).1 = false) : DelI pr L (j + 1) (setF F (keepL pr (L.take j)).length (F j)) ∧ (keepL pr (L.take (j + 1))).length = (keepL pr (L.take j)).length + 1 := by
  have e := keep_yes hj hp
  have hlen := keep_len pr L j
  refine ⟨⟨fun k hk => ?_, fun k hk => ?_⟩, by rw [e]; simp⟩
  · rw [e] at hk ⊢
    unfold setF
    rw [List.getD_eq_getElem?_getD]
    by_cases h1 : k = (keepL pr (L.take j)).length
    · rw [if_pos h1, h1, List.getElem?_append_right (Nat.le_refl _), Nat.sub_self, h.hi j (Nat.le_refl _)]; rfl
    · have hk2 : k < (keepL pr (L.take j)).length := by simp at hk; omega
      rw [if_neg h1, List.getElem?_append_left hk2, h.lo k hk2, List.getD_eq_getElem?_getD]
  · unfold setF
    rw [if_neg (by omega)]
    exact h.hi k (by omega)
theorem DelI.no {pr : Nat → Bool} {L : List Pc} {j : Nat} {F : Nat → Pc} (h : DelI pr L j F) (hj : j < L.length) (hp : pr (L.getD j p0).1 = true) : DelI pr L (j + 1) F ∧ (keepL pr (L.take (j + 1))).length = (keepL pr (L.take j)).length := by
  have e := keep_no hj hp
  exact ⟨⟨by rw [e]; exact h.lo, fun k hk => h.hi k (by omega)⟩, by rw [e]⟩
theorem DelI.done {pr : Nat → Bool} {L : List Pc} {F : Nat → Pc} (h : DelI pr L L.length F) : (∀ k, k < (keepL pr L).length → F k = kpF (keepL pr L) k) ∧ ∀ k, L.length ≤ k → F k = kpF (keepL pr L) k := by
  have e : L.take L.length = L := List.take_length
  have hlo := h.lo
  rw [e] at hlo
  refine ⟨fun k hk => hlo k hk, fun k hk => ?_⟩
  rw [h.hi k hk, kp_out hk, kp_out]
  exact Nat.le_trans (List.length_filter_le _ _) hk
theorem keepL_le (pr : Nat → Bool) (L : List Pc) : (keepL pr L).length ≤ L.length := List.length_filter_le _ _
end Go.Proofs.X
end

section
set_option maxRecDepth 100000
set_option maxHeartbeats 4000000
open Go Go.Bx Go.Proofs
namespace Go.Proofs.X
theorem below1_n (t : Nat) (p : Pc) : Con Tryz.prog 148 [.agg (PR p), .s (.fptr 1 (cellsF [.one (.int .u16 ((t : Nat) : Int))]) 0 0)] [] (.s (.bool (decide (t ≤ p.1)))) [] := by
 refine con_in 8 Tryz.func148 rfl rfl (m := 0) rfl ?_
 intro E hP hn hE
 refine qz hP hn ?_
 refine s_op k_bxf ?_
 refine s_op k_as ?_
 refine qx hP hn ?_
 refine o3 ?_
 refine o2 ?_
 refine s_nil trivial (n_wp (w_ret ?_))
 exact d_ret hP hn hE [] (by first | exact r_tmp Tryz.results148 | exact r_tmpa Tryz.results148)

theorem find1_n (t : Nat) (p : Pc) : Con Tryz.prog 121 [.agg (PR p), .s (.fptr 1 (cellsF [.one (.int .u16 ((t : Nat) : Int))]) 0 0)] [] (.s (.bool (decide (p.1 = t)))) [] := by
 refine con_in 8 Tryz.func121 rfl rfl (m := 0) rfl ?_
 intro E hP hn hE
 refine qz hP hn ?_
 refine s_op k_bxf ?_
 refine s_op k_as ?_
 refine qx hP hn ?_
 refine o3 ?_
 refine o2 ?_
 refine s_nil trivial (n_wp (w_ret ?_))
 exact d_ret hP hn hE [] (by first | exact r_tmp Tryz.results121 | exact r_tmpa Tryz.results121)

theorem on1_n (t : Nat) (y : SV) (p : Pc) : Con Tryz.prog 110 [.agg (PR p), .s (.fptr 2 (cellsF [.one (.int .u16 ((t : Nat) : Int)), .one y]) 0 0)] [] (.s (.bool (decide (t ≤ p.1)))) [] := by
 refine con_in 9 Tryz.func110 rfl rfl (m := 0) rfl ?_
 intro E hP hn hE
 refine qz hP hn ?_
 refine s_op k_bxf ?_
 refine s_op k_as ?_
 refine qx hP hn ?_
 refine o4 ?_
 refine o2 ?_
 refine s_nil trivial (n_wp (w_ret ?_))
 exact d_ret hP hn hE [] (by first | exact r_tmp Tryz.results110 | exact r_tmpa Tryz.results110)

theorem with1_n (t : Nat) (p : Pc) (ht : t < 65536) (hp1 : p.1 < 65536) : Con Tryz.prog 131 [.agg (PR p), .s (.int .u16 ((t : Nat) : Int))] [] (.s (.int .i64 ((p.1 : Int) - (t : Int)))) [] := by
 refine con_in 11 Tryz.func131 rfl rfl (m := 0) rfl ?_
 intro E hP hn hE
 refine qz hP hn ?_
 refine s_op k_bxf ?_
 refine s_op k_as ?_
 refine qx hP hn ?_
 refine o3 ?_
 refine o2 ?_
 refine s_op (l_bin rfl rfl (b_sub (wrap_i64 (by omega)))) ?_
 refine s_op k_as ?_
 refine s_nil trivial (n_wp (w_ret ?_))
 exact d_ret hP hn hE [] (by first | exact r_tmp Tryz.results131 | exact r_tmpa Tryz.results131)

theorem idx_y {f m : Nat} {q : Nat → SV} (pr : Nat → Bool) [Clb Tryz.prog f] (hf : ∀ p : Pc, Con Tryz.prog f [.agg (PR p), .s (.fptr m q 0 0)] [] (.s (.bool (pr p.1))) []) (L : List Pc) (hLb : L.length ≤ 1000000) (j : Nat) (hj : j < L.length) (hno : ∀ k, k < j → pr (L.getD k p0).1 = false) (hy : pr (L.getD j p0).1 = true) : Con Tryz.prog 120 [.s (PARS L), .s (.noid (.clo f 1 (capF [(.fptr m q 0 0)])))] [] (.s (.int .i64 ((j : Nat) : Int))) [] := by
 refine con_in 19 Tryz.func120 rfl rfl (m := 0) rfl ?_
 intro E hP hn hE
 refine qz hP hn ?_
 refine s_op k_as ?_
 refine s_nil trivial (n_wp (w_seq (qz hP hn ?_)))
 refine o3 ?_
 refine s_nil trivial (n_wp (w_block ?_))
 refine c_loop (fun m_ T H => ∃ i, i ≤ L.length ∧ m_ = L.length - i ∧ (∀ k, k < i → pr (L.getD k p0).1 = false) ∧ T = [(0, .s (PARS L)), (1, .s (.noid (.clo f 1 (capF [(.fptr m q 0 0)])))), (7, .s (.int .i64 ((L.length : Nat) : Int))), (8, .s (.int .i64 ((i : Nat) : Int)))] ∧ H = []) (L.length) ⟨0, by omega, rfl, fun k hk => absurd hk (Nat.not_lt_zero k), rfl, rfl⟩ (wk hE []) ?_
 rintro n_ T_ H_ ⟨i, hi, rfl, hup, rfl, rfl⟩
 refine qz hP hn ?_
 refine s_op k_lss ?_
 refine s_nil trivial (n_wp (w_seq ?_))
 have hij : i ≤ j := Nat.le_of_not_lt fun h => by rw [hup j h] at hy; cases hy
 have h_t9 : i < L.length := by omega
 refine w_T rfl ?_ (decide_eq_true h_t9)
 refine w_skip (n_wp (w_seq (w_block (qz hP hn ?_))))
 refine o2 ?_
 refine qx hP hn ?_
 refine o4 ?_
 refine s_op k_ldP ?_
 refine s_op (k_callN [(.fptr m q 0 0)] (con := hf (L.getD i p0))) ?_
 refine s_nil trivial (n_wp ?_)
 refine w_cond rfl (fun h_t16 => ?_) (fun h_t16 => ?_)
 · obtain rfl : i = j := Nat.le_antisymm hij (Nat.le_of_not_lt fun h => by rw [hno i h] at h_t16; cases h_t16)
   refine qz hP hn ?_
   refine o2 ?_
   refine s_nil trivial (n_wp (w_ret (r_blo (r_thn (r_thn (r_blo (r_thn ?_)))))))
   exact d_ret hP hn hE [] (by first | exact r_tmp Tryz.results120 | exact r_tmpa Tryz.results120)
 · refine w_skip (n_blo (n_wp (g_reg hP hn ?_)))
   refine o2 ?_
   refine s_nil trivial ?_
   exact n_round (L.length - (i + 1)) (by omega) ⟨i + 1, by omega, rfl, fun k hk => (Nat.lt_succ_iff_lt_or_eq.1 hk).elim (hup k) (fun e => e ▸ h_t16), rfl, rfl⟩ (wk hE [])

theorem idx_n {f m : Nat} {q : Nat → SV} (pr : Nat → Bool) [Clb Tryz.prog f] (hf : ∀ p : Pc, Con Tryz.prog f [.agg (PR p), .s (.fptr m q 0 0)] [] (.s (.bool (pr p.1))) []) (L : List Pc) (hLb : L.length ≤ 1000000) (hno : ∀ k, k < L.length → pr (L.getD k p0).1 = false) : Con Tryz.prog 120 [.s (PARS L), .s (.noid (.clo f 1 (capF [(.fptr m q 0 0)])))] [] (.s (.int .i64 (-1))) [] := by
 refine con_in 19 Tryz.func120 rfl rfl (m := 0) rfl ?_
 intro E hP hn hE
 refine qz hP hn ?_
 refine s_op k_as ?_
 refine s_nil trivial (n_wp (w_seq (qz hP hn ?_)))
 refine o3 ?_
 refine s_nil trivial (n_wp (w_block ?_))
 refine c_loop (fun m_ T H => ∃ i, i ≤ L.length ∧ m_ = L.length - i ∧ (∀ k, k < i → pr (L.getD k p0).1 = false) ∧ T = [(0, .s (PARS L)), (1, .s (.noid (.clo f 1 (capF [(.fptr m q 0 0)])))), (7, .s (.int .i64 ((L.length : Nat) : Int))), (8, .s (.int .i64 ((i : Nat) : Int)))] ∧ H = []) (L.length) ⟨0, by omega, rfl, fun k hk => absurd hk (Nat.not_lt_zero k), rfl, rfl⟩ (wk hE []) ?_
 rintro n_ T_ H_ ⟨i, hi, rfl, hup, rfl, rfl⟩
 refine qz hP hn ?_
 refine s_op k_lss ?_
 refine s_nil trivial (n_wp (w_seq ?_))
 refine w_if rfl (fun h_t9 => ?_) (fun h_t9 => ?_)
 · refine w_skip (n_wp (w_seq (w_block (qz hP hn ?_))))
   refine o2 ?_
   refine qx hP hn ?_
   refine o4 ?_
   refine s_op k_ldP ?_
   refine s_op (k_callN [(.fptr m q 0 0)] (con := hf (L.getD i p0))) ?_
   refine s_nil trivial (n_wp ?_)
   have h_t16 := hno i h_t9
   refine w_F rfl ?_ h_t16
   refine w_skip (n_blo (n_wp (g_reg hP hn ?_)))
   refine o2 ?_
   refine s_nil trivial ?_
   exact n_round (L.length - (i + 1)) (by omega) ⟨i + 1, by omega, rfl, fun k hk => (Nat.lt_succ_iff_lt_or_eq.1 hk).elim (hup k) (fun e => e ▸ h_t16), rfl, rfl⟩ (wk hE [])
 · refine w_exit (x_thn (x_thn (x_eq (n_wp (qz hP hn ?_)))))
   refine s_op k_as ?_
   refine s_nil trivial (n_wp (w_ret ?_))
   exact d_ret hP hn hE [] (by first | exact r_tmp Tryz.results120 | exact r_tmpa Tryz.results120)

theorem cnt_n {f m : Nat} {q : Nat → SV} (pr : Nat → Bool) [Clb Tryz.prog f] (hf : ∀ p : Pc, Con Tryz.prog f [.agg (PR p), .s (.fptr m q 0 0)] [] (.s (.bool (pr p.1))) []) (L : List Pc) (hLb : L.length ≤ 1000000) (hno : ∀ k, k < L.length → pr (L.getD k p0).1 = false) : Con Tryz.prog 109 [.s (PARS L), .s (.noid (.clo f 1 (capF [(.fptr m q 0 0)])))] [] (.s (.bool false)) [] := by
 refine con_in 9 Tryz.func109 rfl rfl (m := 0) rfl ?_
 intro E hP hn hE
 refine qz hP hn ?_
 refine s_op k_as ?_
 refine qx hP hn ?_
 refine o2 ?_
 refine s_op (k_call [] (con := idx_n pr hf L hLb hno)) ?_
 refine s_op (l_bin rfl rfl (b_geq (r := false) (by decide))) ?_
 refine s_op k_as ?_
 refine s_nil trivial (n_wp (w_ret ?_))
 exact d_ret hP hn hE [] (by first | exact r_tmp Tryz.results109 | exact r_tmpa Tryz.results109)

theorem find_y (L : List Pc) (t : Nat) (hLb : L.length ≤ 1000000) (j : Nat) (hj : j < L.length) (hno : ∀ k, k < j → decide ((L.getD k p0).1 = t) = false) (hy : decide ((L.getD j p0).1 = t) = true) (hB : (L.getD j p0).2.length ≤ 1000000) : Con Tryz.prog 96 [.s (PARS L), .s (.int .u16 ((t : Nat) : Int))] [] (.tup [.s (.fzi .u8 (L.getD j p0).2), .s (.bool true)]) [] := by
 refine con_in 18 Tryz.func96 rfl rfl (m := 0) rfl ?_
 intro E hP hn hE
 refine qz hP hn ?_
 refine s_op k_bxs ?_
 refine o2 ?_
 refine qx hP hn ?_
 refine s_op k_mv ?_
 refine s_op (k_fnN [(.fptr 1 (cellsF [.one (.int .u16 ((t : Nat) : Int))]) 0 0)]) ?_
 refine s_op (k_call [] (con := idx_y (fun x => decide (x = t)) (find1_n t) L hLb j hj hno hy)) ?_
 refine s_op k_as ?_
 refine s_nil trivial (n_wp (w_seq (qz hP hn ?_)))
 refine o2 ?_
 refine s_nil trivial (n_wp ?_)
 refine w_F rfl ?_ (decide_eq_false (by omega))
 refine w_skip (n_wp (qz hP hn ?_))
 refine o3 ?_
 refine s_op k_ldP ?_
 refine s_op (k_call [] (con := twin_n (L.getD j p0).1 (L.getD j p0).2 hB)) ?_
 refine s_op (k_fd (ha := (Ag.h (P := Tryz.prog) (t := 53)))) ?_
 refine o2 ?_
 refine s_nil trivial (n_wp (w_ret ?_))
 exact d_ret hP hn hE [] (ret2 Tryz.results96 (by first | exact ri_tmp rfl | exact ri_tmpa rfl) (by first | exact ri_tmp rfl | exact ri_tmpa rfl))

end Go.Proofs.X
end

section
set_option maxRecDepth 100000
set_option maxHeartbeats 4000000
open Go Go.Bx Go.Proofs
namespace Go.Proofs.X
theorem twins_m (L : List Pc) (hLb : L.length ≤ 900000) (hbd : ∀ i, i < L.length → (L.getD i p0).2.length ≤ 1000000)  : Con Tryz.prog 133 [.s (PARS L)] [] (.s (.slice 0 0 0 L.length (L.length + 1))) [some ⟨true, [.rows ((L.length + 1)) 2 (gP (twF L L.length))]⟩] := by
 refine con_in 23 Tryz.func133 rfl rfl (m := 0) rfl ?_
 intro E hP hn hE
 refine qz hP hn ?_
 refine s_op k_as ?_
 refine qx hP hn ?_
 refine o3 ?_
 refine s_op (k_mkW (PR p0) (gP (twF L 0)) (l := 0) (c := L.length + 1) (hq := tw_0 L _)) ?_
 refine s_op k_as ?_
 refine s_nil trivial (n_wp (w_seq (qz hP hn ?_)))
 refine o3 ?_
 refine s_nil trivial (n_wp (w_block ?_))
 refine c_loop (fun m_ T H => ∃ i, i ≤ L.length ∧ m_ = L.length - i ∧ T = [(3, .s (.slice 0 0 0 i (L.length + 1))), (10, .s (PARS L)), (11, .s (.int .i64 ((L.length : Nat) : Int))), (12, .s (.int .i64 ((i : Nat) : Int)))] ∧ H = [some ⟨true, [.rows ((L.length + 1)) 2 (gP (twF L i))]⟩]) (L.length) ⟨0, by omega, rfl, rfl, rfl⟩ (wk hE [0]) ?_
 rintro n_ T_ H_ ⟨i, hi, rfl, rfl, rfl⟩
 refine qz hP hn ?_
 refine s_op k_lss ?_
 refine s_nil trivial (n_wp (w_seq ?_))
 refine w_if rfl (fun h_t13 => ?_) (fun h_t13 => ?_)
 · refine w_skip (n_wp (w_seq (w_block (qz hP hn ?_))))
   refine s_op k_ix ?_
   refine s_op k_ldP ?_
   refine s_op k_al ?_
   refine s_st k_st ?_
   refine qy hP hn ?_
   refine o2 ?_
   refine s_op (k_call [] (con := twin_n (L.getD i p0).1 (L.getD i p0).2 (hbd i h_t13))) ?_
   refine s_op (k_bsR [PR (L.getD i p0)]) ?_
   refine s_op (k_apiW (gP (twF L (i + 1))) (hg := tw_g L i) (hg2 := tw_g2 L i _)) ?_
   refine s_op k_as ?_
   refine s_nil trivial (n_blo (n_wp (g_reg hP hn ?_)))
   refine o2 ?_
   refine s_nil trivial ?_
   exact n_round (L.length - (i + 1)) (by omega) ⟨i + 1, by omega, rfl, rfl, rfl⟩ (wk hE [0])
 · refine w_exit (x_thn (x_thn (x_eq (n_wp (qz hP hn ?_)))))
   refine o2 ?_
   refine s_nil trivial (n_wp (w_ret ?_))
   obtain rfl : i = L.length := Nat.le_antisymm hi (by omega)
   exact d_ret hP hn hE [0] (r_tmp Tryz.results133)

theorem twins_c (L : List Pc) (hLb : L.length ≤ 900000) (hbd : ∀ i, i < L.length → (L.getD i p0).2.length ≤ 1000000) : Con Tryz.prog 133 [.s (PARS L)] [] (.s (.slice 0 0 0 L.length (L.length + 1))) [some ⟨true, [.rows ((L.length + 1)) 2 (gP (kpF L))]⟩] := tw_kp L ▸ twins_m L hLb hbd

theorem clp_n (k c cc : Nat) (g : Nat → Nat → SV) (hk : k ≤ cc) : Con Tryz.prog 58 [.s (.slice 0 0 0 k cc)] [some ⟨true, [.rows c 2 g]⟩] (.s (.slice 0 0 0 k k)) [some ⟨true, [.rows c 2 g]⟩] := by
 refine con_in 9 Tryz.func58 rfl rfl (m := 1) rfl ?_
 intro E hP hn hE
 refine qz hP hn ?_
 refine s_op k_as ?_
 refine qx hP hn ?_
 refine o3 ?_
 refine o2 ?_
 refine s_op k_sl ?_
 refine s_op k_as ?_
 refine s_nil trivial (n_wp (w_ret ?_))
 exact d_ret hP hn hE [0] (by first | exact r_tmp Tryz.results58 | exact r_tmpa Tryz.results58)

theorem del_n {f m : Nat} {q : Nat → SV} (pr : Nat → Bool) [Clb Tryz.prog f] (hf : ∀ p : Pc, Con Tryz.prog f [.agg (PR p), .s (.fptr m q 0 0)] [] (.s (.bool (pr p.1))) []) (L : List Pc) (hLb : L.length ≤ 900000) (hno : ∀ k, k < L.length → pr (L.getD k p0).1 = false) : Con Tryz.prog 147 [.s (.slice 0 0 0 L.length (L.length + 1)), .s (.noid (.clo f 1 (capF [(.fptr m q 0 0)])))] [some ⟨true, [.rows ((L.length + 1)) 2 (gP (kpF L))]⟩] (.s (.slice 0 0 0 L.length (L.length + 1))) [some ⟨true, [.rows ((L.length + 1)) 2 (gP (kpF L))]⟩] := by
 refine con_in 42 Tryz.func147 rfl rfl (m := 1) rfl ?_
 intro E hP hn hE
 refine qz hP hn ?_
 refine s_op k_as ?_
 refine qx hP hn ?_
 refine o2 ?_
 refine s_op (k_tmp 0 (h := k_call [] (con := idx_n pr hf L (by omega) hno) (hargs := by exact .cons rfl (conv_slW (id := 0) (k := ⟨false, [.rows (L.length + 1) 2 (gP (kpF L))]⟩) rfl rfl rfl (by omega) (by omega) (fun _ _ _ _ => rfl)) (.cons rfl cv .nil)))) ?_
 refine s_op k_as ?_
 refine s_nil trivial (n_wp (w_seq (qz hP hn ?_)))
 refine s_op k_mv ?_
 refine s_op (l_bin rfl rfl (b_eql (r := true) (by decide))) ?_
 refine s_nil trivial (n_wp ?_)
 refine w_T rfl ?_ 
 refine qz hP hn ?_
 refine o2 ?_
 refine s_nil trivial (n_wp (w_ret (r_thn ?_)))
 exact d_ret hP hn hE [0] (by first | exact r_tmp Tryz.results147 | exact r_tmpa Tryz.results147)

theorem del_y {f m : Nat} {q : Nat → SV} (pr : Nat → Bool) [Clb Tryz.prog f] (hf : ∀ p : Pc, Con Tryz.prog f [.agg (PR p), .s (.fptr m q 0 0)] [] (.s (.bool (pr p.1))) []) (L : List Pc) (hLb : L.length ≤ 900000) (j : Nat) (hj : j < L.length) (hno : ∀ k, k < j → pr (L.getD k p0).1 = false) (hy : pr (L.getD j p0).1 = true) : Con Tryz.prog 147 [.s (.slice 0 0 0 L.length (L.length + 1)), .s (.noid (.clo f 1 (capF [(.fptr m q 0 0)])))] [some ⟨true, [.rows ((L.length + 1)) 2 (gP (kpF L))]⟩] (.s (.slice 0 0 0 (keepL pr L).length (L.length + 1))) [some ⟨true, [.rows ((L.length + 1)) 2 (gP (kpF (keepL pr L)))]⟩] := by
 refine con_in 42 Tryz.func147 rfl rfl (m := 1) rfl ?_
 intro E hP hn hE
 refine qz hP hn ?_
 refine s_op k_as ?_
 refine qx hP hn ?_
 refine o2 ?_
 refine s_op (k_tmp 0 (h := k_call [] (con := idx_y pr hf L (by omega) j hj hno hy) (hargs := by exact .cons rfl (conv_slW (id := 0) (k := ⟨false, [.rows (L.length + 1) 2 (gP (kpF L))]⟩) rfl rfl rfl (by omega) (by omega) (fun _ _ _ _ => rfl)) (.cons rfl cv .nil)))) ?_
 refine s_op k_as ?_
 refine s_nil trivial (n_wp (w_seq (qz hP hn ?_)))
 refine s_op k_mv ?_
 refine s_op (l_bin rfl rfl (b_eql (r := false) (decide_eq_false (by omega)))) ?_
 refine s_nil trivial (n_wp ?_)
 refine w_F rfl ?_ 
 refine w_skip (n_wp (w_seq (qz hP hn ?_)))
 refine o3 ?_
 refine s_nil trivial (n_wp (w_block ?_))
 refine c_loop (fun m_ T H => ∃ i F, i ≤ L.length ∧ m_ = L.length - i ∧ 0 < i ∧ (keepL pr (L.take i)).length < i ∧ DelI pr L i F ∧ T = [(0, .s (.slice 0 0 0 L.length (L.length + 1))), (1, .s (.noid (.clo f 1 (capF [(.fptr m q 0 0)])))), (5, .s (.int .i64 (((keepL pr (L.take i)).length : Nat) : Int))), (6, .s (.int .i64 ((i : Nat) : Int)))] ∧ H = [some ⟨true, [.rows ((L.length + 1)) 2 (gP (F))]⟩]) (L.length - (j + 1)) ⟨j + 1, kpF L, by omega, rfl, by omega, by rw [(DelI.start hj hno hy).2]; omega, (DelI.start hj hno hy).1, by rw [(DelI.start hj hno hy).2], rfl⟩ (wk hE [0]) ?_
 rintro n_ T_ H_ ⟨i, F, hi, rfl, hi0, hki, hF, rfl, rfl⟩
 refine w_seq (qz hP hn ?_)
 refine o4 ?_
 refine s_nil trivial (n_wp ?_)
 refine w_if rfl (fun h_t19 => ?_) (fun h_t19 => ?_)
 · refine w_skip (n_wp (w_seq (w_block (qz hP hn ?_))))
   refine o3 ?_
   refine s_op (k_ldM i) ?_
   refine s_op k_al ?_
   refine s_st k_st ?_
   refine qx hP hn ?_
   refine o2 ?_
   refine s_op (k_callN [(.fptr m q 0 0)] (con := hf (F i))) ?_
   refine s_op k_not ?_
   refine s_nil trivial (n_wp ?_)
   refine w_cond rfl (fun h_t29 => ?_) (fun h_t29 => ?_)
   · have h_p : pr (L.getD i p0).1 = false := by
      rw [hF.hi i (Nat.le_refl _)] at h_t29
      simpa [kpF] using h_t29
     have hN := hF.yes h_t19 h_p
     refine qz hP hn ?_
     refine o4 ?_
     refine s_st (k_stW (keepL pr (L.take i)).length (gP (setF F (keepL pr (L.take i)).length (F i))) (hg := fun b hb => by rw [gP_at, setF, if_pos rfl]) (hg2 := fun a b h1 h2 h3 => gP_congr (by rw [setF, if_neg h1]) b)) ?_
     refine qy hP hn ?_
     refine o3 ?_
     refine s_nil trivial (n_blo (n_wp (g_reg hP hn ?_)))
     refine o3 ?_
     refine s_nil trivial ?_
     exact n_round (L.length - (i + 1)) (by omega) ⟨i + 1, _, by omega, rfl, by omega, by rw [hN.2]; omega, hN.1, by rw [hN.2], rfl⟩ (wk hE [0])
   · have h_p : pr (L.getD i p0).1 = true := by
      rw [hF.hi i (Nat.le_refl _)] at h_t29
      simpa [kpF] using h_t29
     have hN := hF.no h_t19 h_p
     refine w_skip (n_blo (n_wp (g_reg hP hn ?_)))
     refine o3 ?_
     refine s_nil trivial ?_
     exact n_round (L.length - (i + 1)) (by omega) ⟨i + 1, _, by omega, rfl, by omega, by rw [hN.2]; omega, hN.1, by rw [hN.2], rfl⟩ (wk hE [0])
 · obtain rfl : i = L.length := Nat.le_antisymm hi (by omega)
   have hD := hF.done
   rw [List.take_length] at hki
   have hTl : L.take L.length = L := List.take_length
   rw [hTl]
   refine w_exit (x_thn (x_thn (x_eq (n_wp (qz hP hn ?_)))))
   refine o2 ?_
   refine s_op k_sl ?_
   refine s_st (k_clW (keepL pr L).length (PR p0) (gP (kpF (keepL pr L))) Tryz.zeroValue123 (hone := by simp [Value.cells, Value.oneCell']) (hg := fun a b ha hb => by rw [gP_at, kp_out (by omega)]) (hg2 := fun a b h1 h2 h3 => gP_congr ((Nat.lt_or_ge a (keepL pr L).length).elim (fun h => (hD.1 a h).symm) (fun h => (hD.2 a (by omega)).symm)) b)) ?_
   refine qx hP hn ?_
   refine o2 ?_
   refine s_op k_sl ?_
   refine s_op k_as ?_
   refine s_nil trivial (n_wp (w_ret ?_))
   exact d_ret hP hn hE [0] (by first | exact r_tmp Tryz.results147 | exact r_tmpa Tryz.results147)

theorem del_c {f m : Nat} {q : Nat → SV} (pr : Nat → Bool) [Clb Tryz.prog f] (hf : ∀ p : Pc, Con Tryz.prog f [.agg (PR p), .s (.fptr m q 0 0)] [] (.s (.bool (pr p.1))) []) (L : List Pc) (hLb : L.length ≤ 900000) : Con Tryz.prog 147 [.s (.slice 0 0 0 L.length (L.length + 1)), .s (.noid (.clo f 1 (capF [(.fptr m q 0 0)])))] [some ⟨true, [.rows ((L.length + 1)) 2 (gP (kpF L))]⟩] (.s (.slice 0 0 0 (keepL pr L).length (L.length + 1))) [some ⟨true, [.rows ((L.length + 1)) 2 (gP (kpF (keepL pr L)))]⟩] := by
 rcases first_or pr L with ⟨j, h1, h2, h3, _⟩ | ⟨h1, _⟩
 · exact del_y pr hf L hLb j h1 h2 h3
 · rw [keep_none h1]; exact del_n pr hf L hLb h1

theorem below_m (L : List Pc) (t : Nat) (hLb : L.length ≤ 800000) (hbd : ∀ i, i < L.length → (L.getD i p0).2.length ≤ 1000000)  : Con Tryz.prog 134 [.s (PARS L), .s (.int .u16 ((t : Nat) : Int))] [] (.s (.slice 0 0 0 (keepL (fun x => decide (t ≤ x)) L).length (keepL (fun x => decide (t ≤ x)) L).length)) [some ⟨true, [.rows ((L.length + 1)) 2 (gP (kpF (keepL (fun x => decide (t ≤ x)) L)))]⟩] := by
 refine con_in 10 Tryz.func134 rfl rfl (m := 0) rfl ?_
 intro E hP hn hE
 refine qz hP hn ?_
 refine s_op k_bxs ?_
 refine s_op k_as ?_
 refine qx hP hn ?_
 refine s_op k_mv ?_
 refine s_op (k_call [] (con := twins_c L (by omega) hbd)) ?_
 refine s_op (k_fnN [(.fptr 1 (cellsF [.one (.int .u16 ((t : Nat) : Int))]) 0 0)]) ?_
 refine s_op (k_call [1] (con := del_c (fun x => decide (t ≤ x)) (below1_n t) L (by omega))) ?_
 refine s_op (k_call [1] (con := clp_n _ _ _ _ (Nat.le_succ_of_le (keepL_le _ L)))) ?_
 refine s_op k_as ?_
 refine s_nil trivial (n_wp (w_ret ?_))
 exact d_ret hP hn hE [1] (by first | exact r_tmp Tryz.results134 | exact r_tmpa Tryz.results134)

end Go.Proofs.X
end

section
set_option maxRecDepth 100000
set_option maxHeartbeats 4000000
open Go Go.Bx Go.Proofs
namespace Go.Proofs.X
attribute [local irreducible] be gN
theorem bs_in (L : List Pc) (t : Nat) (hLb : L.length ≤ 800000) (ht : t < 65536) (hty : ∀ k, (L.getD k p0).1 < 65536) (i0 : Nat) (hi0 : i0 ≤ L.length) (hlo : ∀ k, k < i0 → (L.getD k p0).1 < t) (hhi : ∀ k, i0 ≤ k → k < L.length → t ≤ (L.getD k p0).1) (hin : i0 < L.length)  : Con Tryz.prog 130 [.s (PARS L), .s (.int .u16 ((t : Nat) : Int)), .s (.val (.func (.func 131) #[] #[]))] [] (.tup [.s (.int .i64 ((i0 : Nat) : Int)), .s (.bool (decide ((L.getD i0 p0).1 = t)))]) [] := by
 refine con_in 49 Tryz.func130 rfl rfl (m := 0) rfl ?_
 intro E hP hn hE
 refine w_seq ?_
 refine w_weak (weak_conv 2 rfl (conv_vf (q := capF []))) ?_
 refine g_reg hP hn ?_
 refine o2 ?_
 refine qx hP hn ?_
 refine o3 ?_
 refine qx hP hn ?_
 refine o3 ?_
 refine s_nil trivial (n_wp (w_seq (w_block ?_)))
 refine c_loop (fun m_ T H => ∃ a b, a ≤ i0 ∧ i0 ≤ b ∧ b ≤ L.length ∧ m_ = b - a ∧ T = [(0, .s (PARS L)), (1, .s (.int .u16 ((t : Nat) : Int))), (2, .s (.noid (.clo 131 0 (capF [])))), (8, .s (.int .i64 ((L.length : Nat) : Int))), (9, .s (.int .i64 ((a : Nat) : Int))), (10, .s (.int .i64 ((b : Nat) : Int)))] ∧ H = []) (L.length) ⟨0, L.length, by omega, hi0, by omega, rfl, rfl, rfl⟩ (wk hE []) ?_
 rintro n_ T_ H_ ⟨a, b, ha, hb, hbn, rfl, rfl, rfl⟩
 refine w_seq (qz hP hn ?_)
 refine o3 ?_
 refine s_nil trivial (n_wp ?_)
 refine w_if rfl (fun h_t17 => ?_) (fun h_t17 => ?_)
 · refine w_skip (n_wp (w_block (qz hP hn ?_)))
   refine o4 ?_
   refine o3 ?_
   refine qx hP hn ?_
   refine o4 ?_
   refine s_op k_ldP ?_
   refine s_op k_mv ?_
   refine s_op (k_callN [] (con := with1_n t (L.getD ((a + b) / 2 ^ 1) p0) ht (hty ((a + b) / 2 ^ 1)))) ?_
   refine s_op (l_bin rfl rfl (b_lss (r := decide ((L.getD ((a + b) / 2 ^ 1) p0).1 < t)) (decide_eq_decide.2 (by omega)))) ?_
   refine s_nil trivial (n_wp ?_)
   refine w_if rfl (fun h_t31 => ?_) (fun h_t31 => ?_)
   · have hlt : ((a + b) / 2 ^ 1) < i0 := Nat.lt_of_not_le fun h => by have := hhi ((a + b) / 2 ^ 1) h (by omega); omega
     refine g_reg hP hn ?_
     refine o3 ?_
     refine s_nil trivial (n_blo ?_)
     exact n_round (b - (((a + b) / 2 ^ 1) + 1)) (by omega) ⟨((a + b) / 2 ^ 1) + 1, b, by omega, by omega, by omega, rfl, rfl, rfl⟩ (wk hE [])
   · have hge : i0 ≤ ((a + b) / 2 ^ 1) := Nat.le_of_not_lt fun h => h_t31 (hlo ((a + b) / 2 ^ 1) h)
     refine g_reg hP hn ?_
     refine o2 ?_
     refine s_nil trivial (n_blo ?_)
     exact n_round (((a + b) / 2 ^ 1) - a) (by omega) ⟨a, ((a + b) / 2 ^ 1), by omega, by omega, by omega, rfl, rfl, rfl⟩ (wk hE [])
 · obtain rfl : i0 = a := by omega
   refine w_exit (x_thn (x_thn (x_eq (n_wp (qz hP hn ?_)))))
   refine o3 ?_
   refine s_op (l_bin rfl rfl (b_lss (r := true) (decide_eq_true (by omega)))) ?_
   refine s_op k_mv ?_
   refine s_on rfl rfl rfl k_mv ?_
   refine s_on rfl rfl rfl k_mv ?_
   refine s_on rfl rfl rfl k_mv ?_
   refine s_on rfl rfl rfl k_ix ?_
   refine s_on rfl rfl rfl k_ldP ?_
   refine s_on rfl rfl rfl k_mv ?_
   refine s_on rfl rfl rfl (k_callN [] (con := with1_n t (L.getD i0 p0) ht (hty i0))) ?_
   refine s_on rfl rfl rfl (l_bin rfl rfl (b_eql (r := decide ((L.getD i0 p0).1 = t)) (decide_eq_decide.2 (by omega)))) ?_
   refine o3 ?_
   refine s_nil trivial (n_wp (w_ret ?_))
   exact d_ret hP hn hE [] (ret2 Tryz.results130 (by first | exact ri_tmp rfl | exact ri_tmpa rfl) (by first | exact ri_tmp rfl | exact ri_tmpa rfl))

theorem bs_out (L : List Pc) (t : Nat) (hLb : L.length ≤ 800000) (ht : t < 65536) (hty : ∀ k, (L.getD k p0).1 < 65536) (i0 : Nat) (hi0 : i0 ≤ L.length) (hlo : ∀ k, k < i0 → (L.getD k p0).1 < t) (hhi : ∀ k, i0 ≤ k → k < L.length → t ≤ (L.getD k p0).1) (hin : i0 = L.length)  : Con Tryz.prog 130 [.s (PARS L), .s (.int .u16 ((t : Nat) : Int)), .s (.val (.func (.func 131) #[] #[]))] [] (.tup [.s (.int .i64 ((i0 : Nat) : Int)), .s (.bool false)]) [] := by
 refine con_in 49 Tryz.func130 rfl rfl (m := 0) rfl ?_
 intro E hP hn hE
 refine w_seq ?_
 refine w_weak (weak_conv 2 rfl (conv_vf (q := capF []))) ?_
 refine g_reg hP hn ?_
 refine o2 ?_
 refine qx hP hn ?_
 refine o3 ?_
 refine qx hP hn ?_
 refine o3 ?_
 refine s_nil trivial (n_wp (w_seq (w_block ?_)))
 refine c_loop (fun m_ T H => ∃ a b, a ≤ i0 ∧ i0 ≤ b ∧ b ≤ L.length ∧ m_ = b - a ∧ T = [(0, .s (PARS L)), (1, .s (.int .u16 ((t : Nat) : Int))), (2, .s (.noid (.clo 131 0 (capF [])))), (8, .s (.int .i64 ((L.length : Nat) : Int))), (9, .s (.int .i64 ((a : Nat) : Int))), (10, .s (.int .i64 ((b : Nat) : Int)))] ∧ H = []) (L.length) ⟨0, L.length, by omega, hi0, by omega, rfl, rfl, rfl⟩ (wk hE []) ?_
 rintro n_ T_ H_ ⟨a, b, ha, hb, hbn, rfl, rfl, rfl⟩
 refine w_seq (qz hP hn ?_)
 refine o3 ?_
 refine s_nil trivial (n_wp ?_)
 refine w_if rfl (fun h_t17 => ?_) (fun h_t17 => ?_)
 · refine w_skip (n_wp (w_block (qz hP hn ?_)))
   refine o4 ?_
   refine o3 ?_
   refine qx hP hn ?_
   refine o4 ?_
   refine s_op k_ldP ?_
   refine s_op k_mv ?_
   refine s_op (k_callN [] (con := with1_n t (L.getD ((a + b) / 2 ^ 1) p0) ht (hty ((a + b) / 2 ^ 1)))) ?_
   refine s_op (l_bin rfl rfl (b_lss (r := decide ((L.getD ((a + b) / 2 ^ 1) p0).1 < t)) (decide_eq_decide.2 (by omega)))) ?_
   refine s_nil trivial (n_wp ?_)
   refine w_if rfl (fun h_t31 => ?_) (fun h_t31 => ?_)
   · have hlt : ((a + b) / 2 ^ 1) < i0 := Nat.lt_of_not_le fun h => by have := hhi ((a + b) / 2 ^ 1) h (by omega); omega
     refine g_reg hP hn ?_
     refine o3 ?_
     refine s_nil trivial (n_blo ?_)
     exact n_round (b - (((a + b) / 2 ^ 1) + 1)) (by omega) ⟨((a + b) / 2 ^ 1) + 1, b, by omega, by omega, by omega, rfl, rfl, rfl⟩ (wk hE [])
   · have hge : i0 ≤ ((a + b) / 2 ^ 1) := Nat.le_of_not_lt fun h => h_t31 (hlo ((a + b) / 2 ^ 1) h)
     refine g_reg hP hn ?_
     refine o2 ?_
     refine s_nil trivial (n_blo ?_)
     exact n_round (((a + b) / 2 ^ 1) - a) (by omega) ⟨a, ((a + b) / 2 ^ 1), by omega, by omega, by omega, rfl, rfl, rfl⟩ (wk hE [])
 · obtain rfl : i0 = a := by omega
   refine w_exit (x_thn (x_thn (x_eq (n_wp (qz hP hn ?_)))))
   refine o3 ?_
   refine s_op (l_bin rfl rfl (b_lss (r := false) (decide_eq_false (by omega)))) ?_
   refine s_op k_mv ?_
   refine s_off rfl rfl rfl ?_
   refine s_off rfl rfl rfl ?_
   refine s_off rfl rfl rfl ?_
   refine s_off rfl rfl rfl ?_
   refine s_off rfl rfl rfl ?_
   refine s_off rfl rfl rfl ?_
   refine s_off rfl rfl rfl ?_
   refine s_off rfl rfl rfl ?_
   refine o3 ?_
   refine s_nil trivial (n_wp (w_ret ?_))
   exact d_ret hP hn hE [] (ret2 Tryz.results130 (by first | exact ri_tmp rfl | exact ri_tmpa rfl) (by first | exact ri_tmp rfl | exact ri_tmpa rfl))

theorem ins_end (F G : Nat → Pc) (n : Nat) (hn9 : n ≤ 900000)  : Con Tryz.prog 132 [.s (.slice 0 0 0 n (n + 1)), .s (.int .i64 ((n : Nat) : Int)), .s (.slice 1 0 0 1 1)] [some ⟨true, [.rows (n + 1) 2 (gP (F))]⟩, some ⟨true, [.rows (1) 2 (gP (G))]⟩] (.s (.slice 0 0 0 (n + 1) (n + 1))) [some ⟨true, [.rows (n + 1) 2 (gP (insF F n (G 0)))]⟩, some ⟨true, [.rows (1) 2 (gP (G))]⟩] := by
 refine con_in 95 Tryz.func132 rfl rfl (m := 2) rfl ?_
 intro E hP hn hE
 refine qz hP hn ?_
 refine s_op k_as ?_
 refine qx hP hn ?_
 refine o2 ?_
 refine s_op k_sl ?_
 refine qx hP hn ?_
 refine o3 ?_
 refine s_nil trivial (n_wp (w_seq (qz hP hn ?_)))
 refine o2 ?_
 refine s_nil trivial (n_wp ?_)
 refine w_F rfl ?_ 
 refine w_skip (n_wp (qz hP hn ?_))
 refine o3 ?_
 refine s_nil trivial (n_wp (w_seq (qz hP hn ?_)))
 refine o3 ?_
 refine s_nil trivial (n_wp ?_)
 refine w_T rfl ?_ 
 refine qz hP hn ?_
 refine o2 ?_
 refine s_op (k_apiS (gP (insF F n (G 0))) (m := 1) (hg := ins_g F G n) (hg2 := ins_ge F (G 0) n)) ?_
 refine s_op k_as ?_
 refine s_nil trivial (n_wp (w_ret (r_thn ?_)))
 exact d_ret hP hn hE [0, 1] (by first | exact r_tmp Tryz.results132 | exact r_tmpa Tryz.results132)

theorem ins_mid (F G : Nat → Pc) (n i : Nat) (hn9 : n ≤ 900000) (hi : i < n) : Con Tryz.prog 132 [.s (.slice 0 0 0 n (n + 1)), .s (.int .i64 ((i : Nat) : Int)), .s (.slice 1 0 0 1 1)] [some ⟨true, [.rows (n + 1) 2 (gP (F))]⟩, some ⟨true, [.rows (1) 2 (gP (G))]⟩] (.s (.slice 0 0 0 (n + 1) (n + 1))) [some ⟨true, [.rows (n + 1) 2 (gP (insF F i (G 0)))]⟩, some ⟨true, [.rows (1) 2 (gP (G))]⟩] := by
 refine con_in 95 Tryz.func132 rfl rfl (m := 2) rfl ?_
 intro E hP hn hE
 refine qz hP hn ?_
 refine s_op k_as ?_
 refine qx hP hn ?_
 refine o2 ?_
 refine s_op k_sl ?_
 refine qx hP hn ?_
 refine o3 ?_
 refine s_nil trivial (n_wp (w_seq (qz hP hn ?_)))
 refine o2 ?_
 refine s_nil trivial (n_wp ?_)
 refine w_F rfl ?_ 
 refine w_skip (n_wp (qz hP hn ?_))
 refine o3 ?_
 refine s_nil trivial (n_wp (w_seq (qz hP hn ?_)))
 refine o3 ?_
 refine s_nil trivial (n_wp ?_)
 refine w_F rfl ?_ 
 refine w_skip (n_wp (w_seq (qz hP hn ?_)))
 refine o4 ?_
 refine s_op k_cap ?_
 refine s_op k_gtr ?_
 refine s_nil trivial (n_wp ?_)
 refine w_F rfl ?_ 
 refine w_skip (n_wp (qz hP hn ?_))
 refine o4 ?_
 refine s_op k_sl ?_
 refine s_op k_as ?_
 refine s_nil trivial (n_wp (w_seq (qz hP hn ?_)))
 refine o3 ?_
 refine o2 ?_
 refine s_op k_sl ?_
 refine s_op (k_ovl Tryz.func145 (by kernel_rfl) (by kernel_rfl) (by kernel_rfl) (tS := 57) (tR := 4) (by kernel_rfl)) ?_
 refine s_op k_not ?_
 refine s_nil trivial (n_wp ?_)
 refine w_T rfl ?_ 
 refine w_seq ?_
 refine g_any hP hn ?_
 refine o4 ?_
 refine s_op k_sl ?_
 refine o2 ?_
 refine s_op k_sl ?_
 refine s_op (k_cpW (i + 1) i (fun a b => gP F (i + a) b) (gP (shF F i)) (n := n - i) (hgs := fun _ _ _ _ => rfl) (hg := sh_g F i _) (hg2 := sh_ge F i n (by omega))) ?_
 refine s_nil (by kernel_rfl) ?_
 refine n_wp (qz hP hn ?_)
 refine o2 ?_
 refine s_op k_sl ?_
 refine s_op k_mv ?_
 refine s_op (k_cpW i 0 (gP G) (gP (insF F i (G 0))) (n := 1) (hgs := fun _ _ _ _ => by rw [Nat.zero_add]) (hg := ins_g F G i) (hg2 := ins_sh F (G 0) i _)) ?_
 refine qx hP hn ?_
 refine o2 ?_
 refine s_nil trivial (n_wp (w_ret (r_thn ?_)))
 exact d_ret hP hn hE [0, 1] (by first | exact r_tmp Tryz.results132 | exact r_tmpa Tryz.results132)

theorem ins_c (F G : Nat → Pc) (n i : Nat) (hn9 : n ≤ 900000) (hi : i ≤ n) : Con Tryz.prog 132 [.s (.slice 0 0 0 n (n + 1)), .s (.int .i64 ((i : Nat) : Int)), .s (.slice 1 0 0 1 1)] [some ⟨true, [.rows (n + 1) 2 (gP (F))]⟩, some ⟨true, [.rows (1) 2 (gP (G))]⟩] (.s (.slice 0 0 0 (n + 1) (n + 1))) [some ⟨true, [.rows (n + 1) 2 (gP (insF F i (G 0)))]⟩, some ⟨true, [.rows (1) 2 (gP (G))]⟩] := by
 rcases Nat.lt_or_ge i n with h | h
 · exact ins_mid F G n i hn9 h
 · obtain rfl : i = n := Nat.le_antisymm hi h
   exact ins_end F G i hn9

theorem bs_no (L : List Pc) (t : Nat) (hLb : L.length ≤ 800000) (ht : t < 65536) (hty : ∀ k, (L.getD k p0).1 < 65536) (i0 : Nat) (hi0 : i0 ≤ L.length) (hlo : ∀ k, k < i0 → (L.getD k p0).1 < t) (hhi : ∀ k, i0 ≤ k → k < L.length → t ≤ (L.getD k p0).1) (hno : i0 < L.length → ¬ (L.getD i0 p0).1 = t) : Con Tryz.prog 130 [.s (PARS L), .s (.int .u16 ((t : Nat) : Int)), .s (.val (.func (.func 131) #[] #[]))] [] (.tup [.s (.int .i64 ((i0 : Nat) : Int)), .s (.bool false)]) [] := by
 rcases Nat.lt_or_ge i0 L.length with h | h
 · have := bs_in L t hLb ht hty i0 hi0 hlo hhi h
   rwa [decide_eq_false (hno h)] at this
 · exact bs_out L t hLb ht hty i0 hi0 hlo hhi (Nat.le_antisymm hi0 h)

theorem with_y (L : List Pc) (p : Pc) (hLb : L.length ≤ 800000) (hall : ∀ i, i < L.length → lastT L i < (L.getD i p0).1) (h0 : p.1 ≠ 0) (ht : p.1 < 65536) (hty : ∀ k, (L.getD k p0).1 < 65536) (i0 : Nat) (hi0 : i0 ≤ L.length) (hlo : ∀ k, k < i0 → (L.getD k p0).1 < p.1) (hhi : ∀ k, i0 ≤ k → k < L.length → p.1 ≤ (L.getD k p0).1) (hno : i0 < L.length → ¬ (L.getD i0 p0).1 = p.1) (hbd : ∀ i, i < L.length → (L.getD i p0).2.length ≤ 1000000) (hpb : p.2.length ≤ 1000000) (hl : ¬ 16 ≤ L.length) : Con Tryz.prog 111 [.s (PARS L), .agg (PR p)] [] (.tup [.s (.fz (L.length + 1) 2 (gP fun k => (insL L i0 p).getD k p0)), .s (.int .i64 0)]) [] := by
 refine con_in 37 Tryz.func111 rfl rfl (m := 0) rfl ?_
 intro E hP hn hE
 refine qz hP hn ?_
 refine s_op k_bxf ?_
 refine o2 ?_
 refine s_nil trivial (n_wp (w_seq (qz hP hn ?_)))
 refine s_op k_mv ?_
 refine s_op (k_call [] (con := maypar_y L (by omega) hall)) ?_
 refine o2 ?_
 refine s_on rfl rfl rfl k_fa ?_
 refine s_on rfl rfl rfl k_ld ?_
 refine s_on rfl rfl rfl (l_bin rfl rfl (b_eql (r := false) (decide_eq_false (by omega)))) ?_
 refine s_op k_pk ?_
 refine s_nil trivial (n_wp ?_)
 refine w_F rfl ?_ 
 refine w_skip (n_wp (qz hP hn ?_))
 refine o3 ?_
 refine s_op (k_call [] (con := bs_no L p.1 (by omega) ht hty i0 hi0 hlo hhi hno)) ?_
 refine o3 ?_
 refine o2 ?_
 refine s_nil trivial (n_wp (w_seq (w_block (qz hP hn ?_))))
 refine o2 ?_
 refine s_nil trivial (n_wp ?_)
 refine w_F rfl ?_ 
 refine qz hP hn ?_
 refine o4 ?_
 refine s_nil trivial (n_wp ?_)
 refine w_F rfl ?_ 
 refine w_skip (n_blo (n_wp (w_seq ?_)))
 refine g_any hP hn ?_
 refine s_op k_mv ?_
 refine s_op (k_call [] (con := twins_c L (by omega) hbd) (v := .s (.slice 1 0 0 L.length (L.length + 1))) (hv := rfl) (H' := [none, some ⟨true, [.rows ((L.length + 1)) 2 (gP (kpF L))]⟩]) (hH := rfl)) ?_
 refine o2 ?_
 refine s_op (k_call [] (con := twin_n p.1 p.2 hpb)) ?_
 refine s_op (k_bsW (gP fun _ => p)) ?_
 refine s_op (k_call [1, 2] (con := ins_c (kpF L) (fun _ => p) L.length i0 (by omega) hi0)) ?_
 refine s_op (k_call [1] (con := clp_n _ _ _ _ (Nat.le_refl _))) ?_
 refine o2 ?_
 refine s_nil (by kernel_rfl) ?_
 refine n_wp ?_
 refine w_weak (frz_slW 4 (gP fun k => (insL L i0 p).getD k p0) (hg := fun a b _ _ => by show cellsF (PR ((insL L i0 p).getD a p0)) b = cellsF (PR (insF (kpF L) i0 p a)) b; rw [ins_kp hi0])) ?_
 refine w_ret ?_
 exact d_ret hP hn hE [] (ret2 Tryz.results111 (by first | exact ri_tmp rfl | exact ri_tmpa rfl) (by first | exact ri_tmp rfl | exact ri_tmpa rfl))

theorem ex_c (B : List Int) (hU : U8' B) : Con Tryz.prog 135 [.s (.fzi .u8 B), .s (.int .i64 41), .s (.val (.func (.func 136) #[] #[])), .s (.fz 1 1 fun _ _ => .val (.func (.func 137) #[] #[]))] [] (.tup [.agg [.one (.int .u8 (pzb B)), .one (.int .u64 ((pzg B : Nat) : Int)), .ints .u8 32 (pzi B)], .s (.int .i64 (pze B))]) [] := by
 by_cases h1 : B.length = 41
 · by_cases h2 : B.getD 0 0 ≤ 12
   · have e : okPz B = true := by rw [okPz, decide_eq_true h1, decide_eq_true h2]; rfl
     have := ex_y B h1 hU h2
     unfold pzb pzg pzi pze
     rw [e, if_pos rfl, if_pos rfl, if_pos rfl, if_pos rfl]; exact this
   · have e : okPz B = false := by rw [okPz, decide_eq_false h2, Bool.and_false]
     have := ex_work B h1 h2
     unfold pzb pzg pzi pze
     rw [e]; exact this
 · have e : okPz B = false := by rw [okPz, decide_eq_false h1, Bool.false_and]
   have := ex_form B h1
   unfold pzb pzg pzi pze
   rw [e]; exact this

theorem getpz_c (B : List Int) (hU : U8' B) : Con Tryz.prog 113 [.s (.fzi .u8 B)] [] (.tup [.agg [.one (.int .u8 (pzb B)), .one (.int .u64 ((pzg B : Nat) : Int)), .ints .u8 32 (pzi B)], .s (.int .i64 (pze B))]) [] := by
 refine con_in 9 Tryz.func113 rfl rfl (m := 0) rfl ?_
 intro E hP hn hE
 refine qz hP hn ?_
 refine o2 ?_
 refine qx hP hn ?_
 refine s_op k_mv ?_
 refine s_op (k_bsR [[.one (.val (.func (.func 137) #[] #[]))]]) ?_
 refine s_op (k_call [] (con := ex_c B hU) (hargs := by exact .cons rfl cv (.cons rfl cv (.cons rfl cv (.cons rfl (conv_fz (fun i j hi hj => by obtain rfl : i = 0 := Nat.lt_one_iff.1 hi; obtain rfl : j = 0 := Nat.lt_one_iff.1 hj; rfl)) .nil))))) ?_
 refine o2 ?_
 refine s_st k_st ?_
 refine s_op k_as ?_
 refine s_nil trivial (n_wp (w_ret ?_))
 exact d_ret hP hn hE [] (ret2 Tryz.results113 r_cella (by first | exact ri_tmp rfl | exact ri_tmpa rfl))

end Go.Proofs.X
end

section
/- Noughts behind what has grown. No program. -/
namespace Go.Bx
section
variable {P : Program} {T : Tm} {H : Heap} {d : Option Tmp} {ty : TypeId} {pos : String} {af : Array Edge} {g : Option (Nat × Bool)}
theorem l_apgz {x y : Operand} {t tn e rt : TypeId} {id len m n0 q0 : Nat} {kk kq kn : IntKind} {l : List Int} {inf : TypeInfo} {H' : Heap} (hx : ev T x = .s (.gro id 1 len)) (hy : ev T y = .s (.int kq (m : Int))) (hb : hget H id = some ⟨true, [.ints kk q0 l]⟩) (hll : l.length = q0) (hlq : len ≤ q0)
    (hu : P.underlying t = some (.slice e)) (htn : P.underlying tn = some (.int kn)) (hi : P.info? e = some inf) (hsz : inf.size = 1) (hz : inf.zero = some (.int kk 0)) (h0 : 0 < m) (hl0' : 0 < len) (hbig : (len + m) * inf.bytes ≤ 140737488355328) (hb1 : 0 < inf.bytes)
    (hn : H.length = n0) (hH : H.set id none ++ [some (Blk.mk true [.ints kk (len + m) (l.take len ++ List.replicate m 0)])] = H') :
    LOk P ⟨d, .call ⟨.builtin .append, #[x, y], #[t, tn]⟩, rt, pos, af, g⟩ T H H' (.s (.gro n0 1 (len + m))) [id] [id] := by
  subst hn; subst hH
  have hzc0 : Builtin.zeroCells (Value.int kk 0).cells m = (List.replicate m (Value.int kk 0)).toArray := by
    apply Array.ext'
    simp only [Builtin.zeroCells, Value.cells, Array.toList_map, Array.toList_range, List.size_toArray, List.length_cons, List.length_nil, Nat.zero_add, Nat.mul_one]
    apply List.ext_getElem
    · simp
    · intro i h1 h2
      simp [Nat.mod_one]
  have hj : Joins [.ints kk q0 l] (len * 1) [.ints kk m (List.replicate m 0)] (m * 1) [.ints kk (len + m) (l.take len ++ List.replicate m 0)] := by
    rw [Nat.mul_one, Nat.mul_one]
    exact .intsT hll hlq
  have h63 : ((len + m : Nat) : Int) ≤ 9223372036854775807 := by
    have : len + m ≤ (len + m) * inf.bytes := Nat.le_mul_of_pos_right _ hb1
    omega
  have h48 : m * inf.bytes ≤ 281474976710656 := by
    have : m * inf.bytes ≤ (len + m) * inf.bytes := Nat.mul_le_mul_right _ (by omega)
    omega
  have hwm : IntKind.i64.wrap (m : Int) = m := by rw [IntKind.wrap_i64]; omega
  have hnegm : ¬ ((m : Int) < 0) := by omega
  have h48i : ¬ (281474976710656 < (m : Int) * (inf.bytes : Int)) := by
    rw [← Int.natCast_mul]
    omega
  have hm0 : m ≠ 0 := by omega
  have hlt := hget_lt hb
  refine ⟨by simp, fun j hj1 hj2 => ?_, fun j hj1 => by simp at hj1; subst hj1; simp, fun j hj1 => (by simp at hj1; subst hj1; exact hlt), ?_⟩
  · rw [hget_app, if_pos (by simpa using hj1), hget_set hlt, if_neg (by simpa using hj2)]
  have hmk : msk [id] H.length (H.set id none ++ [some (Blk.mk true [.ints kk (len + m) (l.take len ++ List.replicate m 0)])]) = (msk [id] H.length H).set id none ++ [some (Blk.mk true [.ints kk (len + m) (l.take len ++ List.replicate m 0)])] := by
    have := msk_app [id] (H.set id none) [some (Blk.mk true [.ints kk (len + m) (l.take len ++ List.replicate m 0)])]
    rw [List.length_set] at this
    rw [this, msk_set _ _ _ (by simp)]
  rw [hmk]
  have hgm : ∀ j ∈ [id], hget (msk [id] H.length H) j = hget H j := fun j hj => by rw [hget_msk, if_pos (.inl hj)]
  generalize hH0 : msk [id] H.length H = H0 at *
  have hl0 : H0.length = H.length := by rw [← hH0, msk_len]
  intro W ρ a w hH hnone hW ho next Q hq
  have k1 : (ev T x).rep ρ (a.eval x) := ho x (by simp [Op.operands, Call.operands])
  have k2 : (ev T y).rep ρ (a.eval y) := ho y (by simp [Op.operands, Call.operands])
  rw [hx] at k1
  rw [hy] at k2
  have hev2 : a.eval y = .int kq (m : Int) := k2
  obtain ⟨news, hnews⟩ : ∃ news, news = List.replicate m (Value.int kk 0) := ⟨_, rfl⟩
  rw [← hnews] at hzc0
  have hnl : news.length = m * 1 := by rw [hnews]; simp
  have hone : ∀ v ∈ news, v.oneCell' = true := fun v hv => by rw [hnews] at hv; rw [List.eq_of_mem_replicate hv]; rfl
  have hnr : RowRep ρ [.ints kk m (List.replicate m 0)] (fun i => news[i]?) := fun i z hz => by
    obtain ⟨hi2, rfl⟩ := atS_ints1 hz
    refine ⟨.int kk 0, by rw [hnews]; simp [hi2], ?_, rfl⟩
    show _ = _
    rw [List.getD_eq_getElem?_getD, List.getElem?_replicate, if_pos hi2]; rfl
  have hb0 : hget H0 id = some ⟨true, [.ints kk q0 l]⟩ := (hgm id (by simp)).trans hb
  have hnew : ρ.m H0.length = none := hnone _ (Nat.le_refl _) (by simp)
  have hget2 : ∀ (j : Nat) (k : Blk), hget (H0.set id none ++ [some (Blk.mk true [.ints kk (len + m) (l.take len ++ List.replicate m 0)])]) j = some k → (j = H0.length ∧ k = ⟨true, [.ints kk (len + m) (l.take len ++ List.replicate m 0)]⟩) ∨ (j ≠ id ∧ j ≠ H0.length ∧ hget H0 j = some k) := by
    intro j k hk
    rw [hget_app] at hk
    simp only [List.length_set] at hk
    split at hk
    · rename_i hj
      rw [hget_set (by omega)] at hk
      by_cases hji : j = id
      · rw [if_pos hji] at hk; cases hk
      · rw [if_neg hji] at hk; exact .inr ⟨hji, by omega, hk⟩
    · have := hget_lt hk
      simp at this
      have : j = H0.length := by omega
      subst this
      rw [Nat.sub_self] at hk
      exact .inl ⟨rfl, (Option.some.inj hk).symm⟩
  -- a new row
  have grows : ∀ (base : Option Addr) (sLen sCap : Nat) (olds : List Value), a.eval x = .slice base sLen sCap → sLen = len → sCap < sLen + m → (Builtin.firstCells 1 sLen (.slice base sLen sCap)).run P w.drew = .ok olds.toArray w.drew → olds.length = len * 1 → RowRep ρ [.ints kk q0 l] (fun i => if i < len * 1 then olds[i]? else none) ∨ (∀ i x, i < len * 1 → atS [.ints kk q0 l] i = some x → ∃ v, olds[i]? = some v ∧ x.cell ρ v) →
      Oper.upon P ⟨d, .call ⟨.builtin .append, #[x, y], #[t, tn]⟩, rt, pos, af, g⟩ a next Q ((execOp a.eval ⟨d, .call ⟨.builtin .append, #[x, y], #[t, tn]⟩, rt, pos, af, g⟩).run P w) := by
    intro base sLen sCap olds hev hsl hg hold holl hor
    have hsl2 := hsl.symm
    subst hsl2
    have hor' : ∀ i x, i < len * 1 → atS [.ints kk q0 l] i = some x → ∃ v, olds[i]? = some v ∧ x.cell ρ v := by
      rcases hor with h | h
      · intro i x hi hx
        obtain ⟨v, hv, hc⟩ := h i x hx
        have hv : (if i < len * 1 then olds[i]? else none) = some v := hv
        rw [if_pos hi] at hv
        exact ⟨v, hv, hc⟩
      · exact h
    have hr := Go.Lib.run_append_grow_zeros (P := P) w t tn rt e inf (.int kk 0) kq kn hu htn hi hz base len sCap olds (by rw [hsz]; exact hold) m h0 (by omega) hg h63 h48 (growslice_fits hg hbig)
    rw [hzc0] at hr
    generalize hcap : grownCap w (len + m) sCap e = cap at hr
    have hcap' : len + m ≤ cap := hcap ▸ grownCap_ge w _ _ _
    obtain ⟨cells, hcells0⟩ : ∃ cells, olds.toArray ++ news.toArray ++ Builtin.zeroCells (Value.int kk 0).cells (cap - (len + m)) = cells := ⟨_, rfl⟩
    rw [hcells0] at hr
    have hcells : (olds ++ news).toArray ++ Builtin.zeroCells (Value.int kk 0).cells (cap - (len + m)) = cells := by rw [← hcells0]; simp
    have hrun : (execOp a.eval ⟨d, .call ⟨.builtin .append, #[x, y], #[t, tn]⟩, rt, pos, af, g⟩).run P w = .ok (.value (.slice (some ⟨w.heap.size, 0, none⟩) (len + m) cap)) (w.drew.alloc (.cells cells e)) := by
      simp only [execOp, resolve, invoke, builtin, List.map_toArray, List.map_cons, List.map_nil, hev, hev2]
      simp [Sem.run_bind, hr]
    rw [hrun]
    -- what the row holds
    have hrow : ∀ ρ', Rle ρ ρ' → RowRep ρ' [.ints kk (len + m) (l.take len ++ List.replicate m 0)] (fun i => cells[i]?) := by
      intro ρ' hle i q hqi
      have hil := atS_lt hqi
      rw [hj.1] at hil
      have hcell : ∀ v, (olds ++ news)[i]? = some v → cells[i]? = some v := fun v hv => by
        have hi' := (List.getElem?_eq_some_iff.1 hv).1
        rw [← hcells, Array.getElem?_append_left (by simpa using hi')]
        simpa using hv
      obtain ⟨c1, c2⟩ := hj.2 i q hqi
      rcases Nat.lt_or_ge i (len * 1) with h | h
      · obtain ⟨x0, hx0, he⟩ := c1 h
        obtain ⟨v, hv, hc⟩ := hor' i x0 h hx0
        refine ⟨v, hcell v (by rw [List.getElem?_append_left (by omega)]; exact hv), joined he ⟨SV.rep_le hle hc.1, hc.2⟩⟩
      · obtain ⟨x0, hx0, he⟩ := c2 h
        obtain ⟨v, hv, hc⟩ := hnr _ x0 hx0
        refine ⟨v, hcell v (by rw [List.getElem?_append_right (by omega), holl]; exact hv), joined he ⟨SV.rep_le hle hc.1, hc.2⟩⟩
    have hHd : HRep W ρ (hget (H0.set id none)) w.drew := (hH.sub fun j k hk => by
      rw [hget_set (by omega)] at hk
      split at hk
      · cases hk
      · exact hk).ext (.drew w)
    obtain ⟨ρ', k3, k4, k5⟩ := nx_alloc (t := e) (w := w.drew) (H0 := H0.set id none) hHd (by simpa using hnew) (fun b hb => hW b hb) hrow
    refine hq _ _ ⟨ρ', W, ?_, .inr ⟨w.heap.size, 0, cap, cells.size, ?_, rfl, hcap', k5, ?_⟩⟩
    · simp only [List.length_set] at k3
      exact ⟨k3.le, k3.old, k3.rep, ((Ext.drew w).fr W).trans k3.fr, k3.sub, k3.fresh, k3.fzn⟩
    · rw [← hl0]; simpa using k4
    · rw [← hcells]
      simp only [Array.size_append, List.size_toArray, List.length_append, holl, hnl, Builtin.zeroCells, Array.size_map, Array.size_range, Nat.zero_add]
      simp only [Value.cells, List.size_toArray, List.length_cons, List.length_nil]
      omega
  rcases k1 with ⟨hl, hev⟩ | ⟨b, o, cap, q, hρ, hev, hlc, hszb, hroom⟩
  · omega
  · obtain ⟨⟨cells, tt, fr, g1, g2, _, g4⟩, hWb⟩ := hH.rep id b o _ hρ hb0
    have hfr := g2 rfl
    subst hfr
    have hWb := hWb rfl
    have hcs : cells.size = q := by
      obtain ⟨cs, t', fr', h2, h3⟩ := hH.sz b q hszb
      rw [g1] at h2
      cases h2; exact h3
    rcases Nat.lt_or_ge cap (len + m) with hg | hg
    · -- no room
      have hfit : o + len * 1 ≤ cells.size := by
        have := Nat.mul_le_mul_right 1 hlc
        omega
      have hget3 : ∀ i, ((cells.toList.drop o).take (len * 1))[i]? = if i < len * 1 then cells[o + i]? else none := fun i => by
        rw [List.getElem?_take]
        by_cases h : i < len * 1
        · rw [if_pos h, if_pos h, List.getElem?_drop]; simp
        · rw [if_neg h, if_neg h]
      refine grows (some ⟨b, o, none⟩) len cap ((cells.toList.drop o).take (len * 1)) hev rfl hg ?_ (by simp; omega) (.inr fun i x0 hi2 hx0 => ?_)
      · refine run_firstCells_some w.drew 1 len ⟨b, o, none⟩ len cap _ (by simp; omega) fun i v hv => ?_
        rw [hget3] at hv
        split at hv
        · rw [addr_add]
          have g1' : w.drew.heap[b]? = some (.cells cells tt (0, 0)) := g1
          simp [World.cell?, g1']
          exact hv
        · cases hv
      · obtain ⟨v, hv, hc⟩ := g4 i x0 hx0
        exact ⟨v, by rw [hget3, if_pos hi2]; exact hv, hc⟩
    · -- there is room
      have hst := run_storeCells_at P b (o + len * 1) tt news 0 cells w g1 (by
        have := Nat.mul_le_mul_right 1 hg
        rw [Nat.add_mul] at this
        simp; omega) hone
      rw [Nat.add_zero] at hst
      have hrun : (execOp a.eval ⟨d, .call ⟨.builtin .append, #[x, y], #[t, tn]⟩, rt, pos, af, g⟩).run P w = .ok (.value (.slice (some ⟨b, o, none⟩) (len + m) cap)) (w.setRow b (cells.toList.take (o + len * 1) ++ news ++ cells.toList.drop (o + len * 1 + news.length)).toArray) := by
        simp only [execOp, resolve, invoke, builtin, List.map_toArray, List.map_cons, List.map_nil, hev, hev2]
        simp [Builtin.append_, Sem.run_bind, run_underlying hu, run_underlying htn, sizeOf, typeInfo, zeroValue, hi, hz, hsz, asInt, asIntOf, hwm, hnegm, h48i, hm0, hzc0, hg, addr_add]
        rw [Nat.mul_one] at hst
        rw [hst]; simp
      rw [hrun]
      have hbl := hH.lt _ _ _ hρ
      have hsize : ((cells.toList.take (o + len * 1) ++ news ++ cells.toList.drop (o + len * 1 + news.length)).toArray).size = cells.size := by
        have := Nat.mul_le_mul_right 1 hg
        rw [Nat.add_mul] at this
        simp; omega
      have hnewrow := setRow_heap w b cells (cells.toList.take (o + len * 1) ++ news ++ cells.toList.drop (o + len * 1 + news.length)).toArray tt (0, 0) g1
      generalize hrw : (cells.toList.take (o + len * 1) ++ news ++ cells.toList.drop (o + len * 1 + news.length)).toArray = row at *
      let ρ' : Rho := ⟨fun i => if i = H0.length then some (b, o) else ρ.m i, ρ.fz, ρ.sz⟩
      have hρ' : ∀ i x, ρ'.m i = some x → (i = H0.length ∧ x = (b, o)) ∨ (i ≠ H0.length ∧ ρ.m i = some x) := by
        intro i x hx
        have hx : (if i = H0.length then some (b, o) else ρ.m i) = some x := hx
        by_cases hi2 : i = H0.length
        · rw [if_pos hi2] at hx; exact .inl ⟨hi2, (Option.some.inj hx).symm⟩
        · rw [if_neg hi2] at hx; exact .inr ⟨hi2, hx⟩
      have hle : Rle ρ ρ' := by
        refine ⟨fun i x hx => ?_, fun _ _ h => h, fun _ _ h => h⟩
        show (if i = H0.length then some (b, o) else ρ.m i) = some x
        by_cases hi2 : i = H0.length
        · subst hi2; rw [hnew] at hx; cases hx
        · rw [if_neg hi2]; exact hx
      have hother : ∀ j b' o' k, j ≠ id → ρ.m j = some (b', o') → hget H0 j = some k → b' ≠ b := by
        intro j b' o' k hj e1 e2 e
        subst e
        have := (hH.apart j id b' o' o k _ hj e1 hρ e2 hb0).2
        cases this
      have hrowcell : ∀ i, (i < len * 1 → row[o + i]? = cells[o + i]?) ∧ (len * 1 ≤ i → i < len * 1 + news.length → row[o + i]? = news[i - len * 1]?) := by
        have hle2 : o + len * 1 ≤ cells.size := by
          have := Nat.mul_le_mul_right 1 hlc
          omega
        intro i
        refine ⟨fun h => ?_, fun h h' => ?_⟩
        · rw [← hrw, List.getElem?_toArray, List.getElem?_append_left (by simp; omega), List.getElem?_append_left (by simp; omega), List.getElem?_take, if_pos (by omega)]
          simp
        · rw [← hrw, List.getElem?_toArray, List.getElem?_append_left (by simp; omega), List.getElem?_append_right (by simp; omega)]
          congr 1
          simp; omega
      refine hq _ _ ⟨ρ', W, ⟨hle, fun i x e => ?_, ⟨fun j b' o' e => ?_, fun j b' o' k e1 e2 => ?_, fun j j' b' o1 o2 k k' hne e1 e2 e3 e4 => ?_, fun b' cs e => ?_, fun b' n' e => ?_⟩, Fr.setRow _ hWb g1 hsize, fun _ h => h, fun b' hb' => hW b' (by simpa using hb'), fun _ _ h => .inl h⟩, .inr ⟨b, o, cap, q, ?_, rfl, hg, hszb, hroom⟩⟩
      · rcases hρ' i x e with ⟨rfl, rfl⟩ | ⟨_, h⟩
        · exact .inr ⟨Nat.le_refl _, by simp, hWb⟩
        · exact .inl h
      · rcases hρ' j _ e with ⟨rfl, h⟩ | ⟨_, h⟩
        · cases h; simpa using hbl
        · have := hH.lt _ _ _ h; simpa using this
      · rcases hget2 j k e2 with ⟨rfl, rfl⟩ | ⟨h1', h2', h3'⟩
        · rcases hρ' _ _ e1 with ⟨_, h⟩ | ⟨h, _⟩
          · cases h
            refine ⟨⟨row, tt, (0, 0), hnewrow, fun _ => rfl, fun h => (by cases h), fun i p hp => ?_⟩, fun _ => hWb⟩
            have hil := atS_lt hp
            rw [hj.1] at hil
            obtain ⟨c1, c2⟩ := hj.2 i p hp
            rcases Nat.lt_or_ge i (len * 1) with h | h
            · obtain ⟨x0, hx0, he⟩ := c1 h
              obtain ⟨v, hv, hc⟩ := g4 i x0 hx0
              exact ⟨v, by show row[o + i]? = some v; rw [(hrowcell i).1 h]; exact hv, joined he ⟨SV.rep_le hle hc.1, hc.2⟩⟩
            · obtain ⟨x0, hx0, he⟩ := c2 h
              obtain ⟨v, hv, hc⟩ := hnr _ x0 hx0
              exact ⟨v, by show row[o + i]? = some v; rw [(hrowcell i).2 h (by rw [hnl]; exact hil)]; exact hv, joined he ⟨SV.rep_le hle hc.1, hc.2⟩⟩
          · exact absurd rfl h
        · rcases hρ' _ _ e1 with ⟨h, _⟩ | ⟨_, h⟩
          · exact absurd h h2'
          · have := hH.rep j b' o' k h h3'
            refine ⟨(this.1.world (setRow_other _ _ _ _ ?_)).le hle, this.2⟩
            exact fun e => (hother j b' o' k h1' h h3') e
      · rcases hget2 j k e3 with ⟨rfl, rfl⟩ | ⟨h1', h2', h3'⟩ <;> rcases hget2 j' k' e4 with ⟨rfl, rfl⟩ | ⟨h1'', h2'', h3''⟩
        · exact absurd rfl hne
        · rcases hρ' _ _ e1 with ⟨_, h⟩ | ⟨h, _⟩
          · cases h
            rcases hρ' _ _ e2 with ⟨h, _⟩ | ⟨_, h⟩
            · exact absurd h h2''
            · exact absurd rfl (hother j' b o2 k' h1'' h h3'')
          · exact absurd rfl h
        · rcases hρ' _ _ e2 with ⟨_, h⟩ | ⟨h, _⟩
          · cases h
            rcases hρ' _ _ e1 with ⟨h, _⟩ | ⟨_, h⟩
            · exact absurd h h2'
            · exact absurd rfl (hother j b o1 k h1' h h3')
          · exact absurd rfl h
        · rcases hρ' _ _ e1 with ⟨h, _⟩ | ⟨_, h⟩
          · exact absurd h h2'
          rcases hρ' _ _ e2 with ⟨h', _⟩ | ⟨_, h'⟩
          · exact absurd h' h2''
          exact hH.apart j j' b' o1 o2 k k' hne h h' h3' h3''
      · obtain ⟨q1, t', fr', q2⟩ := hH.fz b' cs e
        have hne : b' ≠ b := by intro e'; rw [e'] at q1; exact q1 hWb
        exact ⟨q1, t', fr', by rw [setRow_other _ _ _ _ hne]; exact q2⟩
      · exact sz_fr hH (Fr.setRow (W := W) row hWb g1 hsize) b' n' e
      · show (if H.length = H0.length then some (b, o) else ρ.m H.length) = some (b, o)
        rw [if_pos hl0.symm]
theorem l_apg0 {x y : Operand} {t tn e rt : TypeId} {id len m : Nat} {kq kn : IntKind} {inf : TypeInfo} (hx : ev T x = .s (.gro id 1 len)) (hy : ev T y = .s (.int kq (m : Int))) (hm : m = 0) (hu : P.underlying t = some (.slice e)) (htn : P.underlying tn = some (.int kn)) (hi : P.info? e = some inf) :
    LOk P ⟨d, .call ⟨.builtin .append, #[x, y], #[t, tn]⟩, rt, pos, af, g⟩ T H H (.s (.gro id 1 len)) [] [] :=
  lok_pure fun ρ a w ho => by
    have k1 : (ev T x).rep ρ (a.eval x) := ho x (by simp [Op.operands, Call.operands])
    have k2 : (ev T y).rep ρ (a.eval y) := ho y (by simp [Op.operands, Call.operands])
    rw [hx] at k1
    rw [hy] at k2
    subst hm
    have hev2 : a.eval y = .int kq 0 := k2
    have hw0 : IntKind.i64.wrap 0 = 0 := by decide
    rcases k1 with ⟨hl, hev⟩ | ⟨b, o, cap, q, hρ, hev, hlc, hszb, hroom⟩
    · refine ⟨.slice none 0 0, ?_, .inl ⟨hl, rfl⟩⟩
      simp only [execOp, resolve, invoke, builtin, List.map_toArray, List.map_cons, List.map_nil, hev, hev2]
      simp [Builtin.append_, Sem.run_bind, run_underlying hu, run_underlying htn, sizeOf, typeInfo, hi, asInt, asIntOf, hw0]
    · refine ⟨.slice (some ⟨b, o, none⟩) len cap, ?_, .inr ⟨b, o, cap, q, hρ, rfl, hlc, hszb, hroom⟩⟩
      simp only [execOp, resolve, invoke, builtin, List.map_toArray, List.map_cons, List.map_nil, hev, hev2]
      simp [Builtin.append_, Sem.run_bind, run_underlying hu, run_underlying htn, sizeOf, typeInfo, hi, asInt, asIntOf, hw0, hlc, storeCells]
theorem k_apg0 {x y : Operand} {t tn e rt : TypeId} {id len m : Nat} {kq kn : IntKind} {inf : TypeInfo} [hu : Und P t (.slice e)] [htn : Und P tn (.int kn)] [hi : Inf P e inf] (hx : ev T x = .s (.gro id 1 len) := by rfl) (hy : ev T y = .s (.int kq (m : Int)) := by rfl) (hm : m = 0 := by omega) : LOk P ⟨d, .call ⟨.builtin .append, #[x, y], #[t, tn]⟩, rt, pos, af, g⟩ T H H (.s (.gro id 1 len)) [] [] := l_apg0 hx hy hm hu.h htn.h hi.h
theorem k_ap0 {x y : Operand} {t tx e rt : TypeId} {id base idx len cap : Nat} {k : IntKind} {l : List Int} {inf : TypeInfo} [hu : Und P t (.slice e)] [hux : Und P tx (.slice e)] [hi : Inf P e inf] (hx : ev T x = .s (.slice id base idx len cap) := by rfl) (hy : ev T y = .s (.fzi k l) := by rfl) (hl : l = []) (hlc : len ≤ cap := by omega) :
    LOk P ⟨d, .call ⟨.builtin .append, #[x, y], #[t, tx]⟩, rt, pos, af, g⟩ T H H (.s (.slice id base idx len cap)) [] [] :=
  lok_pure fun ρ a w ho => by
    have k1 : (ev T x).rep ρ (a.eval x) := ho x (by simp [Op.operands, Call.operands])
    have k2 : (ev T y).rep ρ (a.eval y) := ho y (by simp [Op.operands, Call.operands])
    rw [hx] at k1
    rw [hy, hl] at k2
    obtain ⟨b, o, hρ, hev⟩ := k1
    have hev2 : ∃ ad c, a.eval y = .slice ad 0 c := by
      rcases k2 with ⟨_, ad, c, h⟩ | ⟨b, o, c, cs, h, _⟩
      · exact ⟨ad, c, h⟩
      · exact ⟨_, _, h⟩
    obtain ⟨ad, c, hev2⟩ := hev2
    refine ⟨.slice (some ⟨b, o + base + idx, none⟩) len cap, ?_, b, o, hρ, rfl⟩
    simp only [execOp, resolve, invoke, builtin, List.map_toArray, List.map_cons, List.map_nil, hev, hev2]
    cases ad <;> simp [Builtin.append_, Builtin.lenOf, Builtin.firstCells, Sem.run_bind, run_underlying hu.h, run_underlying hux.h, sizeOf, typeInfo, hi.h, hlc, storeCells, loadCells, loadCellsFrom]
theorem k_apgz {x y : Operand} {t tn e rt : TypeId} {id len m c n0 q0 : Nat} {k kq kn : IntKind} {l l' : List Int} {inf : TypeInfo} {H' : Heap} [hu : Und P t (.slice e)] [htn : Und P tn (.int kn)] [hi : Inf P e inf] [hN : LenN H n0] (hx : ev T x = .s (.gro id 1 len) := by rfl) (hy : ev T y = .s (.int kq (m : Int)) := by rfl) (hb : hget H id = some ⟨true, [.ints k q0 l]⟩ := by rfl) (hll : l.length = q0 := by first | assumption | omega | simp [*]) (hlq : len ≤ q0 := by omega) (hsz : inf.size = 1 := by exact rfl) (hz : inf.zero = some (.int k 0) := by exact rfl) (h0 : 0 < m := by omega) (hl0 : 0 < len := by omega) (hc : len + m = c := by rfl) (hl' : l.take len ++ List.replicate m 0 = l' := by rfl) (hbig : len + m ≤ 1000000 := by omega) (hbb : Nat.ble (1000000 * inf.bytes) 140737488355328 = true := by exact rfl) (hb1 : 0 < inf.bytes := by exact Nat.le_of_ble_eq_true rfl) (hH : H.set id none ++ [some (Blk.mk true [.ints k c l'])] = H' := by exact rfl) :
    LOk P ⟨d, .call ⟨.builtin .append, #[x, y], #[t, tn]⟩, rt, pos, af, g⟩ T H H' (.s (.gro n0 1 c)) [id] [id] := by
  subst hc; subst hl'
  exact l_apgz hx hy hb hll hlq hu.h htn.h hi.h hsz hz h0 hl0 (big_ok hbig hbb) hb1 hN.h hH
end
end Go.Bx
end

section
/- Noughts made, as values; noughts behind nothing. No program. -/
namespace Go.Bx
section
variable {P : Program} {T : Tm} {H : Heap} {d : Option Tmp} {ty : TypeId} {pos : String} {af : Array Edge} {g : Option (Nat × Bool)}
theorem k_mkF {t e : TypeId} {x y : Operand} {c : Nat} {k k1 k2 : IntKind} {m1 m2 : Int} {inf : TypeInfo} {H' : Heap} [hu : Und P t (.slice e)] [hi : Inf P e inf] [hm1 : IsN m1 c] [hm2 : IsN m2 c] (hx : ev T x = .s (.int k1 m1) := by rfl) (hy : ev T y = .s (.int k2 m2) := by rfl) (hs : inf.size = 1 := by exact rfl) (hz : inf.zero = some (.int k 0) := by exact rfl) (hc2 : c ≤ 1000000 := by omega) (hbb : Nat.ble (inf.bytes * 1000000) 281474976710656 = true := by exact rfl) (hH : H ++ [none] = H' := by repeat (first | exact happ_0 | apply happ_s)) :
    LOk P ⟨d, .makeSlice t x y, ty, pos, af, g⟩ T H H' (.s (.fzi k (List.replicate c 0))) [] [] :=
  lok_val' (a_make hx hy hs hz (Nat.le_refl _) (Nat.le_trans (Nat.mul_le_mul_left _ hc2) (Nat.le_of_ble_eq_true hbb)) (by omega) rfl rfl) (conv_sl (k := ⟨false, [.ints k c (List.replicate c 0)]⟩) (n := c) (hget_last _ _) rfl rfl (by omega) (Nat.le_refl _) (by simp) (by simp)) hH
theorem l_apnz {x y : Operand} {t tn e rt : TypeId} {m n0 : Nat} {k kq kn : IntKind} {inf : TypeInfo} {H' : Heap} (hx : ev T x = .s .nils) (hy : ev T y = .s (.int kq (m : Int)))
    (hu : P.underlying t = some (.slice e)) (htn : P.underlying tn = some (.int kn)) (hi : P.info? e = some inf) (hsz : inf.size = 1) (hz : inf.zero = some (.int k 0)) (h0 : 0 < m) (hbig : m * inf.bytes ≤ 140737488355328) (hb1 : 0 < inf.bytes) (hn : H.length = n0) (hH : H ++ [some (Blk.mk true [.ints k m (List.replicate m 0)])] = H') :
    LOk P ⟨d, .call ⟨.builtin .append, #[x, y], #[t, tn]⟩, rt, pos, af, g⟩ T H H' (.s (.gro n0 1 m)) [] [] := by
  subst hH
  refine lok_new [] (fun j h => by cases h) fun H0 hl0 hg0 => ?_
  subst hn
  intro W ρ a w hH hf hW ho next Q hq
  have k1 : (ev T x).rep ρ (a.eval x) := ho x (by simp [Op.operands, Call.operands])
  have k2 : (ev T y).rep ρ (a.eval y) := ho y (by simp [Op.operands, Call.operands])
  rw [hx] at k1
  rw [hy] at k2
  have hev : a.eval x = .slice none 0 0 := k1
  have hev2 : a.eval y = .int kq (m : Int) := k2
  have hmb : m ≤ m * inf.bytes := Nat.le_mul_of_pos_right _ hb1
  have hr := Go.Lib.run_append_nil_zeros (P := P) w t tn rt e inf (.int k 0) kq kn hu htn hi hz m h0 (by omega) (by omega) (by omega)
  generalize hcap : grownCap w m 0 e = cap at hr
  have hcap' : m ≤ cap := by
    have := grownCap_ge w m 0 e
    rw [hcap] at this; exact this
  obtain ⟨cells, hcells⟩ : ∃ cells, Builtin.zeroCells (Value.int k 0).cells m ++ Builtin.zeroCells (Value.int k 0).cells (cap - m) = cells := ⟨_, rfl⟩
  rw [hcells] at hr
  have hrun : (execOp a.eval ⟨d, .call ⟨.builtin .append, #[x, y], #[t, tn]⟩, rt, pos, af, g⟩).run P w = .ok (.value (.slice (some ⟨w.heap.size, 0, none⟩) m cap)) (w.drew.alloc (.cells cells e)) := by
    simp only [execOp, resolve, invoke, builtin, List.map_toArray, List.map_cons, List.map_nil, hev, hev2]
    simp [Sem.run_bind, hr]
  rw [hrun]
  have hHd : HRep W ρ (hget H0) w.drew := hH.ext (.drew w)
  have hsize : cells.size = cap := by
    rw [← hcells]; simp [Builtin.zeroCells, Value.cells]; omega
  obtain ⟨ρ', k3, k4, k5⟩ := nx_alloc (t := e) (w := w.drew) (H0 := H0) (cells := cells) (segs := [.ints k m (List.replicate m 0)]) hHd (hf _ (Nat.le_refl _) (by simp)) (fun b hb => hW b hb) (fun ρ' hle i z hz => by
    obtain ⟨hi2, rfl⟩ := atS_ints1 hz
    refine ⟨.int k 0, ?_, ?_, rfl⟩
    · show cells[i]? = some (Value.int k 0)
      rw [← hcells, Array.getElem?_append_left (by simp [Builtin.zeroCells, Value.cells]; exact hi2)]
      simp [Builtin.zeroCells, Value.cells, hi2, Nat.mod_one]
    · show _ = _
      rw [List.getD_eq_getElem?_getD, List.getElem?_replicate, if_pos hi2]; rfl)
  refine hq _ _ ⟨ρ', W, ?_, .inr ⟨w.heap.size, 0, cap, cells.size, ?_, rfl, hcap', k5, by rw [hsize]; omega⟩⟩
  · exact ⟨k3.le, k3.old, k3.rep, ((Ext.drew w).fr W).trans k3.fr, k3.sub, k3.fresh, k3.fzn⟩
  · rw [← hl0]; exact k4
theorem k_apnz (m : Nat) {x y : Operand} {t tn e rt : TypeId} {n0 : Nat} {k kq kn : IntKind} {inf : TypeInfo} {H' : Heap} [hu : Und P t (.slice e)] [htn : Und P tn (.int kn)] [hi : Inf P e inf] [hN : LenN H n0] (hx : ev T x = .s .nils := by rfl) (hy : ev T y = .s (.int kq (m : Int)) := by rfl) (hsz : inf.size = 1 := by exact rfl) (hz : inf.zero = some (.int k 0) := by exact rfl) (h0 : 0 < m := by omega) (hbig : m ≤ 1000000 := by omega) (hbb : Nat.ble (1000000 * inf.bytes) 140737488355328 = true := by exact rfl) (hb1 : 0 < inf.bytes := by exact Nat.le_of_ble_eq_true rfl) (hH : H ++ [some (Blk.mk true [.ints k m (List.replicate m 0)])] = H' := by repeat (first | exact happ_0 | apply happ_s)) :
    LOk P ⟨d, .call ⟨.builtin .append, #[x, y], #[t, tn]⟩, rt, pos, af, g⟩ T H H' (.s (.gro n0 1 m)) [] [] :=
  l_apnz hx hy hu.h htn.h hi.h hsz hz h0 (Nat.le_trans (Nat.mul_le_mul_right _ hbig) (Nat.le_of_ble_eq_true hbb)) hb1 hN.h hH
theorem k_capn {x : Operand} {t e rt : TypeId} [hu : Und P t (.slice e)] (hx : ev T x = .s .nils := by rfl) : LOk P ⟨d, .call ⟨.builtin .cap, #[x], #[t]⟩, rt, pos, af, g⟩ T H H (.s (.int .i64 ((0 : Nat) : Int))) [] [] :=
  lok_pure fun ρ a w ho => by
    have k1 : (ev T x).rep ρ (a.eval x) := ho x (by simp [Op.operands, Call.operands])
    rw [hx] at k1
    have hev : a.eval x = .slice none 0 0 := k1
    refine ⟨.int .i64 0, ?_, rfl⟩
    simp only [execOp, resolve, invoke, builtin, List.map_toArray, List.map_cons, List.map_nil, hev]
    simp [Builtin.cap_, Sem.run_bind, run_underlying hu.h]
    rfl
theorem k_sln {t e : TypeId} {x y : Operand} {sz : Nat} {k : IntKind} {z : Int} [hu : Und P t (.slice e)] [hs : Sz P e sz] (hx : ev T x = .s .nils := by rfl) (hy : ev T y = .s (.int k z) := by rfl) (hz : z = ((0 : Nat) : Int) := by rfl) : LOk P ⟨d, .slice t x none (some y) none, ty, pos, af, g⟩ T H H (.s .nils) [] [] :=
  lok_pure fun ρ a w ho => by
    obtain ⟨k1, k2⟩ := slice_ops ho
    rw [hx] at k1
    have hev : a.eval x = .slice none 0 0 := k1
    have hb := run_bounds (P := P) (T := T) (ρ := ρ) (a := a) (b := true) (w := w) (len := 0) (cap := 0) (l := 0) (h := 0) (m := 0) (lo := none) (hi := some y) (mx := none) rfl ⟨k, z, hy, hz⟩ rfl (fun h => by cases h) k2 (Nat.le_refl _) (Nat.le_refl _) (Nat.le_refl _)
    refine ⟨.slice none 0 0, ?_, rfl⟩
    rw [exec_slice, hev, sliceAt_sl hu.h, run_slice hu.h hs.h hb]
    rfl
theorem k_slgx (l : Nat) {t e : TypeId} {x y : Operand} {id wd len sz n : Nat} {k : IntKind} {z : Int} [hu : Und P t (.slice e)] [hs : Sz P e sz] (hx : ev T x = .s (.gro id wd len) := by rfl) (hy : ev T y = .s (.int k z) := by rfl) (hz : z = ((l : Nat) : Int) := by rfl) (hl : l < len := by omega) (hn : len - l = n := by rfl) : LOk P ⟨d, .slice t x (some y) none none, ty, pos, af, g⟩ T H H (.s (.slx id 0 (l * sz) n 0)) [] [] :=
  lok_pure fun ρ a w ho => by
    obtain ⟨k1, k2⟩ := slice_ops ho
    rw [hx] at k1
    subst hn
    rcases k1 with ⟨hl0, hev⟩ | ⟨b, o, cap, q, hρ, hev, hlc, hszb, hroom⟩
    · omega
    · have hb := run_bounds (P := P) (T := T) (ρ := ρ) (a := a) (b := true) (w := w) (len := len) (cap := cap) (l := l) (h := len) (m := cap) (lo := some y) (hi := none) (mx := none) ⟨k, z, hy, hz⟩ rfl rfl (fun h => by cases h) k2 (by omega) (by omega) (Nat.le_refl _)
      refine ⟨.slice (some ⟨b, o + 0 + l * sz, none⟩) (len - l) (cap - l), ?_, b, o, cap - l, hρ, rfl, Nat.zero_le _, by omega⟩
      rw [exec_slice, hev, sliceAt_sl hu.h, run_slice hu.h hs.h hb]
      rw [if_neg (by omega)]
      simp [Option.map, addr_add]
theorem l_copyx {x y : Operand} {t tx e rt : TypeId} {id base idx dl dc n m sz : Nat} {u : SV} {segs sub sub' segs' : List Seg} {R : List Nat} {H' : Heap} (hx : ev T x = .s (.slx id base idx dl dc)) (hy : ev T y = .s u) (hb : hget H id = some ⟨true, segs⟩) (hsrc : ASrc P tx sz R H u m sub) (hn : min m dl = n)
    (hu : P.underlying t = some (.slice e)) (hs : ∀ w, (sizeOf e).run P w = .ok sz w) (hsub : SubS sub 0 (n * sz) sub') (hp : PutS segs (base + idx) (n * sz) sub' segs') (hRi : ∀ i ∈ R, i < H.length) (hH : H.set id (some ⟨true, segs'⟩) = H') :
    LOk P ⟨d, .call ⟨.builtin .copy, #[x, y], #[t, tx]⟩, rt, pos, af, g⟩ T H H' (.s (.int .i64 (n : Int))) (id :: R) [id] := by
  subst hH; subst hn
  have hlt := hget_lt hb
  refine lok_set (id :: R) (fun j hj => ?_) (by simp) fun H0 hl hag => ?_
  · rcases List.mem_cons.1 hj with rfl | h
    · exact hlt
    · exact hRi j h
  intro W ρ a w hH hnn hW ho next Q hq
  have k1 : (ev T x).rep ρ (a.eval x) := ho x (by simp [Op.operands, Call.operands])
  have k2 : (ev T y).rep ρ (a.eval y) := ho y (by simp [Op.operands, Call.operands])
  rw [hx] at k1
  rw [hy] at k2
  obtain ⟨b, o, cap0, hρ, k1, _, _⟩ := k1
  obtain ⟨news, hS, hnr, hpre⟩ := hsrc.2 _ W ρ w _ (fun j hj => hag j (List.mem_cons_of_mem _ hj)) hH k2
  have hb0 : hget H0 id = some ⟨true, segs⟩ := (hag id (by simp)).trans hb
  obtain ⟨⟨cells, tt, fr, g1, g2, _, g4⟩, hWb⟩ := hH.rep id b o _ hρ hb0
  have hfr := g2 rfl
  subst hfr
  have hfit := fits g4 hp
  have hnl := hS.newsLen
  have hmn : min m dl * sz ≤ news.length := by rw [hnl]; exact Nat.mul_le_mul_right sz (Nat.min_le_left _ _)
  -- the cells that are copied
  have hf := hpre (min m dl) (Nat.min_le_left _ _)
  generalize hcs : news.take (min m dl * sz) = cs at *
  have hcl : cs.length = min m dl * sz := by rw [← hcs, List.length_take]; omega
  have hone : ∀ u ∈ cs, u.oneCell' = true := fun u hu => hS.one u (by rw [← hcs] at hu; exact List.mem_of_mem_take hu)
  have hst := run_storeCells_at P b (o + (base + idx)) tt cs 0 cells w g1 (by rw [hcl]; omega) hone
  rw [Nat.add_zero] at hst
  have hrun : (execOp a.eval ⟨d, .call ⟨.builtin .copy, #[x, y], #[t, tx]⟩, rt, pos, af, g⟩).run P w = .ok (.value (.int .i64 ((min m dl : Nat) : Int))) (w.setRow b (cells.toList.take (o + (base + idx)) ++ cs ++ cells.toList.drop (o + (base + idx) + cs.length)).toArray) := by
    simp only [execOp, resolve, invoke, builtin, List.map_toArray, List.map_cons, List.map_nil, k1]
    have hmin : Nat.min m dl = min m dl := rfl
    simp only [Builtin.copy_, Sem.run_bind, run_underlying hu, hS.len, hs, Result.andThen_ok]
    simp [Sem.run_bind, run_underlying hu, hS.len, hs, hmin, hf, goInt]
    rw [show o + base + idx = o + (base + idx) by omega, hst]
    simp
  rw [hrun]
  refine hq _ _ ⟨ρ, W, nx_write hH hW hρ hb0 g1 g4 hp hcl (fun i z hz => ?_) hfit, rfl⟩
  have hi : i < min m dl * sz := by rw [← hsub.1]; exact atS_lt hz
  obtain ⟨y', x', e1, e2, e3⟩ := hsub.2 i hi
  rw [hz] at e2
  cases e2
  rw [Nat.zero_add] at e1
  obtain ⟨v, hv, hc⟩ := hnr i y' e1
  refine ⟨v, ?_, e3.rep hc.1, hc.2⟩
  show cs[i]? = some v
  rw [← hcs, List.getElem?_take, if_pos hi]; exact hv


theorem k_cpx (n : Nat) {x y : Operand} {t tx e rt : TypeId} {id idx dl dc q : Nat} {k : IntKind} {xs ys zz : List Int} {H' : Heap} [hu : Und P t (.slice e)] [hux : Und P tx (.slice e)] [hs : Sz P e 1] (hx : ev T x = .s (.slx id 0 idx dl dc) := by rfl) (hy : ev T y = .s (.fzi k ys) := by rfl) (hb : hget H id = some ⟨true, [.ints k q xs]⟩ := by rfl) (hm : ys.length = n) (hn : n ≤ dl := by omega) (h0 : 0 < n := by omega) (hq : idx + n ≤ q := by omega) (hz : spl xs ys idx n q = zz := by rfl) (hH : H.set id (some ⟨true, [.ints k q zz]⟩) = H' := by repeat (first | exact hset_0 | apply hset_s)) :
    LOk P ⟨d, .call ⟨.builtin .copy, #[x, y], #[t, tx]⟩, rt, pos, af, g⟩ T H H' (.s (.int .i64 (n : Int))) [id] [id] := by
  subst hz
  refine l_copyx (sub' := [.ints k n ys]) hx hy hb (asrc_fzi hux.h) (by omega) hu.h hs.h ?_ ?_ (fun _ h => by cases h) hH
  · rw [hm, Nat.mul_one]; exact .whole (by simp [sizeS, Seg.size])
  · rw [Nat.mul_one]
    have h := PutS.ints (l := [.ints k q xs]) (o := 0) (i := idx) (n := n) (m := q) (k := k) (xs := xs) (ys := ys) h0 rfl hq
    exact h
end
theorem weak_row {E : Env} {T : Tm} {H H' : Heap} (id : Nat) {b : Bool} {segs segs' : List Seg} (hb : hget H id = some ⟨b, segs⟩) (h : ∀ (ρ : Rho) (get : Nat → Option Value), RowRep ρ segs get → RowRep ρ segs' get) (hH : H.set id (some ⟨b, segs'⟩) = H') : Weak E T H T H' := by
  subst hH
  have hlt := hget_lt hb
  rintro a w ⟨ρ, W, p, hno, hT, hE⟩
  have hg : ∀ j k, hget (H.set id (some ⟨b, segs'⟩)) j = some k → ∃ k0, hget H j = some k0 ∧ k.rw = k0.rw ∧ (∀ o b', BRep ρ k0 w b' o → BRep ρ k w b' o) := by
    intro j k hk
    rw [hget_set hlt] at hk
    by_cases hj : j = id
    · subst hj
      rw [if_pos rfl] at hk
      cases hk
      refine ⟨_, hb, rfl, ?_⟩
      rintro o b' ⟨cells, t, fr, h1, h2, h3, h4⟩
      exact ⟨cells, t, fr, h1, h2, h3, h ρ _ h4⟩
    · rw [if_neg hj] at hk
      exact ⟨k, hk, rfl, fun _ _ h => h⟩
  refine ⟨ρ, W, ⟨p.le, ⟨p.rep.lt, fun j b' o k e1 e2 => ?_, fun j j' b' o o' k k' hne e1 e2 e3 e4 => ?_, p.rep.fz, p.rep.sz⟩, p.size, p.defs, p.fr, p.sub, p.fresh, p.fzn, p.old⟩, fun j hj => hno j (by simpa using hj), hT, by simpa using hE⟩
  · obtain ⟨k0, h1, h2, h3⟩ := hg j k e2
    have := p.rep.rep j b' o k0 e1 h1
    exact ⟨h3 _ _ this.1, fun e => this.2 (h2 ▸ e)⟩
  · obtain ⟨k0, h1, h2, _⟩ := hg j k e3
    obtain ⟨k1, h1', h2', _⟩ := hg j' k' e4
    have := p.rep.apart j j' b' o o' k0 k1 hne e1 e2 h1 h1'
    exact ⟨h2.trans this.1, h2'.trans this.2⟩
theorem row_take {k : IntKind} {q n : Nat} {l l' : List Int} (h : l.take n = l') (hn : n ≤ q) {ρ : Rho} {get : Nat → Option Value} (hr : RowRep ρ [.ints k q l] get) : RowRep ρ [.ints k n l'] get := fun i x hx => by
  obtain ⟨hi, rfl⟩ := atS_ints1 hx
  obtain ⟨v, hv, hc⟩ := hr i (.int k (l.getD i 0)) (by simp [atS, Seg.size, Seg.at]; omega)
  refine ⟨v, hv, ?_⟩
  have : l'.getD i 0 = l.getD i 0 := by
    rw [← h, List.getD_eq_getElem?_getD, List.getD_eq_getElem?_getD, List.getElem?_take_of_lt hi]
  rw [this]; exact hc
end Go.Bx
end

section
/- Types and functions of packets, as instances. -/
open Go Go.Bx Go.Proofs
namespace Go.Proofs.X
instance : Clb Tryz.prog 53 := ⟨_, Tryz.func53, by kernel_rfl, rfl⟩
instance : Clb Tryz.prog 29 := ⟨_, Tryz.func29, by kernel_rfl, rfl⟩
instance : Clb Tryz.prog 35 := ⟨_, Tryz.func35, by kernel_rfl, rfl⟩
instance : Clb Tryz.prog 23 := ⟨_, Tryz.func23, by kernel_rfl, rfl⟩
instance : Clb Tryz.prog 51 := ⟨_, Tryz.func51, by kernel_rfl, rfl⟩
instance : Und Tryz.prog 37 (.array 16 5) := ⟨Tryz.underlying37⟩
instance : Sz Tryz.prog 37 16 := ⟨Tryz.sizeOf37⟩
instance : Ag Tryz.prog 37 true := ⟨Tryz.isAgg37⟩
instance : Zv Tryz.prog 37 [.ints .u8 16 (zs (List.replicate 16 0))] := ⟨_, Tryz.zeroValue37, by kernel_rfl⟩
instance : Zb Tryz.prog 37 .u8 16 := ⟨_, Tryz.zeroValue37, by kernel_rfl⟩
instance : Inf Tryz.prog 37 Tryz.t37 := ⟨by kernel_rfl⟩
instance : Und Tryz.prog 56 (.int .u8) := ⟨Tryz.underlying56⟩
instance : Sz Tryz.prog 56 1 := ⟨Tryz.sizeOf56⟩
instance : Ag Tryz.prog 56 false := ⟨Tryz.isAgg56⟩
instance : Zv Tryz.prog 56 [.one (.int .u8 0)] := ⟨_, Tryz.zeroValue56, by kernel_rfl⟩
instance : Zi Tryz.prog 56 .u8 := ⟨Tryz.zeroValue56⟩
instance : Inf Tryz.prog 56 Tryz.t56 := ⟨by kernel_rfl⟩
instance : Und Tryz.prog 59 (.struct #[{ name := "Kind", type := 56, offset := 0, embedded := false, tag := "", pkgPath := "", byteOffset := 0 }, { name := "From", type := 37, offset := 1, embedded := false, tag := "", pkgPath := "", byteOffset := 1 }, { name := "To", type := 37, offset := 17, embedded := false, tag := "", pkgPath := "", byteOffset := 17 }, { name := "Params", type := 57, offset := 33, embedded := false, tag := "", pkgPath := "", byteOffset := 40 }]) := ⟨Tryz.underlying59⟩
instance : Sz Tryz.prog 59 34 := ⟨Tryz.sizeOf59⟩
instance : Ag Tryz.prog 59 true := ⟨Tryz.isAgg59⟩
instance : Zv Tryz.prog 59 [.one (.int .u8 0), .ints .u8 16 (zs (List.replicate 16 0)), .ints .u8 16 (zs (List.replicate 16 0)), .one .nils] := ⟨_, Tryz.zeroValue59, by kernel_rfl⟩
instance : FldC Tryz.prog 59 0 0 := ⟨_, _, _, Tryz.underlying59, rfl, Tryz.sizeOf56, by decide, rfl⟩
instance : FldC Tryz.prog 59 1 1 := ⟨_, _, _, Tryz.underlying59, rfl, Tryz.sizeOf37, by decide, rfl⟩
instance : FldC Tryz.prog 59 2 17 := ⟨_, _, _, Tryz.underlying59, rfl, Tryz.sizeOf37, by decide, rfl⟩
instance : FldC Tryz.prog 59 3 33 := ⟨_, _, _, Tryz.underlying59, rfl, Tryz.sizeOf57, by decide, rfl⟩
instance : Pl Tryz.prog 59 #[(0, 1), (1, 16), (17, 16), (33, 1)] := ⟨_, Tryz.underlying59, fun w => by kernel_rfl⟩
instance : Inf Tryz.prog 59 Tryz.t59 := ⟨by kernel_rfl⟩
end Go.Proofs.X
end

section
/- Packets as bytes, as lists. No program. -/
open Go Go.Bx
namespace Go.Proofs.X
abbrev PKT (k : Nat) (A B : List Int) (L : List Pc) : List Seg := [.one (.int .u8 ((k : Nat) : Int)), .ints .u8 16 A, .ints .u8 16 B, .one (PARS L)]
def mayK (k : Nat) : Bool := decide (0 < k) && decide (k ≤ 8)
def up8 (n : Nat) : Nat := (n + 8 - 1) / 8 * 8
theorem up8_le (n : Nat) : n ≤ up8 n ∧ up8 n < n + 8 := by unfold up8; omega
theorem up8_add (a n : Nat) (h : a % 8 = 0) : up8 (a + n) = a + up8 n := by unfold up8; omega
theorem up8_mod (n : Nat) : up8 n % 8 = 0 := by unfold up8; omega
def encP (p : Pc) : List Int := be 2 p.1 ++ be 2 p.2.length ++ p.2 ++ List.replicate (up8 (4 + p.2.length) - (4 + p.2.length)) 0
theorem encP_len (p : Pc) : (encP p).length = up8 (4 + p.2.length) := by
  have := up8_le (4 + p.2.length)
  simp [encP, be_len]; omega
def encL (L : List Pc) : List Int := (L.map encP).flatten
theorem encL_s {L : List Pc} {i : Nat} (h : i < L.length) : encL (L.take (i + 1)) = encL (L.take i) ++ encP (L.getD i p0) := by
  rw [take_snoc h, encL, List.map_append, List.flatten_append]; simp [encL]
theorem encL_mod (L : List Pc) : (encL L).length % 8 = 0 := by
  induction L with
  | nil => rfl
  | cons p r ih =>
    have : encL (p :: r) = encP p ++ encL r := by simp [encL]
    rw [this, List.length_append, encP_len]
    have := up8_mod (4 + p.2.length)
    omega
theorem encL_le (L : List Pc) (i : Nat) (hb : ∀ k, k < L.length → (L.getD k p0).2.length ≤ 2048) : i ≤ L.length → (encL (L.take i)).length ≤ 2056 * i := by
  induction i with
  | zero => intro _; simp [encL]
  | succ i ih =>
    intro h
    rw [encL_s (by omega), List.length_append, encP_len]
    have := ih (by omega)
    have := hb i (by omega)
    have := up8_le (4 + (L.getD i p0).2.length)
    have : up8 (4 + (L.getD i p0).2.length) % 8 = 0 := up8_mod _
    omega
theorem enc_fill {E b : List Int} {a t : Nat} (h : E.length % 8 = 0) : (E ++ be 2 t ++ be 2 a ++ b).length = E.length + (4 + b.length) ∧ up8 (E ++ be 2 t ++ be 2 a ++ b).length - (E ++ be 2 t ++ be 2 a ++ b).length = up8 (4 + b.length) - (4 + b.length) := by
  have e : (E ++ be 2 t ++ be 2 a ++ b).length = E.length + (4 + b.length) := by simp [be_len]; omega
  refine ⟨e, ?_⟩
  rw [e, up8_add _ _ h]; omega
theorem enc_put (E : List Int) (p : Pc) : E ++ be 2 p.1 ++ be 2 p.2.length ++ p.2 ++ List.replicate (up8 (4 + p.2.length) - (4 + p.2.length)) 0 = E ++ encP p := by simp [encP]
theorem flat_le (L : List (List Int)) (i : Nat) : (L.take i).flatten.length ≤ L.flatten.length := by
  conv => rhs; rw [← List.take_append_drop i L, List.flatten_append, List.length_append]
  exact Nat.le_add_right _ _
theorem enc_step {L : List Pc} {i : Nat} (h : i < L.length) : (encL (L.take i) ++ be 2 (L.getD i p0).1 ++ be 2 (L.getD i p0).2.length ++ (L.getD i p0).2) ++ List.replicate (up8 (encL (L.take i) ++ be 2 (L.getD i p0).1 ++ be 2 (L.getD i p0).2.length ++ (L.getD i p0).2).length - (encL (L.take i) ++ be 2 (L.getD i p0).1 ++ be 2 (L.getD i p0).2.length ++ (L.getD i p0).2).length) 0 = encL (L.take (i + 1)) := by
  rw [(enc_fill (encL_mod _)).2, enc_put, encL_s h]
theorem enc_step0 {L : List Pc} {i : Nat} (h : i < L.length) (hb : (L.getD i p0).2 = []) : (encL (L.take i) ++ be 2 (L.getD i p0).1 ++ be 2 (L.getD i p0).2.length) ++ List.replicate (up8 ((encL (L.take i) ++ be 2 (L.getD i p0).1).length + 2) - ((encL (L.take i) ++ be 2 (L.getD i p0).1).length + 2)) 0 = encL (L.take (i + 1)) := by
  have e := enc_step h
  rw [hb, List.append_nil] at e
  rw [hb]
  have : ((encL (L.take i) ++ be 2 (L.getD i p0).1).length + 2) = (encL (L.take i) ++ be 2 (L.getD i p0).1 ++ be 2 ([] : List Int).length).length := by simp [be_len]
  rw [this]; exact e
theorem app_len {a b : List Int} {m : Nat} (h : a ++ List.replicate m 0 = b) : a.length + m = b.length := by rw [← h]; simp
theorem app_len2 {a b : List Int} {m n : Nat} (h : a ++ List.replicate m 0 = b) (ha : a.length = n) : n + m = b.length := by rw [← h, ← ha]; simp
theorem encL_le2 (L : List Pc) (i : Nat) (hb : ∀ k, k < i → (L.getD k p0).2.length ≤ 2048) (hi : i ≤ 16) (hL : i ≤ L.length) : (encL (L.take i)).length ≤ 40000 := by
  have h := encL_le (L.take i) i (fun k hk => by
    rw [List.length_take] at hk
    rw [List.getD_eq_getElem?_getD, List.getElem?_take_of_lt (by omega), ← List.getD_eq_getElem?_getD]
    exact hb k (by omega)) (by rw [List.length_take]; omega)
  rw [List.take_take, Nat.min_self] at h
  omega
theorem encL_0 (L : List Pc) : encL (L.take 0) = [] := rfl
def ck1 (n c i : Nat) : Nat := (n + (c * 2 ^ (8 * (1 - i % 2))) % 4294967296) % 4294967296
def ck2 (m : Nat) : Nat := ((m &&& 65535) + m / 2 ^ 16) % 4294967296
def ckS (B : List Int) : Nat → Nat
  | 0 => 0
  | i + 1 => ck2 (ck1 (ckS B i) (B.getD i 0).toNat i)
theorem ckS_0 (B : List Int) : ckS B 0 = 0 := rfl
theorem ckS_lt (B : List Int) (i : Nat) : ckS B i < 4294967296 := by
  cases i with
  | zero => exact Nat.zero_lt_succ _
  | succ i => exact Nat.mod_lt _ (by decide)
theorem ckS_def (B : List Int) (i : Nat) : ((((ckS B i + ((B.getD i 0).toNat * 2 ^ (8 * (1 - i % 2))) % 4294967296) % 4294967296) &&& 65535) + (ckS B i + ((B.getD i 0).toNat * 2 ^ (8 * (1 - i % 2))) % 4294967296) % 4294967296 / 2 ^ 16) % 4294967296 = ckS B (i + 1) := rfl
def chk (B : List Int) : Nat := 65535 ^^^ (ckS B B.length % 65536)
theorem chk_def (B : List Int) : 65535 ^^^ (ckS B B.length % 65536) = chk B := rfl
theorem chk_lt (B : List Int) : chk B < 65536 := Nat.xor_lt_two_pow (n := 16) (by decide) (Nat.mod_lt _ (by decide))
abbrev pkH (k n : Nat) : List Int := [1, (k : Int)] ++ be 2 n
def pk0 (k : Nat) (A B E : List Int) : List Int := pkH k (40 + E.length) ++ (List.replicate 4 0 ++ (A ++ (B ++ E)))
def pkB (k : Nat) (A B E : List Int) : List Int := pkH k (40 + E.length) ++ (be 2 (chk (pk0 k A B E)) ++ (List.replicate 2 0 ++ (A ++ (B ++ E))))
theorem pk_flat (k : Nat) (A B E : List Int) : [pkH k (40 + E.length), List.replicate 4 0, A, B, E].flatten = pk0 k A B E := by simp [pk0]
theorem U8'_pk0 {k : Nat} {A B E : List Int} (hk : k < 256) (hA : U8' A) (hB : U8' B) (hE : U8' E) : U8' (pk0 k A B E) := by
  unfold pk0 pkH
  refine U8'_app (U8'_app ?_ (U8'_be _ _)) (U8'_app ?_ (U8'_app hA (U8'_app hB hE)))
  · intro i
    match i with
    | 0 => exact ⟨by simp, by simp⟩
    | 1 => exact ⟨by simp, by simp; omega⟩
    | i + 2 => exact ⟨by simp, by simp⟩
  · intro i
    rw [List.getD_eq_getElem?_getD, List.getElem?_replicate]
    split <;> exact ⟨by decide, by decide⟩
theorem pk0_len {k : Nat} {A B E : List Int} (hA : A.length = 16) (hB : B.length = 16) : (pk0 k A B E).length = 40 + E.length := by
  simp [pk0, pkH, be_len, hA, hB]; omega
theorem pkB_len {k : Nat} {A B E : List Int} (hA : A.length = 16) (hB : B.length = 16) : (pkB k A B E).length = 40 + E.length := by
  simp [pkB, pkH, be_len, hA, hB]; omega
theorem pkB_spl {k m : Nat} {A B E : List Int} (hA : A.length = 16) (hB : B.length = 16) (hm : m = 40 + E.length) : spl (pk0 k A B E) (be 2 (chk (pk0 k A B E))) 4 2 m = pkB k A B E := by
  subst hm
  have h := spl_app (pkH k (40 + E.length)) (be 2 (chk (pk0 k A B E))) (List.replicate 4 0 ++ (A ++ (B ++ E))) 4 2 (40 + E.length) (by simp [pkH, be_len]) (be_len _ _) (by omega) (by simp [pkH, be_len, hA, hB]; omega)
  have e : (List.replicate 4 (0 : Int) ++ (A ++ (B ++ E))).drop 2 = List.replicate 2 0 ++ (A ++ (B ++ E)) := by rw [List.drop_append_of_le_length (by simp)]; rfl
  rw [e] at h
  exact h
end Go.Proofs.X
end
