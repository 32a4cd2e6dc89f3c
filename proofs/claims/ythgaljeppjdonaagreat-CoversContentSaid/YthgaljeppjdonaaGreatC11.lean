/- A part of the proofs of this claim: BPkt2, BPkt3, BCovT, BCovS, BCov1, BCov2, BCov3, BCovP, BCovT4. No conditions. -/
import Derived.Test.YthgaljeppjdonaaGreatC10
import Derived.Test.YthgaljeppjdonaaGreatC8
set_option linter.unusedVariables false
set_option linter.unusedSimpArgs false
section
open Go Go.Bx Go.Proofs
namespace Go.Proofs.X
attribute [local irreducible] be gN ckS encL
set_option maxRecDepth 100000 in
set_option maxHeartbeats 4000000 in
theorem grown_m (m : Nat) (h0 : 0 < m) (hb : m ≤ 1000000) : Con Tryz.prog 105 [.s .nils, .s (.int .i64 ((m : Nat) : Int))] [] (.s (.gro 0 1 0)) [some ⟨true, [.ints .u8 (m) (List.replicate m 0)]⟩] := by
 refine con_in 27 Tryz.func105 rfl rfl (m := 0) rfl ?_
 intro E hP hn hE
 refine w_seq ?_
 refine g_reg hP hn ?_
 refine s_op k_as ?_
 refine s_nil trivial ?_
 refine n_wp ?_
 refine w_seq ?_
 refine w_seq ?_
 refine g_reg hP hn ?_
 refine s_op k_mv ?_
 refine s_op k_lss ?_
 refine s_nil trivial ?_
 refine n_wp ?_
 refine w_F rfl ?_ (decide_eq_false (by omega))
 refine w_skip ?_
 refine n_wp ?_
 refine w_seq ?_
 refine w_seq ?_
 refine g_reg hP hn ?_
 refine s_op k_mv ?_
 refine s_op k_mv ?_
 refine s_op k_capn ?_
 refine s_op k_mv ?_
 refine s_op k_len ?_
 refine s_op k_sub ?_
 refine s_op k_sub ?_
 refine s_op k_as ?_
 refine s_nil trivial ?_
 refine n_wp ?_
 refine w_seq ?_
 refine g_reg hP hn ?_
 refine s_op k_mv ?_
 refine s_op k_gtr ?_
 refine s_nil trivial ?_
 refine n_wp ?_
 refine w_T rfl ?_ (decide_eq_true (by omega))
 refine g_reg hP hn ?_
 refine s_op k_mv ?_
 refine s_op k_mv ?_
 refine s_op k_capn ?_
 refine s_op k_sln ?_
 refine s_op k_mv ?_
 refine s_op (k_apnz m) ?_
 refine s_op k_mv ?_
 refine s_op k_len ?_
 refine s_op (k_slg 0) ?_
 refine s_op k_as ?_
 refine s_nil trivial ?_
 refine n_wp ?_
 refine w_seq ?_
 refine g_reg hP hn ?_
 refine s_op k_mv ?_
 refine s_op k_as ?_
 refine s_nil trivial ?_
 refine n_wp ?_
 refine w_ret ?_
 exact d_ret hP hn hE [0] (by first | exact r_tmp Tryz.results105 | exact r_tmpa Tryz.results105)

set_option maxRecDepth 100000 in
set_option maxHeartbeats 4000000 in
theorem cat_m (L : List (List Int)) (h0 : 0 < L.flatten.length) (hb : L.flatten.length ≤ 900000) (hL : L.length ≤ 1000)  : Con Tryz.prog 76 [.s (ROWS L)] [] (.s (.gro 0 1 L.flatten.length)) [some ⟨true, [.ints .u8 (L.flatten.length) (L.flatten)]⟩] := by
 refine con_in 36 Tryz.func76 rfl rfl (m := 0) rfl ?_
 intro E hP hn hE
 refine w_seq ?_
 refine g_reg hP hn ?_
 refine s_op k_as ?_
 refine s_nil trivial ?_
 refine n_wp ?_
 refine w_seq ?_
 refine g_reg hP hn ?_
 refine s_op k_as ?_
 refine s_nil trivial ?_
 refine n_wp ?_
 refine w_seq ?_
 refine w_seq ?_
 refine g_reg hP hn ?_
 refine s_op k_mv ?_
 refine s_op k_len ?_
 refine s_op k_mv ?_
 refine s_nil trivial ?_
 refine n_wp ?_
 refine w_block ?_
 refine c_loop (fun m_ T H => ∃ i, i ≤ L.length ∧ m_ = L.length - i ∧ T = [(0, .s (ROWS L)), (3, .s (.int .i64 (((L.take i).flatten.length : Nat) : Int))), (9, .s (ROWS L)), (10, .s (.int .i64 ((L.length : Nat) : Int))), (11, .s (.int .i64 ((i : Nat) : Int)))] ∧ H = []) (L.length) ⟨0, by omega, rfl, rfl, rfl⟩ (wk hE []) ?_
 rintro n_ T_ H_ ⟨i, hi, rfl, rfl, rfl⟩
 refine w_seq ?_
 refine g_reg hP hn ?_
 refine s_op k_lss ?_
 refine s_nil trivial ?_
 refine n_wp ?_
 refine w_seq ?_
 refine w_if rfl (fun h_t12 => ?_) (fun h_t12 => ?_)
 · skip
   have hfl := flat_le L i
   have hf2 := flat_le L (i + 1)
   rw [flat_s L h_t12, List.length_append] at hf2
   refine w_skip ?_
   refine n_wp ?_
   refine w_seq ?_
   refine w_block ?_
   refine w_seq ?_
   refine g_reg hP hn ?_
   refine s_op k_ix ?_
   refine s_op (k_ld (by exact a_loadf (v := .fzi .u8 (L.getD i [])) rfl (by omega) (rows_at L h_t12))) ?_
   refine s_op k_as ?_
   refine s_nil trivial ?_
   refine n_wp ?_
   refine w_seq ?_
   refine g_reg hP hn ?_
   refine s_op k_mv ?_
   refine s_op k_mv ?_
   refine s_op k_len ?_
   refine s_op k_add ?_
   refine s_op k_as ?_
   refine s_nil trivial ?_
   refine n_wp ?_
   refine w_seq ?_
   refine g_reg hP hn ?_
   refine s_op k_mv ?_
   refine s_op k_lss ?_
   refine s_nil trivial ?_
   refine n_wp ?_
   refine w_F rfl ?_ (decide_eq_false (by omega))
   refine w_skip ?_
   refine n_blo ?_
   refine n_wp ?_
   refine g_reg hP hn ?_
   refine s_op k_add ?_
   refine s_op k_mv ?_
   refine s_nil trivial ?_
   exact n_round (L.length - (i + 1)) (by omega) ⟨i + 1, by omega, rfl, by rw [flat_s L h_t12, List.length_append], rfl⟩ (wk hE [])
 · skip
   obtain rfl : i = L.length := Nat.le_antisymm hi (by omega)
   have hTL : L.take L.length = L := List.take_length
   rw [hTL]
   refine w_exit ?_
   refine x_thn ?_
   refine x_thn ?_
   refine x_eq ?_
   refine n_wp ?_
   refine w_seq ?_
   refine g_reg hP hn ?_
   refine s_op k_mv ?_
   refine s_op (k_call [] (con := grown_m L.flatten.length h0 (by omega))) ?_
   refine s_op k_as ?_
   refine s_nil trivial ?_
   refine n_wp ?_
   refine w_seq ?_
   refine w_seq ?_
   refine g_reg hP hn ?_
   refine s_op k_mv ?_
   refine s_op k_len ?_
   refine s_op k_mv ?_
   refine s_nil trivial ?_
   refine n_wp ?_
   refine w_block ?_
   refine c_loop (fun m_ T H => ∃ i q l, i ≤ L.length ∧ m_ = L.length - i ∧ l.length = q ∧ (L.take i).flatten.length ≤ q ∧ l.take (L.take i).flatten.length = (L.take i).flatten ∧ T = [(6, .s (.gro 0 1 (L.take i).flatten.length)), (25, .s (ROWS L)), (26, .s (.int .i64 ((L.length : Nat) : Int))), (27, .s (.int .i64 ((i : Nat) : Int)))] ∧ H = [some ⟨true, [.ints .u8 (q) (l)]⟩]) (L.length) ⟨0, L.flatten.length, List.replicate L.flatten.length 0, by omega, rfl, by simp, Nat.zero_le _, rfl, rfl, rfl⟩ (wk hE [0]) ?_
   rintro n_ T_ H_ ⟨i, q, l, hi, rfl, hl, hlq, htk, rfl, rfl⟩
   refine w_seq ?_
   refine g_reg hP hn ?_
   refine s_op k_lss ?_
   refine s_nil trivial ?_
   refine n_wp ?_
   refine w_seq ?_
   refine w_if rfl (fun h_t28 => ?_) (fun h_t28 => ?_)
   · skip
     have hf2 := flat_le L (i + 1)
     rw [flat_s L h_t28, List.length_append] at hf2
     refine w_skip ?_
     refine n_wp ?_
     refine w_seq ?_
     refine w_block ?_
     refine w_seq ?_
     refine g_reg hP hn ?_
     refine s_op k_ix ?_
     refine s_op (k_ld (by exact a_loadf (v := .fzi .u8 (L.getD i [])) rfl (by omega) (rows_at L h_t28))) ?_
     refine s_op k_as ?_
     refine s_nil trivial ?_
     refine n_wp ?_
     refine g_reg hP hn ?_
     refine s_op k_mv ?_
     refine s_op k_mv ?_
     refine s_op (k_apg (c := (L.take i).flatten.length + (L.getD i []).length) (l' := (L.take (i + 1)).flatten) (hc := rfl) (hl' := by rw [htk, flat_s L h_t28]) (hl := hl)) ?_
     refine s_op k_as ?_
     refine s_nil trivial ?_
     refine n_blo ?_
     refine n_wp ?_
     refine g_reg hP hn ?_
     refine s_op k_add ?_
     refine s_op k_mv ?_
     refine s_nil trivial ?_
     exact n_round (L.length - (i + 1)) (by omega) ⟨i + 1, (L.take i).flatten.length + (L.getD i []).length, (L.take (i + 1)).flatten, by omega, rfl, by rw [flat_s L h_t28, List.length_append], by rw [flat_s L h_t28, List.length_append]; exact Nat.le_refl _, List.take_length, by rw [flat_s L h_t28, List.length_append], rfl⟩ (wk hE [1])
   · skip
     obtain rfl : i = L.length := Nat.le_antisymm hi (by omega)
     have hTL : L.take L.length = L := List.take_length
     rw [hTL] at htk hlq ⊢
     refine w_exit ?_
     refine x_thn ?_
     refine x_thn ?_
     refine x_eq ?_
     refine n_wp ?_
     refine w_seq ?_
     refine g_reg hP hn ?_
     refine s_op k_mv ?_
     refine s_op k_as ?_
     refine s_nil trivial ?_
     refine n_wp ?_
     refine w_ret ?_
     exact d_retw hP hn (r_tmp Tryz.results76) ((weak_row 0 (segs' := [.ints .u8 L.flatten.length L.flatten]) (by exact rfl) (fun _ _ h => row_take htk hlq h) rfl).trans (wk hE [0]))

set_option maxRecDepth 100000 in
set_option maxHeartbeats 4000000 in
theorem pput_arg (L : List Pc) (hLb : L.length ≤ 800000) (hty : ∀ k, (L.getD k p0).1 < 65536) (j : Nat) (hj : j < L.length) (hno : ¬ lastT L j < (L.getD j p0).1) : Con Tryz.prog 75 [.s (PARS L)] [] (.tup [.s .nils, .s (.int .i64 1)]) [] := by
 refine con_in 52 Tryz.func75 rfl rfl (m := 0) rfl ?_
 intro E hP hn hE
 refine w_seq ?_
 refine g_reg hP hn ?_
 refine s_op k_as ?_
 refine s_op k_as ?_
 refine s_nil trivial ?_
 refine n_wp ?_
 refine w_seq ?_
 refine w_block ?_
 refine w_seq ?_
 refine g_reg hP hn ?_
 refine s_op k_mv ?_
 refine s_op (k_call [] (con := maypar_no L (by omega) j hj hno)) ?_
 refine s_op k_not ?_
 refine s_op k_as ?_
 refine s_nil trivial ?_
 refine n_wp ?_
 refine w_T rfl ?_ 
 refine w_seq ?_
 refine g_reg hP hn ?_
 refine s_op k_as ?_
 refine s_op k_as ?_
 refine s_nil trivial ?_
 refine n_wp ?_
 refine w_ret ?_
 refine r_blo ?_
 refine r_thn ?_
 exact d_ret hP hn hE [] (ret2 Tryz.results75 (by first | exact ri_tmp rfl | exact ri_tmpa rfl) (by first | exact ri_tmp rfl | exact ri_tmpa rfl))

set_option maxRecDepth 100000 in
set_option maxHeartbeats 4000000 in
theorem pput_lim (L : List Pc) (hLb : L.length ≤ 800000) (hty : ∀ k, (L.getD k p0).1 < 65536) (hall : ∀ i, i < L.length → lastT L i < (L.getD i p0).1) (hl : 16 < L.length) : Con Tryz.prog 75 [.s (PARS L)] [] (.tup [.s .nils, .s (.int .i64 3)]) [] := by
 refine con_in 52 Tryz.func75 rfl rfl (m := 0) rfl ?_
 intro E hP hn hE
 refine w_seq ?_
 refine g_reg hP hn ?_
 refine s_op k_as ?_
 refine s_op k_as ?_
 refine s_nil trivial ?_
 refine n_wp ?_
 refine w_seq ?_
 refine w_block ?_
 refine w_seq ?_
 refine g_reg hP hn ?_
 refine s_op k_mv ?_
 refine s_op (k_call [] (con := maypar_y L (by omega) hall)) ?_
 refine s_op k_not ?_
 refine s_op k_as ?_
 refine s_nil trivial ?_
 refine n_wp ?_
 refine w_F rfl ?_ 
 refine w_seq ?_
 refine g_reg hP hn ?_
 refine s_op k_mv ?_
 refine s_op k_len ?_
 refine s_op k_gtr ?_
 refine s_op k_as ?_
 refine s_nil trivial ?_
 refine n_wp ?_
 refine w_T rfl ?_ 
 refine w_seq ?_
 refine g_reg hP hn ?_
 refine s_op k_as ?_
 refine s_op k_as ?_
 refine s_nil trivial ?_
 refine n_wp ?_
 refine w_ret ?_
 refine r_blo ?_
 refine r_thn ?_
 exact d_ret hP hn hE [] (ret2 Tryz.results75 (by first | exact ri_tmp rfl | exact ri_tmpa rfl) (by first | exact ri_tmp rfl | exact ri_tmpa rfl))

set_option maxRecDepth 100000 in
set_option maxHeartbeats 4000000 in
theorem pput_y (L : List Pc) (hLb : L.length ≤ 800000) (hty : ∀ k, (L.getD k p0).1 < 65536) (hall : ∀ i, i < L.length → lastT L i < (L.getD i p0).1) (hl : ¬ 16 < L.length) (hb2 : ∀ k, k < L.length → (L.getD k p0).2.length ≤ 2048) (htot : (encL L).length ≤ 2048) : Con Tryz.prog 75 [.s (PARS L)] [] (.tup [.s (.fzi .u8 (encL L)), .s (.int .i64 0)]) [] := by
 refine con_in 52 Tryz.func75 rfl rfl (m := 0) rfl ?_
 intro E hP hn hE
 refine w_seq ?_
 refine g_reg hP hn ?_
 refine s_op k_as ?_
 refine s_op k_as ?_
 refine s_nil trivial ?_
 refine n_wp ?_
 refine w_seq ?_
 refine w_block ?_
 refine w_seq ?_
 refine g_reg hP hn ?_
 refine s_op k_mv ?_
 refine s_op (k_call [] (con := maypar_y L (by omega) hall)) ?_
 refine s_op k_not ?_
 refine s_op k_as ?_
 refine s_nil trivial ?_
 refine n_wp ?_
 refine w_F rfl ?_ 
 refine w_seq ?_
 refine g_reg hP hn ?_
 refine s_op k_mv ?_
 refine s_op k_len ?_
 refine s_op k_gtr ?_
 refine s_op k_as ?_
 refine s_nil trivial ?_
 refine n_wp ?_
 refine w_F rfl ?_ (decide_eq_false (by omega))
 refine w_skip ?_
 refine n_blo ?_
 refine n_wp ?_
 refine w_seq ?_
 refine g_reg hP hn ?_
 refine s_op k_as ?_
 refine s_nil trivial ?_
 refine n_wp ?_
 refine w_seq ?_
 refine w_seq ?_
 refine w_weak (weak_conv 4 rfl (conv_nil (k := .u8))) ?_
 refine g_reg hP hn ?_
 refine s_op k_mv ?_
 refine s_op k_len ?_
 refine s_op k_mv ?_
 refine s_nil trivial ?_
 refine n_wp ?_
 refine w_block ?_
 refine c_loop (fun m_ T H => ∃ i, i ≤ L.length ∧ m_ = L.length - i ∧ (∀ k, k < i → (L.getD k p0).2.length ≤ 2048) ∧ T = [(4, .s (.fzi .u8 (encL (L.take i)))), (15, .s (PARS L)), (16, .s (.int .i64 ((L.length : Nat) : Int))), (17, .s (.int .i64 ((i : Nat) : Int)))] ∧ H = []) (L.length) ⟨0, by omega, rfl, fun k hk => absurd hk (Nat.not_lt_zero k), by rw [encL_0], rfl⟩ (wk hE []) ?_
 rintro n_ T_ H_ ⟨i, hi, rfl, hbd, rfl, rfl⟩
 refine w_seq ?_
 refine g_reg hP hn ?_
 refine s_op k_lss ?_
 refine s_nil trivial ?_
 refine n_wp ?_
 refine w_seq ?_
 refine w_if rfl (fun h_t18 => ?_) (fun h_t18 => ?_)
 · skip
   refine w_skip ?_
   refine n_wp ?_
   refine w_seq ?_
   refine w_block ?_
   refine w_seq ?_
   refine g_reg hP hn ?_
   refine s_op k_ix ?_
   refine s_op k_ldP ?_
   refine s_op k_al ?_
   refine s_st k_st ?_
   refine s_nil trivial ?_
   refine n_wp ?_
   refine w_seq ?_
   refine w_seq ?_
   refine g_reg hP hn ?_
   refine s_op k_fa ?_
   refine s_op k_ld ?_
   refine s_op k_len ?_
   refine s_op k_gtr ?_
   refine s_nil trivial ?_
   refine n_wp ?_
   have h_b := hb2 i h_t18
   have ht1 := hty i
   have hE8 := encL_mod (L.take i)
   have hEl := encL_le2 L i hbd (by omega) (by omega)
   obtain ⟨hX, _⟩ := enc_fill (b := (L.getD i p0).2) (a := (L.getD i p0).2.length) (t := (L.getD i p0).1) hE8
   have hN : ((encL (L.take i) ++ be 2 (L.getD i p0).1).length + 2) = (encL (L.take i)).length + 4 := by simp [be_len]
   have hXN : ((encL (L.take i) ++ be 2 (L.getD i p0).1).length + 2) + (L.getD i p0).2.length = (encL (L.take i) ++ be 2 (L.getD i p0).1 ++ be 2 (L.getD i p0).2.length ++ (L.getD i p0).2).length := by rw [hX, hN]; omega
   have hXF : (encL (L.take i) ++ be 2 (L.getD i p0).1 ++ be 2 (L.getD i p0).2.length).length = ((encL (L.take i) ++ be 2 (L.getD i p0).1).length + 2) := by simp [be_len]
   have hB1 : (encL (L.take i) ++ be 2 (L.getD i p0).1).length = (encL (L.take i)).length + 2 := by simp [be_len]
   have hst := enc_step h_t18
   refine w_F rfl ?_ (decide_eq_false (by omega))
   refine w_skip ?_
   refine n_wp ?_
   refine w_seq ?_
   by_cases hb0 : 0 < (L.getD i p0).2.length
   · skip
     refine g_any hP hn ?_
     refine s_op k_mv ?_
     refine s_op k_fa ?_
     refine s_op k_ld ?_
     refine s_op k_cv ?_
     refine s_op (k_call [] (con := put_n (encL (L.take i)) (L.getD i p0).1 2 (by decide) (by decide) (by omega) (by omega))) ?_
     refine s_op k_fa ?_
     refine s_op k_ld ?_
     refine s_op k_len ?_
     refine s_op k_cv ?_
     refine s_op (k_call [] (con := put_m (encL (L.take i) ++ be 2 (L.getD i p0).1) (L.getD i p0).2.length 2 (by decide) (by decide) (by omega) (by omega) (by omega)) (v := .s (.slice 1 0 0 ((encL (L.take i) ++ be 2 (L.getD i p0).1).length + 2) ((encL (L.take i) ++ be 2 (L.getD i p0).1).length + 2))) (hv := rfl) (H' := [some ⟨true, PR (L.getD i p0)⟩, some ⟨true, [.ints .u8 ((encL (L.take i) ++ be 2 (L.getD i p0).1).length + 2) (encL (L.take i) ++ be 2 (L.getD i p0).1 ++ be 2 (L.getD i p0).2.length)]⟩]) (hH := rfl)) ?_
     refine s_op k_fa ?_
     refine s_op k_ld ?_
     refine s_op (k_apf (hl := hXF) (h0 := hb0) (c := (encL (L.take i) ++ be 2 (L.getD i p0).1 ++ be 2 (L.getD i p0).2.length ++ (L.getD i p0).2).length) (l' := (encL (L.take i) ++ be 2 (L.getD i p0).1 ++ be 2 (L.getD i p0).2.length ++ (L.getD i p0).2)) (hc := hXN) (hl' := by rfl) (hbig := by omega)) ?_
     refine s_op k_as ?_
     refine s_nil (by kernel_rfl) ?_
     refine n_wp ?_
     by_cases hm0 : (((encL (L.take i) ++ be 2 (L.getD i p0).1 ++ be 2 (L.getD i p0).2.length ++ (L.getD i p0).2).length + 8 - 1) / 8 * 8 - (encL (L.take i) ++ be 2 (L.getD i p0).1 ++ be 2 (L.getD i p0).2.length ++ (L.getD i p0).2).length) = 0
     · skip
       refine g_reg hP hn ?_
       refine s_op k_mv ?_
       refine s_op k_mv ?_
       refine s_op k_len ?_
       refine s_op (k_call [] (con := filled_n (encL (L.take i) ++ be 2 (L.getD i p0).1 ++ be 2 (L.getD i p0).2.length ++ (L.getD i p0).2).length (by omega))) ?_
       refine s_op k_mv ?_
       refine s_op k_len ?_
       refine s_op k_sub ?_
       refine s_op (k_apg0 (hm := hm0)) ?_
       refine s_op k_as ?_
       refine s_nil trivial ?_
       refine n_blo ?_
       refine n_wp ?_
       refine w_weak (frz_gro 4 (l' := encL (L.take (i + 1))) (hn := Nat.le_refl _) (hl := rfl) (hl' := by
        rw [List.take_length, ← hst]
        show _ = _ ++ List.replicate (((encL (L.take i) ++ be 2 (L.getD i p0).1 ++ be 2 (L.getD i p0).2.length ++ (L.getD i p0).2).length + 8 - 1) / 8 * 8 - (encL (L.take i) ++ be 2 (L.getD i p0).1 ++ be 2 (L.getD i p0).2.length ++ (L.getD i p0).2).length) 0
        rw [hm0]; simp)) ?_
       refine g_reg hP hn ?_
       refine s_op k_add ?_
       refine s_op k_mv ?_
       refine s_nil trivial ?_
       exact n_round (L.length - (i + 1)) (by omega) ⟨i + 1, by omega, rfl, fun k hk => (Nat.lt_succ_iff_lt_or_eq.1 hk).elim (hbd k) (fun e => e ▸ (by omega)), rfl, rfl⟩ (wk hE [])
     · skip
       refine g_reg hP hn ?_
       refine s_op k_mv ?_
       refine s_op k_mv ?_
       refine s_op k_len ?_
       refine s_op (k_call [] (con := filled_n (encL (L.take i) ++ be 2 (L.getD i p0).1 ++ be 2 (L.getD i p0).2.length ++ (L.getD i p0).2).length (by omega))) ?_
       refine s_op k_mv ?_
       refine s_op k_len ?_
       refine s_op k_sub ?_
       refine s_op (k_apgz (m := (((encL (L.take i) ++ be 2 (L.getD i p0).1 ++ be 2 (L.getD i p0).2.length ++ (L.getD i p0).2).length + 8 - 1) / 8 * 8 - (encL (L.take i) ++ be 2 (L.getD i p0).1 ++ be 2 (L.getD i p0).2.length ++ (L.getD i p0).2).length)) (hll := rfl) (hlq := Nat.le_refl _) (c := (encL (L.take (i + 1))).length) (l' := encL (L.take (i + 1))) (hc := app_len hst) (hl' := by
                 rw [List.take_length]; exact hst) (hbig := by omega)) ?_
       refine s_op k_as ?_
       refine s_nil trivial ?_
       refine n_blo ?_
       refine n_wp ?_
       refine w_weak (frz_gro 4 (l' := encL (L.take (i + 1))) (hn := Nat.le_refl _) (hl := rfl) (hl' := List.take_length)) ?_
       refine g_reg hP hn ?_
       refine s_op k_add ?_
       refine s_op k_mv ?_
       refine s_nil trivial ?_
       exact n_round (L.length - (i + 1)) (by omega) ⟨i + 1, by omega, rfl, fun k hk => (Nat.lt_succ_iff_lt_or_eq.1 hk).elim (hbd k) (fun e => e ▸ (by omega)), rfl, rfl⟩ (wk hE [])
   · skip
     have hbe : (L.getD i p0).2 = [] := List.eq_nil_of_length_eq_zero (by omega)
     refine g_any hP hn ?_
     refine s_op k_mv ?_
     refine s_op k_fa ?_
     refine s_op k_ld ?_
     refine s_op k_cv ?_
     refine s_op (k_call [] (con := put_n (encL (L.take i)) (L.getD i p0).1 2 (by decide) (by decide) (by omega) (by omega))) ?_
     refine s_op k_fa ?_
     refine s_op k_ld ?_
     refine s_op k_len ?_
     refine s_op k_cv ?_
     refine s_op (k_call [] (con := put_m (encL (L.take i) ++ be 2 (L.getD i p0).1) (L.getD i p0).2.length 2 (by decide) (by decide) (by omega) (by omega) (by omega)) (v := .s (.slice 1 0 0 ((encL (L.take i) ++ be 2 (L.getD i p0).1).length + 2) ((encL (L.take i) ++ be 2 (L.getD i p0).1).length + 2))) (hv := rfl) (H' := [some ⟨true, PR (L.getD i p0)⟩, some ⟨true, [.ints .u8 ((encL (L.take i) ++ be 2 (L.getD i p0).1).length + 2) (encL (L.take i) ++ be 2 (L.getD i p0).1 ++ be 2 (L.getD i p0).2.length)]⟩]) (hH := rfl)) ?_
     refine s_op k_fa ?_
     refine s_op k_ld ?_
     refine s_op (k_ap0 (hl := hbe)) ?_
     refine s_op k_as ?_
     refine s_nil (by kernel_rfl) ?_
     refine n_wp ?_
     refine g_reg hP hn ?_
     refine s_op k_mv ?_
     refine s_op k_mv ?_
     refine s_op k_len ?_
     refine s_op (k_call [] (con := filled_n ((encL (L.take i) ++ be 2 (L.getD i p0).1).length + 2) (by omega))) ?_
     refine s_op k_mv ?_
     refine s_op k_len ?_
     refine s_op k_sub ?_
     refine s_op (k_apz ((((encL (L.take i) ++ be 2 (L.getD i p0).1).length + 2) + 8 - 1) / 8 * 8 - ((encL (L.take i) ++ be 2 (L.getD i p0).1).length + 2)) (hl := hXF) (c := (encL (L.take (i + 1))).length) (l' := encL (L.take (i + 1))) (hc := app_len2 (enc_step0 h_t18 hbe) hXF) (hl' := enc_step0 h_t18 hbe) (hbig := by omega)) ?_
     refine s_op k_as ?_
     refine s_nil trivial ?_
     refine n_blo ?_
     refine n_wp ?_
     refine w_weak (frz_gro 4 (l' := encL (L.take (i + 1))) (hn := Nat.le_refl _) (hl := rfl) (hl' := List.take_length)) ?_
     refine g_reg hP hn ?_
     refine s_op k_add ?_
     refine s_op k_mv ?_
     refine s_nil trivial ?_
     exact n_round (L.length - (i + 1)) (by omega) ⟨i + 1, by omega, rfl, fun k hk => (Nat.lt_succ_iff_lt_or_eq.1 hk).elim (hbd k) (fun e => e ▸ (by omega)), rfl, rfl⟩ (wk hE [])
 · skip
   obtain rfl : i = L.length := Nat.le_antisymm hi (by omega)
   have hTL : L.take L.length = L := List.take_length
   rw [hTL]
   refine w_exit ?_
   refine x_thn ?_
   refine x_thn ?_
   refine x_eq ?_
   refine n_wp ?_
   refine w_seq ?_
   refine w_seq ?_
   refine g_reg hP hn ?_
   refine s_op k_mv ?_
   refine s_op k_len ?_
   refine s_op k_gtr ?_
   refine s_nil trivial ?_
   refine n_wp ?_
   refine w_F rfl ?_ (decide_eq_false (by omega))
   refine w_skip ?_
   refine n_wp ?_
   refine w_seq ?_
   refine g_reg hP hn ?_
   refine s_op k_mv ?_
   refine s_op (k_call [] (con := clip_f (encL L))) ?_
   refine s_op k_as ?_
   refine s_op k_as ?_
   refine s_nil trivial ?_
   refine n_wp ?_
   refine w_ret ?_
   exact d_ret hP hn hE [] (ret2 Tryz.results75 (by first | exact ri_tmp rfl | exact ri_tmpa rfl) (by first | exact ri_tmp rfl | exact ri_tmpa rfl))

set_option maxRecDepth 100000 in
set_option maxHeartbeats 4000000 in
theorem pput_limt (L : List Pc) (hLb : L.length ≤ 800000) (hty : ∀ k, (L.getD k p0).1 < 65536) (hall : ∀ i, i < L.length → lastT L i < (L.getD i p0).1) (hl : ¬ 16 < L.length) (hb2 : ∀ k, k < L.length → (L.getD k p0).2.length ≤ 2048) (htot : ¬ (encL L).length ≤ 2048) : Con Tryz.prog 75 [.s (PARS L)] [] (.tup [.s .nils, .s (.int .i64 3)]) [] := by
 refine con_in 52 Tryz.func75 rfl rfl (m := 0) rfl ?_
 intro E hP hn hE
 refine w_seq ?_
 refine g_reg hP hn ?_
 refine s_op k_as ?_
 refine s_op k_as ?_
 refine s_nil trivial ?_
 refine n_wp ?_
 refine w_seq ?_
 refine w_block ?_
 refine w_seq ?_
 refine g_reg hP hn ?_
 refine s_op k_mv ?_
 refine s_op (k_call [] (con := maypar_y L (by omega) hall)) ?_
 refine s_op k_not ?_
 refine s_op k_as ?_
 refine s_nil trivial ?_
 refine n_wp ?_
 refine w_F rfl ?_ 
 refine w_seq ?_
 refine g_reg hP hn ?_
 refine s_op k_mv ?_
 refine s_op k_len ?_
 refine s_op k_gtr ?_
 refine s_op k_as ?_
 refine s_nil trivial ?_
 refine n_wp ?_
 refine w_F rfl ?_ (decide_eq_false (by omega))
 refine w_skip ?_
 refine n_blo ?_
 refine n_wp ?_
 refine w_seq ?_
 refine g_reg hP hn ?_
 refine s_op k_as ?_
 refine s_nil trivial ?_
 refine n_wp ?_
 refine w_seq ?_
 refine w_seq ?_
 refine w_weak (weak_conv 4 rfl (conv_nil (k := .u8))) ?_
 refine g_reg hP hn ?_
 refine s_op k_mv ?_
 refine s_op k_len ?_
 refine s_op k_mv ?_
 refine s_nil trivial ?_
 refine n_wp ?_
 refine w_block ?_
 refine c_loop (fun m_ T H => ∃ i, i ≤ L.length ∧ m_ = L.length - i ∧ (∀ k, k < i → (L.getD k p0).2.length ≤ 2048) ∧ T = [(4, .s (.fzi .u8 (encL (L.take i)))), (15, .s (PARS L)), (16, .s (.int .i64 ((L.length : Nat) : Int))), (17, .s (.int .i64 ((i : Nat) : Int)))] ∧ H = []) (L.length) ⟨0, by omega, rfl, fun k hk => absurd hk (Nat.not_lt_zero k), by rw [encL_0], rfl⟩ (wk hE []) ?_
 rintro n_ T_ H_ ⟨i, hi, rfl, hbd, rfl, rfl⟩
 refine w_seq ?_
 refine g_reg hP hn ?_
 refine s_op k_lss ?_
 refine s_nil trivial ?_
 refine n_wp ?_
 refine w_seq ?_
 refine w_if rfl (fun h_t18 => ?_) (fun h_t18 => ?_)
 · skip
   refine w_skip ?_
   refine n_wp ?_
   refine w_seq ?_
   refine w_block ?_
   refine w_seq ?_
   refine g_reg hP hn ?_
   refine s_op k_ix ?_
   refine s_op k_ldP ?_
   refine s_op k_al ?_
   refine s_st k_st ?_
   refine s_nil trivial ?_
   refine n_wp ?_
   refine w_seq ?_
   refine w_seq ?_
   refine g_reg hP hn ?_
   refine s_op k_fa ?_
   refine s_op k_ld ?_
   refine s_op k_len ?_
   refine s_op k_gtr ?_
   refine s_nil trivial ?_
   refine n_wp ?_
   have h_b := hb2 i h_t18
   have ht1 := hty i
   have hE8 := encL_mod (L.take i)
   have hEl := encL_le2 L i hbd (by omega) (by omega)
   obtain ⟨hX, _⟩ := enc_fill (b := (L.getD i p0).2) (a := (L.getD i p0).2.length) (t := (L.getD i p0).1) hE8
   have hN : ((encL (L.take i) ++ be 2 (L.getD i p0).1).length + 2) = (encL (L.take i)).length + 4 := by simp [be_len]
   have hXN : ((encL (L.take i) ++ be 2 (L.getD i p0).1).length + 2) + (L.getD i p0).2.length = (encL (L.take i) ++ be 2 (L.getD i p0).1 ++ be 2 (L.getD i p0).2.length ++ (L.getD i p0).2).length := by rw [hX, hN]; omega
   have hXF : (encL (L.take i) ++ be 2 (L.getD i p0).1 ++ be 2 (L.getD i p0).2.length).length = ((encL (L.take i) ++ be 2 (L.getD i p0).1).length + 2) := by simp [be_len]
   have hB1 : (encL (L.take i) ++ be 2 (L.getD i p0).1).length = (encL (L.take i)).length + 2 := by simp [be_len]
   have hst := enc_step h_t18
   refine w_F rfl ?_ (decide_eq_false (by omega))
   refine w_skip ?_
   refine n_wp ?_
   refine w_seq ?_
   by_cases hb0 : 0 < (L.getD i p0).2.length
   · skip
     refine g_any hP hn ?_
     refine s_op k_mv ?_
     refine s_op k_fa ?_
     refine s_op k_ld ?_
     refine s_op k_cv ?_
     refine s_op (k_call [] (con := put_n (encL (L.take i)) (L.getD i p0).1 2 (by decide) (by decide) (by omega) (by omega))) ?_
     refine s_op k_fa ?_
     refine s_op k_ld ?_
     refine s_op k_len ?_
     refine s_op k_cv ?_
     refine s_op (k_call [] (con := put_m (encL (L.take i) ++ be 2 (L.getD i p0).1) (L.getD i p0).2.length 2 (by decide) (by decide) (by omega) (by omega) (by omega)) (v := .s (.slice 1 0 0 ((encL (L.take i) ++ be 2 (L.getD i p0).1).length + 2) ((encL (L.take i) ++ be 2 (L.getD i p0).1).length + 2))) (hv := rfl) (H' := [some ⟨true, PR (L.getD i p0)⟩, some ⟨true, [.ints .u8 ((encL (L.take i) ++ be 2 (L.getD i p0).1).length + 2) (encL (L.take i) ++ be 2 (L.getD i p0).1 ++ be 2 (L.getD i p0).2.length)]⟩]) (hH := rfl)) ?_
     refine s_op k_fa ?_
     refine s_op k_ld ?_
     refine s_op (k_apf (hl := hXF) (h0 := hb0) (c := (encL (L.take i) ++ be 2 (L.getD i p0).1 ++ be 2 (L.getD i p0).2.length ++ (L.getD i p0).2).length) (l' := (encL (L.take i) ++ be 2 (L.getD i p0).1 ++ be 2 (L.getD i p0).2.length ++ (L.getD i p0).2)) (hc := hXN) (hl' := by rfl) (hbig := by omega)) ?_
     refine s_op k_as ?_
     refine s_nil (by kernel_rfl) ?_
     refine n_wp ?_
     by_cases hm0 : (((encL (L.take i) ++ be 2 (L.getD i p0).1 ++ be 2 (L.getD i p0).2.length ++ (L.getD i p0).2).length + 8 - 1) / 8 * 8 - (encL (L.take i) ++ be 2 (L.getD i p0).1 ++ be 2 (L.getD i p0).2.length ++ (L.getD i p0).2).length) = 0
     · skip
       refine g_reg hP hn ?_
       refine s_op k_mv ?_
       refine s_op k_mv ?_
       refine s_op k_len ?_
       refine s_op (k_call [] (con := filled_n (encL (L.take i) ++ be 2 (L.getD i p0).1 ++ be 2 (L.getD i p0).2.length ++ (L.getD i p0).2).length (by omega))) ?_
       refine s_op k_mv ?_
       refine s_op k_len ?_
       refine s_op k_sub ?_
       refine s_op (k_apg0 (hm := hm0)) ?_
       refine s_op k_as ?_
       refine s_nil trivial ?_
       refine n_blo ?_
       refine n_wp ?_
       refine w_weak (frz_gro 4 (l' := encL (L.take (i + 1))) (hn := Nat.le_refl _) (hl := rfl) (hl' := by
        rw [List.take_length, ← hst]
        show _ = _ ++ List.replicate (((encL (L.take i) ++ be 2 (L.getD i p0).1 ++ be 2 (L.getD i p0).2.length ++ (L.getD i p0).2).length + 8 - 1) / 8 * 8 - (encL (L.take i) ++ be 2 (L.getD i p0).1 ++ be 2 (L.getD i p0).2.length ++ (L.getD i p0).2).length) 0
        rw [hm0]; simp)) ?_
       refine g_reg hP hn ?_
       refine s_op k_add ?_
       refine s_op k_mv ?_
       refine s_nil trivial ?_
       exact n_round (L.length - (i + 1)) (by omega) ⟨i + 1, by omega, rfl, fun k hk => (Nat.lt_succ_iff_lt_or_eq.1 hk).elim (hbd k) (fun e => e ▸ (by omega)), rfl, rfl⟩ (wk hE [])
     · skip
       refine g_reg hP hn ?_
       refine s_op k_mv ?_
       refine s_op k_mv ?_
       refine s_op k_len ?_
       refine s_op (k_call [] (con := filled_n (encL (L.take i) ++ be 2 (L.getD i p0).1 ++ be 2 (L.getD i p0).2.length ++ (L.getD i p0).2).length (by omega))) ?_
       refine s_op k_mv ?_
       refine s_op k_len ?_
       refine s_op k_sub ?_
       refine s_op (k_apgz (m := (((encL (L.take i) ++ be 2 (L.getD i p0).1 ++ be 2 (L.getD i p0).2.length ++ (L.getD i p0).2).length + 8 - 1) / 8 * 8 - (encL (L.take i) ++ be 2 (L.getD i p0).1 ++ be 2 (L.getD i p0).2.length ++ (L.getD i p0).2).length)) (hll := rfl) (hlq := Nat.le_refl _) (c := (encL (L.take (i + 1))).length) (l' := encL (L.take (i + 1))) (hc := app_len hst) (hl' := by
                 rw [List.take_length]; exact hst) (hbig := by omega)) ?_
       refine s_op k_as ?_
       refine s_nil trivial ?_
       refine n_blo ?_
       refine n_wp ?_
       refine w_weak (frz_gro 4 (l' := encL (L.take (i + 1))) (hn := Nat.le_refl _) (hl := rfl) (hl' := List.take_length)) ?_
       refine g_reg hP hn ?_
       refine s_op k_add ?_
       refine s_op k_mv ?_
       refine s_nil trivial ?_
       exact n_round (L.length - (i + 1)) (by omega) ⟨i + 1, by omega, rfl, fun k hk => (Nat.lt_succ_iff_lt_or_eq.1 hk).elim (hbd k) (fun e => e ▸ (by omega)), rfl, rfl⟩ (wk hE [])
   · skip
     have hbe : (L.getD i p0).2 = [] := List.eq_nil_of_length_eq_zero (by omega)
     refine g_any hP hn ?_
     refine s_op k_mv ?_
     refine s_op k_fa ?_
     refine s_op k_ld ?_
     refine s_op k_cv ?_
     refine s_op (k_call [] (con := put_n (encL (L.take i)) (L.getD i p0).1 2 (by decide) (by decide) (by omega) (by omega))) ?_
     refine s_op k_fa ?_
     refine s_op k_ld ?_
     refine s_op k_len ?_
     refine s_op k_cv ?_
     refine s_op (k_call [] (con := put_m (encL (L.take i) ++ be 2 (L.getD i p0).1) (L.getD i p0).2.length 2 (by decide) (by decide) (by omega) (by omega) (by omega)) (v := .s (.slice 1 0 0 ((encL (L.take i) ++ be 2 (L.getD i p0).1).length + 2) ((encL (L.take i) ++ be 2 (L.getD i p0).1).length + 2))) (hv := rfl) (H' := [some ⟨true, PR (L.getD i p0)⟩, some ⟨true, [.ints .u8 ((encL (L.take i) ++ be 2 (L.getD i p0).1).length + 2) (encL (L.take i) ++ be 2 (L.getD i p0).1 ++ be 2 (L.getD i p0).2.length)]⟩]) (hH := rfl)) ?_
     refine s_op k_fa ?_
     refine s_op k_ld ?_
     refine s_op (k_ap0 (hl := hbe)) ?_
     refine s_op k_as ?_
     refine s_nil (by kernel_rfl) ?_
     refine n_wp ?_
     refine g_reg hP hn ?_
     refine s_op k_mv ?_
     refine s_op k_mv ?_
     refine s_op k_len ?_
     refine s_op (k_call [] (con := filled_n ((encL (L.take i) ++ be 2 (L.getD i p0).1).length + 2) (by omega))) ?_
     refine s_op k_mv ?_
     refine s_op k_len ?_
     refine s_op k_sub ?_
     refine s_op (k_apz ((((encL (L.take i) ++ be 2 (L.getD i p0).1).length + 2) + 8 - 1) / 8 * 8 - ((encL (L.take i) ++ be 2 (L.getD i p0).1).length + 2)) (hl := hXF) (c := (encL (L.take (i + 1))).length) (l' := encL (L.take (i + 1))) (hc := app_len2 (enc_step0 h_t18 hbe) hXF) (hl' := enc_step0 h_t18 hbe) (hbig := by omega)) ?_
     refine s_op k_as ?_
     refine s_nil trivial ?_
     refine n_blo ?_
     refine n_wp ?_
     refine w_weak (frz_gro 4 (l' := encL (L.take (i + 1))) (hn := Nat.le_refl _) (hl := rfl) (hl' := List.take_length)) ?_
     refine g_reg hP hn ?_
     refine s_op k_add ?_
     refine s_op k_mv ?_
     refine s_nil trivial ?_
     exact n_round (L.length - (i + 1)) (by omega) ⟨i + 1, by omega, rfl, fun k hk => (Nat.lt_succ_iff_lt_or_eq.1 hk).elim (hbd k) (fun e => e ▸ (by omega)), rfl, rfl⟩ (wk hE [])
 · skip
   obtain rfl : i = L.length := Nat.le_antisymm hi (by omega)
   have hTL : L.take L.length = L := List.take_length
   rw [hTL]
   refine w_exit ?_
   refine x_thn ?_
   refine x_thn ?_
   refine x_eq ?_
   refine n_wp ?_
   refine w_seq ?_
   refine w_seq ?_
   refine g_reg hP hn ?_
   refine s_op k_mv ?_
   refine s_op k_len ?_
   refine s_op k_gtr ?_
   refine s_nil trivial ?_
   refine n_wp ?_
   refine w_T rfl ?_ (decide_eq_true (by omega))
   refine w_seq ?_
   refine g_reg hP hn ?_
   refine s_op k_as ?_
   refine s_op k_as ?_
   refine s_nil trivial ?_
   refine n_wp ?_
   refine w_ret ?_
   refine r_thn ?_
   exact d_ret hP hn hE [] (ret2 Tryz.results75 (by first | exact ri_tmp rfl | exact ri_tmpa rfl) (by first | exact ri_tmp rfl | exact ri_tmpa rfl))

set_option maxRecDepth 100000 in
set_option maxHeartbeats 4000000 in
theorem pput_limb (L : List Pc) (hLb : L.length ≤ 800000) (hty : ∀ k, (L.getD k p0).1 < 65536) (hall : ∀ i, i < L.length → lastT L i < (L.getD i p0).1) (hl : ¬ 16 < L.length) (j : Nat) (hj : j < L.length) (hjb : ¬ (L.getD j p0).2.length ≤ 2048) : Con Tryz.prog 75 [.s (PARS L)] [] (.tup [.s .nils, .s (.int .i64 3)]) [] := by
 refine con_in 52 Tryz.func75 rfl rfl (m := 0) rfl ?_
 intro E hP hn hE
 refine w_seq ?_
 refine g_reg hP hn ?_
 refine s_op k_as ?_
 refine s_op k_as ?_
 refine s_nil trivial ?_
 refine n_wp ?_
 refine w_seq ?_
 refine w_block ?_
 refine w_seq ?_
 refine g_reg hP hn ?_
 refine s_op k_mv ?_
 refine s_op (k_call [] (con := maypar_y L (by omega) hall)) ?_
 refine s_op k_not ?_
 refine s_op k_as ?_
 refine s_nil trivial ?_
 refine n_wp ?_
 refine w_F rfl ?_ 
 refine w_seq ?_
 refine g_reg hP hn ?_
 refine s_op k_mv ?_
 refine s_op k_len ?_
 refine s_op k_gtr ?_
 refine s_op k_as ?_
 refine s_nil trivial ?_
 refine n_wp ?_
 refine w_F rfl ?_ (decide_eq_false (by omega))
 refine w_skip ?_
 refine n_blo ?_
 refine n_wp ?_
 refine w_seq ?_
 refine g_reg hP hn ?_
 refine s_op k_as ?_
 refine s_nil trivial ?_
 refine n_wp ?_
 refine w_seq ?_
 refine w_seq ?_
 refine w_weak (weak_conv 4 rfl (conv_nil (k := .u8))) ?_
 refine g_reg hP hn ?_
 refine s_op k_mv ?_
 refine s_op k_len ?_
 refine s_op k_mv ?_
 refine s_nil trivial ?_
 refine n_wp ?_
 refine w_block ?_
 refine c_loop (fun m_ T H => ∃ i, i ≤ L.length ∧ m_ = L.length - i ∧ (∀ k, k < i → (L.getD k p0).2.length ≤ 2048) ∧ T = [(4, .s (.fzi .u8 (encL (L.take i)))), (15, .s (PARS L)), (16, .s (.int .i64 ((L.length : Nat) : Int))), (17, .s (.int .i64 ((i : Nat) : Int)))] ∧ H = []) (L.length) ⟨0, by omega, rfl, fun k hk => absurd hk (Nat.not_lt_zero k), by rw [encL_0], rfl⟩ (wk hE []) ?_
 rintro n_ T_ H_ ⟨i, hi, rfl, hbd, rfl, rfl⟩
 refine w_seq ?_
 refine g_reg hP hn ?_
 refine s_op k_lss ?_
 refine s_nil trivial ?_
 refine n_wp ?_
 refine w_seq ?_
 have hij : i ≤ j := Nat.le_of_not_lt fun h => hjb (hbd j h)
 have h_t18 : i < L.length := by omega
 refine w_T rfl ?_ (decide_eq_true h_t18)
 refine w_skip ?_
 refine n_wp ?_
 refine w_seq ?_
 refine w_block ?_
 refine w_seq ?_
 refine g_reg hP hn ?_
 refine s_op k_ix ?_
 refine s_op k_ldP ?_
 refine s_op k_al ?_
 refine s_st k_st ?_
 refine s_nil trivial ?_
 refine n_wp ?_
 refine w_seq ?_
 refine w_seq ?_
 refine g_reg hP hn ?_
 refine s_op k_fa ?_
 refine s_op k_ld ?_
 refine s_op k_len ?_
 refine s_op k_gtr ?_
 refine s_nil trivial ?_
 refine n_wp ?_
 refine w_if rfl (fun h_t24 => ?_) (fun h_t24 => ?_)
 · skip
   refine w_seq ?_
   refine g_reg hP hn ?_
   refine s_op k_as ?_
   refine s_op k_as ?_
   refine s_nil trivial ?_
   refine n_wp ?_
   refine w_ret ?_
   refine r_thn ?_
   refine r_blo ?_
   refine r_thn ?_
   refine r_thn ?_
   refine r_blo ?_
   refine r_thn ?_
   exact d_ret hP hn hE [] (ret2 Tryz.results75 (by first | exact ri_tmp rfl | exact ri_tmpa rfl) (by first | exact ri_tmp rfl | exact ri_tmpa rfl))
 · skip
   have h_b : (L.getD i p0).2.length ≤ 2048 := by omega
   have ht1 := hty i
   have hE8 := encL_mod (L.take i)
   have hEl := encL_le2 L i hbd (by omega) (by omega)
   obtain ⟨hX, _⟩ := enc_fill (b := (L.getD i p0).2) (a := (L.getD i p0).2.length) (t := (L.getD i p0).1) hE8
   have hN : ((encL (L.take i) ++ be 2 (L.getD i p0).1).length + 2) = (encL (L.take i)).length + 4 := by simp [be_len]
   have hXN : ((encL (L.take i) ++ be 2 (L.getD i p0).1).length + 2) + (L.getD i p0).2.length = (encL (L.take i) ++ be 2 (L.getD i p0).1 ++ be 2 (L.getD i p0).2.length ++ (L.getD i p0).2).length := by rw [hX, hN]; omega
   have hXF : (encL (L.take i) ++ be 2 (L.getD i p0).1 ++ be 2 (L.getD i p0).2.length).length = ((encL (L.take i) ++ be 2 (L.getD i p0).1).length + 2) := by simp [be_len]
   have hB1 : (encL (L.take i) ++ be 2 (L.getD i p0).1).length = (encL (L.take i)).length + 2 := by simp [be_len]
   have hst := enc_step h_t18
   refine w_skip ?_
   refine n_wp ?_
   refine w_seq ?_
   by_cases hb0 : 0 < (L.getD i p0).2.length
   · skip
     refine g_any hP hn ?_
     refine s_op k_mv ?_
     refine s_op k_fa ?_
     refine s_op k_ld ?_
     refine s_op k_cv ?_
     refine s_op (k_call [] (con := put_n (encL (L.take i)) (L.getD i p0).1 2 (by decide) (by decide) (by omega) (by omega))) ?_
     refine s_op k_fa ?_
     refine s_op k_ld ?_
     refine s_op k_len ?_
     refine s_op k_cv ?_
     refine s_op (k_call [] (con := put_m (encL (L.take i) ++ be 2 (L.getD i p0).1) (L.getD i p0).2.length 2 (by decide) (by decide) (by omega) (by omega) (by omega)) (v := .s (.slice 1 0 0 ((encL (L.take i) ++ be 2 (L.getD i p0).1).length + 2) ((encL (L.take i) ++ be 2 (L.getD i p0).1).length + 2))) (hv := rfl) (H' := [some ⟨true, PR (L.getD i p0)⟩, some ⟨true, [.ints .u8 ((encL (L.take i) ++ be 2 (L.getD i p0).1).length + 2) (encL (L.take i) ++ be 2 (L.getD i p0).1 ++ be 2 (L.getD i p0).2.length)]⟩]) (hH := rfl)) ?_
     refine s_op k_fa ?_
     refine s_op k_ld ?_
     refine s_op (k_apf (hl := hXF) (h0 := hb0) (c := (encL (L.take i) ++ be 2 (L.getD i p0).1 ++ be 2 (L.getD i p0).2.length ++ (L.getD i p0).2).length) (l' := (encL (L.take i) ++ be 2 (L.getD i p0).1 ++ be 2 (L.getD i p0).2.length ++ (L.getD i p0).2)) (hc := hXN) (hl' := by rfl) (hbig := by omega)) ?_
     refine s_op k_as ?_
     refine s_nil (by kernel_rfl) ?_
     refine n_wp ?_
     by_cases hm0 : (((encL (L.take i) ++ be 2 (L.getD i p0).1 ++ be 2 (L.getD i p0).2.length ++ (L.getD i p0).2).length + 8 - 1) / 8 * 8 - (encL (L.take i) ++ be 2 (L.getD i p0).1 ++ be 2 (L.getD i p0).2.length ++ (L.getD i p0).2).length) = 0
     · skip
       refine g_reg hP hn ?_
       refine s_op k_mv ?_
       refine s_op k_mv ?_
       refine s_op k_len ?_
       refine s_op (k_call [] (con := filled_n (encL (L.take i) ++ be 2 (L.getD i p0).1 ++ be 2 (L.getD i p0).2.length ++ (L.getD i p0).2).length (by omega))) ?_
       refine s_op k_mv ?_
       refine s_op k_len ?_
       refine s_op k_sub ?_
       refine s_op (k_apg0 (hm := hm0)) ?_
       refine s_op k_as ?_
       refine s_nil trivial ?_
       refine n_blo ?_
       refine n_wp ?_
       refine w_weak (frz_gro 4 (l' := encL (L.take (i + 1))) (hn := Nat.le_refl _) (hl := rfl) (hl' := by
        rw [List.take_length, ← hst]
        show _ = _ ++ List.replicate (((encL (L.take i) ++ be 2 (L.getD i p0).1 ++ be 2 (L.getD i p0).2.length ++ (L.getD i p0).2).length + 8 - 1) / 8 * 8 - (encL (L.take i) ++ be 2 (L.getD i p0).1 ++ be 2 (L.getD i p0).2.length ++ (L.getD i p0).2).length) 0
        rw [hm0]; simp)) ?_
       refine g_reg hP hn ?_
       refine s_op k_add ?_
       refine s_op k_mv ?_
       refine s_nil trivial ?_
       exact n_round (L.length - (i + 1)) (by omega) ⟨i + 1, by omega, rfl, fun k hk => (Nat.lt_succ_iff_lt_or_eq.1 hk).elim (hbd k) (fun e => e ▸ (by omega)), rfl, rfl⟩ (wk hE [])
     · skip
       refine g_reg hP hn ?_
       refine s_op k_mv ?_
       refine s_op k_mv ?_
       refine s_op k_len ?_
       refine s_op (k_call [] (con := filled_n (encL (L.take i) ++ be 2 (L.getD i p0).1 ++ be 2 (L.getD i p0).2.length ++ (L.getD i p0).2).length (by omega))) ?_
       refine s_op k_mv ?_
       refine s_op k_len ?_
       refine s_op k_sub ?_
       refine s_op (k_apgz (m := (((encL (L.take i) ++ be 2 (L.getD i p0).1 ++ be 2 (L.getD i p0).2.length ++ (L.getD i p0).2).length + 8 - 1) / 8 * 8 - (encL (L.take i) ++ be 2 (L.getD i p0).1 ++ be 2 (L.getD i p0).2.length ++ (L.getD i p0).2).length)) (hll := rfl) (hlq := Nat.le_refl _) (c := (encL (L.take (i + 1))).length) (l' := encL (L.take (i + 1))) (hc := app_len hst) (hl' := by
                 rw [List.take_length]; exact hst) (hbig := by omega)) ?_
       refine s_op k_as ?_
       refine s_nil trivial ?_
       refine n_blo ?_
       refine n_wp ?_
       refine w_weak (frz_gro 4 (l' := encL (L.take (i + 1))) (hn := Nat.le_refl _) (hl := rfl) (hl' := List.take_length)) ?_
       refine g_reg hP hn ?_
       refine s_op k_add ?_
       refine s_op k_mv ?_
       refine s_nil trivial ?_
       exact n_round (L.length - (i + 1)) (by omega) ⟨i + 1, by omega, rfl, fun k hk => (Nat.lt_succ_iff_lt_or_eq.1 hk).elim (hbd k) (fun e => e ▸ (by omega)), rfl, rfl⟩ (wk hE [])
   · skip
     have hbe : (L.getD i p0).2 = [] := List.eq_nil_of_length_eq_zero (by omega)
     refine g_any hP hn ?_
     refine s_op k_mv ?_
     refine s_op k_fa ?_
     refine s_op k_ld ?_
     refine s_op k_cv ?_
     refine s_op (k_call [] (con := put_n (encL (L.take i)) (L.getD i p0).1 2 (by decide) (by decide) (by omega) (by omega))) ?_
     refine s_op k_fa ?_
     refine s_op k_ld ?_
     refine s_op k_len ?_
     refine s_op k_cv ?_
     refine s_op (k_call [] (con := put_m (encL (L.take i) ++ be 2 (L.getD i p0).1) (L.getD i p0).2.length 2 (by decide) (by decide) (by omega) (by omega) (by omega)) (v := .s (.slice 1 0 0 ((encL (L.take i) ++ be 2 (L.getD i p0).1).length + 2) ((encL (L.take i) ++ be 2 (L.getD i p0).1).length + 2))) (hv := rfl) (H' := [some ⟨true, PR (L.getD i p0)⟩, some ⟨true, [.ints .u8 ((encL (L.take i) ++ be 2 (L.getD i p0).1).length + 2) (encL (L.take i) ++ be 2 (L.getD i p0).1 ++ be 2 (L.getD i p0).2.length)]⟩]) (hH := rfl)) ?_
     refine s_op k_fa ?_
     refine s_op k_ld ?_
     refine s_op (k_ap0 (hl := hbe)) ?_
     refine s_op k_as ?_
     refine s_nil (by kernel_rfl) ?_
     refine n_wp ?_
     refine g_reg hP hn ?_
     refine s_op k_mv ?_
     refine s_op k_mv ?_
     refine s_op k_len ?_
     refine s_op (k_call [] (con := filled_n ((encL (L.take i) ++ be 2 (L.getD i p0).1).length + 2) (by omega))) ?_
     refine s_op k_mv ?_
     refine s_op k_len ?_
     refine s_op k_sub ?_
     refine s_op (k_apz ((((encL (L.take i) ++ be 2 (L.getD i p0).1).length + 2) + 8 - 1) / 8 * 8 - ((encL (L.take i) ++ be 2 (L.getD i p0).1).length + 2)) (hl := hXF) (c := (encL (L.take (i + 1))).length) (l' := encL (L.take (i + 1))) (hc := app_len2 (enc_step0 h_t18 hbe) hXF) (hl' := enc_step0 h_t18 hbe) (hbig := by omega)) ?_
     refine s_op k_as ?_
     refine s_nil trivial ?_
     refine n_blo ?_
     refine n_wp ?_
     refine w_weak (frz_gro 4 (l' := encL (L.take (i + 1))) (hn := Nat.le_refl _) (hl := rfl) (hl' := List.take_length)) ?_
     refine g_reg hP hn ?_
     refine s_op k_add ?_
     refine s_op k_mv ?_
     refine s_nil trivial ?_
     exact n_round (L.length - (i + 1)) (by omega) ⟨i + 1, by omega, rfl, fun k hk => (Nat.lt_succ_iff_lt_or_eq.1 hk).elim (hbd k) (fun e => e ▸ (by omega)), rfl, rfl⟩ (wk hE [])

end Go.Proofs.X
end

section
open Go Go.Bx Go.Proofs
namespace Go.Proofs.X
attribute [local irreducible] be gN ckS encL chk pk0 pkB
theorem cat5_m (k : Nat) (A B : List Int) (Z : List Int) (hA : A.length = 16) (hB : B.length = 16) (hE : Z.length ≤ 800000) : Con Tryz.prog 76 [.s (ROWS [pkH k (40 + Z.length), List.replicate 4 0, A, B, Z])] [] (.s (.gro 0 1 (40 + Z.length))) [some ⟨true, [.ints .u8 (40 + Z.length) (pk0 k A B Z)]⟩] := by
 have hl := pk0_len (k := k) (E := Z) hA hB
 have e := pk_flat k A B Z
 have h := cat_m [pkH k (40 + Z.length), List.replicate 4 0, A, B, Z] (by rw [e, hl]; omega) (by rw [e, hl]; omega) (Nat.le_of_ble_eq_true rfl)
 rw [e, hl] at h
 exact h

set_option maxRecDepth 100000 in
set_option maxHeartbeats 4000000 in
theorem kput_kind (k : Nat) (A B : List Int) (L : List Pc) (hk : mayK k = false) : Con Tryz.prog 34 [.agg (PKT k A B L)] [] (.tup [.s .nils, .s (.int .i64 1)]) [] := by
 refine con_in 52 Tryz.func34 rfl rfl (m := 0) rfl ?_
 intro E hP hn hE
 refine w_seq ?_
 refine g_reg hP hn ?_
 refine s_op k_bxf ?_
 refine s_op k_as ?_
 refine s_op k_as ?_
 refine s_nil trivial ?_
 refine n_wp ?_
 refine w_seq ?_
 refine w_seq ?_
 refine g_reg hP hn ?_
 refine s_op k_fa ?_
 refine s_op k_ld ?_
 refine s_op (k_call [] (con := may_c k)) ?_
 refine s_op k_not ?_
 refine s_nil trivial ?_
 refine n_wp ?_
 refine w_T rfl ?_ (by rw [hk]; rfl)
 refine w_seq ?_
 refine g_reg hP hn ?_
 refine s_op k_as ?_
 refine s_op k_as ?_
 refine s_nil trivial ?_
 refine n_wp ?_
 refine w_ret ?_
 refine r_thn ?_
 exact d_ret hP hn hE [] (ret2 Tryz.results34 (by first | exact ri_tmp rfl | exact ri_tmpa rfl) (by first | exact ri_tmp rfl | exact ri_tmpa rfl))

set_option maxRecDepth 100000 in
set_option maxHeartbeats 4000000 in
theorem kput_e (k : Nat) (A B : List Int) (L : List Pc) (hk : mayK k = true) (e : Int) (he : e ≠ 0) (hc : Con Tryz.prog 75 [.s (PARS L)] [] (.tup [.s .nils, .s (.int .i64 e)]) [])  : Con Tryz.prog 34 [.agg (PKT k A B L)] [] (.tup [.s .nils, .s (.int .i64 e)]) [] := by
 refine con_in 52 Tryz.func34 rfl rfl (m := 0) rfl ?_
 intro E hP hn hE
 refine w_seq ?_
 refine g_reg hP hn ?_
 refine s_op k_bxf ?_
 refine s_op k_as ?_
 refine s_op k_as ?_
 refine s_nil trivial ?_
 refine n_wp ?_
 refine w_seq ?_
 refine w_seq ?_
 refine g_reg hP hn ?_
 refine s_op k_fa ?_
 refine s_op k_ld ?_
 refine s_op (k_call [] (con := may_c k)) ?_
 refine s_op k_not ?_
 refine s_nil trivial ?_
 refine n_wp ?_
 refine w_F rfl ?_ (by rw [hk]; rfl)
 refine w_skip ?_
 refine n_wp ?_
 refine w_seq ?_
 refine g_reg hP hn ?_
 refine s_op k_fa ?_
 refine s_op k_ld ?_
 refine s_op (k_call [] (con := hc)) ?_
 refine s_op k_mv ?_
 refine s_op k_ex ?_
 refine s_op k_ex ?_
 refine s_op k_as ?_
 refine s_op k_as ?_
 refine s_nil trivial ?_
 refine n_wp ?_
 refine w_seq ?_
 refine w_block ?_
 refine w_seq ?_
 refine g_reg hP hn ?_
 refine s_op k_mv ?_
 refine s_op (l_bin rfl rfl (b_neq (r := true) (decide_eq_true he))) ?_
 refine s_op k_as ?_
 refine s_nil trivial ?_
 refine n_wp ?_
 refine w_T rfl ?_ 
 refine w_seq ?_
 refine g_reg hP hn ?_
 refine s_op k_mv ?_
 refine s_op k_as ?_
 refine s_op k_as ?_
 refine s_nil trivial ?_
 refine n_wp ?_
 refine w_ret ?_
 refine r_blo ?_
 refine r_thn ?_
 exact d_ret hP hn hE [] (ret2 Tryz.results34 (by first | exact ri_tmp rfl | exact ri_tmpa rfl) (by first | exact ri_tmp rfl | exact ri_tmpa rfl))

set_option maxRecDepth 100000 in
set_option maxHeartbeats 4000000 in
theorem kput_lim (k : Nat) (A B : List Int) (L : List Pc) (hk : mayK k = true) (Z : List Int) (hEb : Z.length ≤ 2048) (hc : Con Tryz.prog 75 [.s (PARS L)] [] (.tup [.s (.fzi .u8 Z), .s (.int .i64 0)]) []) (hl : ¬ 40 + Z.length ≤ 2048) : Con Tryz.prog 34 [.agg (PKT k A B L)] [] (.tup [.s .nils, .s (.int .i64 3)]) [] := by
 refine con_in 52 Tryz.func34 rfl rfl (m := 0) rfl ?_
 intro E hP hn hE
 refine w_seq ?_
 refine g_reg hP hn ?_
 refine s_op k_bxf ?_
 refine s_op k_as ?_
 refine s_op k_as ?_
 refine s_nil trivial ?_
 refine n_wp ?_
 refine w_seq ?_
 refine w_seq ?_
 refine g_reg hP hn ?_
 refine s_op k_fa ?_
 refine s_op k_ld ?_
 refine s_op (k_call [] (con := may_c k)) ?_
 refine s_op k_not ?_
 refine s_nil trivial ?_
 refine n_wp ?_
 refine w_F rfl ?_ (by rw [hk]; rfl)
 refine w_skip ?_
 refine n_wp ?_
 refine w_seq ?_
 refine g_reg hP hn ?_
 refine s_op k_fa ?_
 refine s_op k_ld ?_
 refine s_op (k_call [] (con := hc)) ?_
 refine s_op k_mv ?_
 refine s_op k_ex ?_
 refine s_op k_ex ?_
 refine s_op k_as ?_
 refine s_op k_as ?_
 refine s_nil trivial ?_
 refine n_wp ?_
 refine w_seq ?_
 refine w_block ?_
 refine w_seq ?_
 refine g_reg hP hn ?_
 refine s_op k_mv ?_
 refine s_op (l_bin rfl rfl (b_neq (r := false) (decide_eq_false (fun h => h rfl)))) ?_
 refine s_op k_as ?_
 refine s_nil trivial ?_
 refine n_wp ?_
 refine w_F rfl ?_ 
 refine w_seq ?_
 refine g_reg hP hn ?_
 refine s_op k_mv ?_
 refine s_op k_len ?_
 refine s_op k_add ?_
 refine s_op k_gtr ?_
 refine s_op k_as ?_
 refine s_nil trivial ?_
 refine n_wp ?_
 refine w_T rfl ?_ 
 refine w_seq ?_
 refine g_reg hP hn ?_
 refine s_op k_as ?_
 refine s_op k_as ?_
 refine s_nil trivial ?_
 refine n_wp ?_
 refine w_ret ?_
 refine r_blo ?_
 refine r_thn ?_
 exact d_ret hP hn hE [] (ret2 Tryz.results34 (by first | exact ri_tmp rfl | exact ri_tmpa rfl) (by first | exact ri_tmp rfl | exact ri_tmpa rfl))

set_option maxRecDepth 100000 in
set_option maxHeartbeats 4000000 in
theorem kput_y (k : Nat) (A B : List Int) (L : List Pc) (hk : mayK k = true) (Z : List Int) (hEb : Z.length ≤ 2048) (hc : Con Tryz.prog 75 [.s (PARS L)] [] (.tup [.s (.fzi .u8 Z), .s (.int .i64 0)]) []) (hl : 40 + Z.length ≤ 2048) (hA : A.length = 16) (hB : B.length = 16) (hU : U8' (pk0 k A B Z)) : Con Tryz.prog 34 [.agg (PKT k A B L)] [] (.tup [.s (.fzi .u8 (pkB k A B Z)), .s (.int .i64 0)]) [] := by
 refine con_in 52 Tryz.func34 rfl rfl (m := 0) rfl ?_
 intro E hP hn hE
 refine w_seq ?_
 refine g_reg hP hn ?_
 refine s_op k_bxf ?_
 refine s_op k_as ?_
 refine s_op k_as ?_
 refine s_nil trivial ?_
 refine n_wp ?_
 refine w_seq ?_
 refine w_seq ?_
 refine g_reg hP hn ?_
 refine s_op k_fa ?_
 refine s_op k_ld ?_
 refine s_op (k_call [] (con := may_c k)) ?_
 refine s_op k_not ?_
 refine s_nil trivial ?_
 refine n_wp ?_
 refine w_F rfl ?_ (by rw [hk]; rfl)
 refine w_skip ?_
 refine n_wp ?_
 refine w_seq ?_
 refine g_reg hP hn ?_
 refine s_op k_fa ?_
 refine s_op k_ld ?_
 refine s_op (k_call [] (con := hc)) ?_
 refine s_op k_mv ?_
 refine s_op k_ex ?_
 refine s_op k_ex ?_
 refine s_op k_as ?_
 refine s_op k_as ?_
 refine s_nil trivial ?_
 refine n_wp ?_
 refine w_seq ?_
 refine w_block ?_
 refine w_seq ?_
 refine g_reg hP hn ?_
 refine s_op k_mv ?_
 refine s_op (l_bin rfl rfl (b_neq (r := false) (decide_eq_false (fun h => h rfl)))) ?_
 refine s_op k_as ?_
 refine s_nil trivial ?_
 refine n_wp ?_
 refine w_F rfl ?_ 
 refine w_seq ?_
 refine g_reg hP hn ?_
 refine s_op k_mv ?_
 refine s_op k_len ?_
 refine s_op k_add ?_
 refine s_op k_gtr ?_
 refine s_op k_as ?_
 refine s_nil trivial ?_
 refine n_wp ?_
 refine w_F rfl ?_ 
 refine w_skip ?_
 refine n_blo ?_
 refine n_wp ?_
 refine w_seq ?_
 have hl0 := pk0_len (k := k) (E := Z) hA hB
 have hl1 := pkB_len (k := k) (E := Z) hA hB
 have hck := chk_lt (pk0 k A B Z)
 refine g_reg hP hn ?_
 refine s_op k_fa ?_
 refine s_op k_ld ?_
 refine s_op k_bsf ?_
 refine s_op k_mv ?_
 refine s_op k_len ?_
 refine s_op k_add ?_
 refine s_op k_cv ?_
 refine s_op (k_call [] (con := put_n [1, (k : Int)] (40 + Z.length) 2 (by decide) (by decide) (by omega) (Nat.le_of_ble_eq_true rfl))) ?_
 refine s_op k_as ?_
 refine s_nil trivial ?_
 refine n_wp ?_
 refine w_seq ?_
 refine g_any hP hn ?_
 refine s_op k_mv ?_
 refine s_op (k_mkF (c := 4)) ?_
 refine s_op k_fa ?_
 refine s_op k_slp ?_
 refine s_op k_fa ?_
 refine s_op k_slp ?_
 refine s_op k_mv ?_
 refine s_op (k_bsz [.fzi .u8 (pkH k (40 + Z.length)), .fzi .u8 (List.replicate 4 0), .fzi .u8 A, .fzi .u8 B, .fzi .u8 Z]) ?_
 refine s_op (k_call [] (con := cat5_m k A B Z hA hB (by omega)) (v := .s (.gro 4 1 (40 + Z.length))) (hv := rfl) (H' := [none, none, none, none, some ⟨true, [.ints .u8 (40 + Z.length) (pk0 k A B Z)]⟩]) (hH := rfl)) ?_
 refine s_op k_as ?_
 refine s_nil (by kernel_rfl) ?_
 refine n_wp ?_
 refine w_seq ?_
 refine g_any hP hn ?_
 refine s_op k_mv ?_
 refine s_op (k_slgx 4) ?_
 refine s_op k_mv ?_
 refine s_op (k_tmp 4 (h := k_call [] (con := check2_n (pk0 k A B Z) hU (by omega)) (hargs := by exact .cons rfl (conv_gro (id := 4) (k := ⟨false, [.ints .u8 (40 + Z.length) (pk0 k A B Z)]⟩) rfl rfl rfl (Nat.le_refl _) hl0 (List.take_of_length_le (Nat.le_of_eq hl0))) .nil))) ?_
 refine s_op k_cv ?_
 refine s_op (k_call [] (con := put_n [] (chk (pk0 k A B Z)) 2 (by decide) (by decide) (by omega) (by decide))) ?_
 refine s_op (k_cpx 2 (hm := be_len _ _) (zz := pkB k A B Z) (hz := pkB_spl hA hB rfl)) ?_
 refine s_nil (by kernel_rfl) ?_
 refine n_wp ?_
 refine w_seq ?_
 refine g_reg hP hn ?_
 refine s_op k_mv ?_
 refine s_op (k_call [4] (con := clip_g (40 + Z.length) (40 + Z.length) (pkB k A B Z))) ?_
 refine s_op k_as ?_
 refine s_op k_as ?_
 refine s_nil trivial ?_
 refine n_wp ?_
 refine w_weak (frz_gro 2 (l' := pkB k A B Z) (hn := Nat.le_refl _) (hl := hl1) (hl' := List.take_of_length_le (Nat.le_of_eq hl1))) ?_
 refine w_ret ?_
 exact d_ret hP hn hE [] (ret2 Tryz.results34 (by first | exact ri_tmp rfl | exact ri_tmpa rfl) (by first | exact ri_tmp rfl | exact ri_tmpa rfl))

end Go.Proofs.X
end

section
/- Types and functions of covers, as instances. -/
open Go Go.Bx Go.Proofs
namespace Go.Proofs.X
instance : Clb Tryz.prog 33 := ⟨_, Tryz.func33, by kernel_rfl, rfl⟩
instance : Clb Tryz.prog 10 := ⟨_, Tryz.func10, by kernel_rfl, rfl⟩
instance : Clb Tryz.prog 20 := ⟨_, Tryz.func20, by kernel_rfl, rfl⟩
instance : Clb Tryz.prog 58 := ⟨_, Tryz.func58, by kernel_rfl, rfl⟩
instance : Clb Tryz.prog 8 := ⟨_, Tryz.func8, by kernel_rfl, rfl⟩
instance : Clb Tryz.prog 22 := ⟨_, Tryz.func22, by kernel_rfl, rfl⟩
instance : Clb Tryz.prog 19 := ⟨_, Tryz.func19, by kernel_rfl, rfl⟩
instance : Clb Tryz.prog 21 := ⟨_, Tryz.func21, by kernel_rfl, rfl⟩
instance : Clb Tryz.prog 54 := ⟨_, Tryz.func54, by kernel_rfl, rfl⟩
instance : Clb Tryz.prog 7 := ⟨_, Tryz.func7, by kernel_rfl, rfl⟩
instance : Clb Tryz.prog 18 := ⟨_, Tryz.func18, by kernel_rfl, rfl⟩
instance : Clb Tryz.prog 94 := ⟨_, Tryz.func94, by kernel_rfl, rfl⟩
instance : Clb Tryz.prog 56 := ⟨_, Tryz.func56, by kernel_rfl, rfl⟩
instance : Clb Tryz.prog 95 := ⟨_, Tryz.func95, by kernel_rfl, rfl⟩
instance : Clb Tryz.prog 96 := ⟨_, Tryz.func96, by kernel_rfl, rfl⟩
instance : Und Tryz.prog 147 (.func #[38] #[69] false) := ⟨Tryz.underlying147⟩
instance : Sz Tryz.prog 147 1 := ⟨Tryz.sizeOf147⟩
instance : Ag Tryz.prog 147 false := ⟨Tryz.isAgg147⟩
instance : Zv Tryz.prog 147 [.one (.val .nilFunc)] := ⟨_, Tryz.zeroValue147, by kernel_rfl⟩
instance : Inf Tryz.prog 147 Tryz.t147 := ⟨by kernel_rfl⟩
end Go.Proofs.X
end

section
/- What is covered, as lists. No program. -/
open Go Go.Bx
namespace Go.Proofs.X
/-- Pieces as they come: types of two bytes, bytes, not too many. -/
structure WfL (L : List Pc) : Prop where
  len : L.length ≤ 700000
  all : ∀ p ∈ L, p.1 < 65536 ∧ U8' p.2 ∧ p.2.length ≤ 900000
theorem getD_mem {L : List Pc} {k : Nat} (h : k < L.length) : L.getD k p0 ∈ L := by
  rw [List.getD_eq_getElem?_getD, List.getElem?_eq_getElem h]; exact List.getElem_mem _
theorem getD_out {L : List Pc} {k : Nat} (h : L.length ≤ k) : L.getD k p0 = p0 := by
  rw [List.getD_eq_getElem?_getD, List.getElem?_eq_none h]; rfl
theorem WfL.get {L : List Pc} (h : WfL L) (k : Nat) : (L.getD k p0).1 < 65536 ∧ U8' (L.getD k p0).2 ∧ (L.getD k p0).2.length ≤ 900000 := by
  rcases Nat.lt_or_ge k L.length with hk | hk
  · exact h.all _ (getD_mem hk)
  · rw [getD_out hk]; exact ⟨by decide, fun i => ⟨by simp, by simp⟩, by decide⟩
theorem WfL.keep {L : List Pc} (h : WfL L) (pr : Nat → Bool) : WfL (keepL pr L) :=
  ⟨Nat.le_trans (keepL_le pr L) h.len, fun p hp => h.all p (List.mem_filter.1 hp).1⟩
theorem WfL.ins {L : List Pc} (h : WfL L) (hl : L.length ≤ 1000) (i : Nat) {p : Pc} (hp : p.1 < 65536 ∧ U8' p.2 ∧ p.2.length ≤ 900000) : WfL (insL L i p) := by
  refine ⟨?_, fun q hq => ?_⟩
  · simp [insL]; omega
  · unfold insL at hq
    rcases List.mem_append.1 hq with h1 | h1
    · exact h.all q (List.mem_of_mem_take h1)
    · rcases List.mem_cons.1 h1 with rfl | h2
      · exact hp
      · exact h.all q (List.mem_of_mem_drop h2)
theorem U8'_nil : U8' [] := fun i => ⟨by simp, by simp⟩
theorem U8'_encP {p : Pc} (h : U8' p.2) : U8' (encP p) := U8'_app (U8'_app (U8'_app (U8'_be _ _) (U8'_be _ _)) h) (U8'_rep _)
theorem U8'_encL : ∀ {L : List Pc}, (∀ p ∈ L, U8' p.2) → U8' (encL L)
  | [], _ => U8'_nil
  | p :: r, h => by
    have : encL (p :: r) = encP p ++ encL r := by simp [encL]
    rw [this]
    exact U8'_app (U8'_encP (h p (by simp))) (U8'_encL fun q hq => h q (by simp [hq]))
/-- A packet's pieces that may be put. -/
structure okP (k : Nat) (L : List Pc) : Prop where
  kind : mayK k = true
  up : ∀ i, i < L.length → lastT L i < (L.getD i p0).1
  n : L.length ≤ 16
  bd : ∀ k, k < L.length → (L.getD k p0).2.length ≤ 2048
  tot : 40 + (encL L).length ≤ 2048
/-- Signed of a Ready: a puzzle without its first number. -/
def strip (p : Pc) : Pc := if okPz p.2 && decide (p.1 = 257) then (p.1, [pzb p.2] ++ be 8 (pzg p.2) ++ zs (List.replicate 32 0)) else p
theorem strip_t {p : Pc} (h : (okPz p.2 && decide (p.1 = 257)) = true) : strip p = (p.1, [pzb p.2] ++ be 8 (pzg p.2) ++ zs (List.replicate 32 0)) := if_pos h
theorem strip_f {p : Pc} (h : (okPz p.2 && decide (p.1 = 257)) = false) : strip p = p := by unfold strip; rw [h]; rfl
theorem strip_ty (p : Pc) : (strip p).1 = p.1 := by unfold strip; split <;> rfl
theorem strip_len (p : Pc) : (strip p).2.length = p.2.length := by
  unfold strip
  split
  · rename_i h
    simp only [okPz, Bool.and_eq_true, decide_eq_true_eq] at h
    simp [be_len, h.1.1, zs_len]
  · rfl
theorem zs_rep (n : Nat) : zs (List.replicate n 0) = List.replicate n 0 := by simp [zs]
theorem pzb_u8 {B : List Int} (h : U8' B) : 0 ≤ pzb B ∧ pzb B < 256 := by
  unfold pzb; split
  · exact h 0
  · exact ⟨by decide, by decide⟩
theorem pzg_lt {B : List Int} (h : U8' B) : pzg B < 18446744073709551616 := by
  unfold pzg; split
  · exact gN_lt (U8'_take (U8'_drop h 1) _) 8
  · decide
theorem strip_u8 {p : Pc} (h : U8' p.2) : U8' (strip p).2 := by
  unfold strip
  split
  · refine U8'_app (U8'_app (fun i => ?_) (U8'_be _ _)) (by rw [zs_rep]; exact U8'_rep _)
    match i with
    | 0 => exact pzb_u8 h
    | i + 1 => exact ⟨by simp, by simp⟩
  · exact h
def stF (L : List Pc) (i : Nat) : Nat → Pc := fun k => if k < i then strip (L.getD k p0) else L.getD k p0
theorem stF_0 (L : List Pc) : stF L 0 = kpF L := by
  funext k; unfold stF kpF; rw [if_neg (Nat.not_lt_zero k)]
theorem stF_n (L : List Pc) : stF L L.length = kpF (L.map strip) := by
  funext k; unfold stF kpF
  split
  · rename_i h
    rw [List.getD_eq_getElem?_getD, List.getD_eq_getElem?_getD, List.getElem?_map, List.getElem?_eq_getElem h]; rfl
  · rename_i h
    rw [getD_out (by omega), getD_out (by simp; omega)]
theorem pkt_map (A B : List Int) (M : List Pc) : PKT 2 A B (M.map strip) = [.one (.int .u8 2), .ints .u8 16 A, .ints .u8 16 B, .one (.fz M.length 2 (gP (kpF (M.map strip))))] := by
  show [Seg.one (.int .u8 2), .ints .u8 16 A, .ints .u8 16 B, .one (.fz (M.map strip).length 2 (gP (kpF (M.map strip))))] = _
  rw [List.length_map]
theorem stF_at (L : List Pc) (i : Nat) : stF L i i = L.getD i p0 := by unfold stF; rw [if_neg (Nat.lt_irrefl i)]
theorem stF_s (L : List Pc) (i k : Nat) (h : k ≠ i) : stF L (i + 1) k = stF L i k := by
  unfold stF
  by_cases h1 : k < i
  · rw [if_pos h1, if_pos (by omega)]
  · rw [if_neg h1, if_neg (by omega)]
theorem stF_no {L : List Pc} {i : Nat} (h : (okPz (L.getD i p0).2 && decide ((L.getD i p0).1 = 257)) = false) : stF L (i + 1) = stF L i := by
  funext k
  by_cases hk : k = i
  · subst hk
    rw [stF_at]; unfold stF; rw [if_pos (Nat.lt_succ_self _), strip_f h]
  · exact stF_s L i k hk
theorem stF_g {L : List Pc} {i : Nat} (h : (okPz (L.getD i p0).2 && decide ((L.getD i p0).1 = 257)) = true) : gP (stF L (i + 1)) i 1 = .fzi .u8 ([pzb (L.getD i p0).2] ++ be 8 (pzg (L.getD i p0).2) ++ zs (List.replicate 32 0)) := by
  show cellsF (PR (stF L (i + 1) i)) 1 = _
  unfold stF
  rw [if_pos (Nat.lt_succ_self _), strip_t h]; rfl
theorem stF_ge (L : List Pc) (i c : Nat) : ∀ a b, ¬(a = i ∧ b = 1) → a < c → b < 2 → gP (stF L (i + 1)) a b = gP (stF L i) a b := fun a b h _ hb => by
  show cellsF (PR (stF L (i + 1) a)) b = cellsF (PR (stF L i a)) b
  by_cases ha : a = i
  · subst ha
    have hb0 : b = 0 := by omega
    subst hb0
    rw [stF_at]
    unfold stF
    rw [if_pos (Nat.lt_succ_self _)]
    show SV.int .u16 _ = SV.int .u16 _
    rw [strip_ty]
  · rw [stF_s L i a ha]
/-- What is below signatures. -/
def sgL (L : List Pc) : List Pc := keepL (fun x => decide (61697 ≤ x)) L
theorem sgL_le (L : List Pc) : (sgL L).length ≤ L.length := keepL_le _ L
theorem WfL.sgL {L : List Pc} (h : WfL L) : WfL (sgL L) := h.keep _
/-- Of what a packet's signature is. -/
def sgK (k : Nat) (L : List Pc) : List Pc := if k = 2 then (sgL L).map strip else sgL L
def sgT (k : Nat) (B : List Int) : List Int := if k = 2 then zs (List.replicate 16 0) else B
theorem WfL.strip {L : List Pc} (h : WfL L) : WfL (L.map strip) :=
  ⟨by simp [h.len], fun p hp => by
    obtain ⟨q, hq, rfl⟩ := List.mem_map.1 hp
    have := h.all q hq
    exact ⟨by rw [strip_ty]; exact this.1, strip_u8 this.2.1, by rw [strip_len]; exact this.2.2⟩⟩
theorem WfL.sgK {L : List Pc} (h : WfL L) (k : Nat) : WfL (sgK k L) := by
  unfold X.sgK
  split
  · exact (h.keep _).strip
  · exact h.keep _
end Go.Proofs.X
end

section
open Go Go.Bx Go.Proofs
namespace Go.Proofs.X
attribute [local irreducible] be gN ckS encL chk pk0 pkB
theorem pput_no (L : List Pc) (hw : WfL L) (h : ¬ ((∀ i, i < L.length → lastT L i < (L.getD i p0).1) ∧ L.length ≤ 16 ∧ (∀ k, k < L.length → (L.getD k p0).2.length ≤ 2048) ∧ (encL L).length ≤ 2048)) : ∃ e : Int, e ≠ 0 ∧ Con Tryz.prog 75 [.s (PARS L)] [] (.tup [.s .nils, .s (.int .i64 e)]) [] := by
 have hty := fun k => (hw.get k).1
 have hLb : L.length ≤ 800000 := by have := hw.len; omega
 by_cases h1 : ∀ i, i < L.length → lastT L i < (L.getD i p0).1
 · by_cases h2 : L.length ≤ 16
   · by_cases h3 : ∀ k, k < L.length → (L.getD k p0).2.length ≤ 2048
     · exact ⟨3, by decide, pput_limt L hLb hty h1 (by omega) h3 (fun h4 => h ⟨h1, h2, h3, h4⟩)⟩
     · obtain ⟨j, hj⟩ := Classical.not_forall.1 h3
       obtain ⟨hj1, hj2⟩ := Classical.not_imp.1 hj
       exact ⟨3, by decide, pput_limb L hLb hty h1 (by omega) j hj1 hj2⟩
   · exact ⟨3, by decide, pput_lim L hLb hty h1 (by omega)⟩
 · obtain ⟨j, hj⟩ := Classical.not_forall.1 h1
   obtain ⟨hj1, hj2⟩ := Classical.not_imp.1 hj
   exact ⟨1, by decide, pput_arg L hLb hty j hj1 hj2⟩
theorem kput_ok (k : Nat) (A B : List Int) (L : List Pc) (hw : WfL L) (ok : okP k L) (hk : k < 256) (hA : A.length = 16) (hB : B.length = 16) (hUA : U8' A) (hUB : U8' B) : Con Tryz.prog 34 [.agg (PKT k A B L)] [] (.tup [.s (.fzi .u8 (pkB k A B (encL L))), .s (.int .i64 0)]) [] :=
 kput_y k A B L ok.kind (encL L) (by have := ok.tot; omega) (pput_y L (by have := hw.len; omega) (fun k => (hw.get k).1) ok.up (by have := ok.n; omega) ok.bd (by have := ok.tot; omega)) ok.tot hA hB (U8'_pk0 hk hUA hUB (U8'_encL fun p hp => (hw.all p hp).2.1))
theorem kput_no (k : Nat) (A B : List Int) (L : List Pc) (hw : WfL L) (h : ¬ okP k L) : ∃ e : Int, e ≠ 0 ∧ Con Tryz.prog 34 [.agg (PKT k A B L)] [] (.tup [.s .nils, .s (.int .i64 e)]) [] := by
 cases hk : mayK k with
 | false => exact ⟨1, by decide, kput_kind k A B L hk⟩
 | true =>
   by_cases h1 : (∀ i, i < L.length → lastT L i < (L.getD i p0).1) ∧ L.length ≤ 16 ∧ (∀ k, k < L.length → (L.getD k p0).2.length ≤ 2048) ∧ (encL L).length ≤ 2048
   · obtain ⟨a, b, c, d⟩ := h1
     exact ⟨3, by decide, kput_lim k A B L hk (encL L) d (pput_y L (by have := hw.len; omega) (fun k => (hw.get k).1) a (by omega) c d) (fun h4 => h ⟨hk, a, b, c, h4⟩)⟩
   · obtain ⟨e, he, hc⟩ := pput_no L hw h1
     exact ⟨e, he, kput_e k A B L hk e he hc⟩

set_option maxRecDepth 100000 in
set_option maxHeartbeats 4000000 in
theorem below_f (L : List Pc) (t : Nat) (hLb : L.length ≤ 800000) (hbd : ∀ i, i < L.length → (L.getD i p0).2.length ≤ 1000000)  : Con Tryz.prog 12 [.s (PARS L), .s (.int .u16 ((t : Nat) : Int))] [] (.s (PARS (keepL (fun x => decide (t ≤ x)) L))) [] := by
 refine con_in 10 Tryz.func12 rfl rfl (m := 0) rfl ?_
 intro E hP hn hE
 refine w_seq ?_
 refine g_reg hP hn ?_
 refine s_op k_bxs ?_
 refine s_op k_as ?_
 refine s_nil trivial ?_
 refine n_wp ?_
 refine w_seq ?_
 refine g_reg hP hn ?_
 refine s_op k_mv ?_
 refine s_op (k_call [] (con := twins_c L (by omega) hbd)) ?_
 refine s_op (k_fnN [(.fptr 1 (cellsF [.one (.int .u16 ((t : Nat) : Int))]) 0 0)]) ?_
 refine s_op (k_call [1] (con := del_c (fun x => decide (t ≤ x)) (below1_n t) L (by omega))) ?_
 refine s_op (k_call [1] (con := clp_n _ _ _ _ (Nat.le_succ_of_le (keepL_le _ L)))) ?_
 refine s_op k_as ?_
 refine s_nil trivial ?_
 refine n_wp ?_
 refine w_ret ?_
 exact d_retw hP hn (r_tmp Tryz.results12) ((frz_slW 0 (gP (kpF (keepL (fun x => decide (t ≤ x)) L))) (hn := Nat.le_succ_of_le (keepL_le _ L)) (hc := Nat.le_refl _) (hg := fun _ _ _ _ => rfl)).trans (wk hE []))

set_option maxRecDepth 100000 in
set_option maxHeartbeats 4000000 in
theorem below16_c (k : Nat) (A B : List Int) (L : List Pc) (t : Nat) (hw : WfL L)  : Con Tryz.prog 33 [.agg (PKT k A B L), .s (.int .u16 ((t : Nat) : Int))] [] (.agg (PKT k A B (keepL (fun x => decide (t ≤ x)) L))) [] := by
 refine con_in 11 Tryz.func33 rfl rfl (m := 0) rfl ?_
 intro E hP hn hE
 refine w_seq ?_
 refine g_reg hP hn ?_
 refine s_op k_bx ?_
 refine s_op k_al ?_
 refine s_nil trivial ?_
 refine n_wp ?_
 refine w_seq ?_
 refine g_reg hP hn ?_
 refine s_op k_fa ?_
 refine s_op k_ld ?_
 refine s_op k_mv ?_
 refine s_op (k_call [] (con := below_f L t (by have := hw.len; omega) (fun i _ => by have := (hw.get i).2.2; omega))) ?_
 refine s_op k_fa ?_
 refine s_st k_st ?_
 refine s_nil trivial ?_
 refine n_wp ?_
 refine w_seq ?_
 refine g_reg hP hn ?_
 refine s_op k_ld ?_
 refine s_st k_st ?_
 refine s_nil trivial ?_
 refine n_wp ?_
 refine w_ret ?_
 exact d_ret hP hn hE [] (r_cell Tryz.results33)

set_option maxRecDepth 100000 in
set_option maxHeartbeats 4000000 in
theorem below16_m (k : Nat) (A B : List Int) (L : List Pc) (t : Nat) (hw : WfL L)  : Con Tryz.prog 33 [.agg (PKT k A B L), .s (.int .u16 ((t : Nat) : Int))] [] (.agg [.one (.int .u8 ((k : Nat) : Int)), .ints .u8 16 A, .ints .u8 16 B, .one (.slice 0 0 0 (keepL (fun x => decide (t ≤ x)) L).length (keepL (fun x => decide (t ≤ x)) L).length)]) [some ⟨true, [.rows (L.length + 1) 2 (gP (kpF (keepL (fun x => decide (t ≤ x)) L)))]⟩] := by
 refine con_in 11 Tryz.func33 rfl rfl (m := 0) rfl ?_
 intro E hP hn hE
 refine w_seq ?_
 refine g_reg hP hn ?_
 refine s_op k_bx ?_
 refine s_op k_al ?_
 refine s_nil trivial ?_
 refine n_wp ?_
 refine w_seq ?_
 refine g_reg hP hn ?_
 refine s_op k_fa ?_
 refine s_op k_ld ?_
 refine s_op k_mv ?_
 refine s_op (k_call [] (con := below_m L t (by have := hw.len; omega) (fun i _ => by have := (hw.get i).2.2; omega))) ?_
 refine s_op k_fa ?_
 refine s_st k_st ?_
 refine s_nil trivial ?_
 refine n_wp ?_
 refine w_seq ?_
 refine g_reg hP hn ?_
 refine s_op k_ld ?_
 refine s_st k_st ?_
 refine s_nil trivial ?_
 refine n_wp ?_
 refine w_ret ?_
 exact d_ret hP hn hE [2] (r_cell Tryz.results33)

theorem below16_s (k : Nat) (A B : List Int) (L : List Pc) (hw : WfL L) : Con Tryz.prog 33 [.agg (PKT k A B L), .s (.int .u16 ((61697 : Nat) : Int))] [] (.agg (PKT k A B (sgL L))) [] := below16_c k A B L 61697 hw
theorem below16_sm (k : Nat) (A B : List Int) (L : List Pc) (hw : WfL L) : Con Tryz.prog 33 [.agg (PKT k A B L), .s (.int .u16 ((61697 : Nat) : Int))] [] (.agg [.one (.int .u8 ((k : Nat) : Int)), .ints .u8 16 A, .ints .u8 16 B, .one (.slice 0 0 0 (sgL L).length (sgL L).length)]) [some ⟨true, [.rows (L.length + 1) 2 (gP (kpF (sgL L)))]⟩] := below16_m k A B L 61697 hw

end Go.Proofs.X
end

section
open Go Go.Bx Go.Proofs
namespace Go.Proofs.X
attribute [local irreducible] be gN ckS encL chk pk0 pkB okPz pzb pzg pzi pze sgL
set_option maxRecDepth 100000 in
set_option maxHeartbeats 4000000 in
theorem cont1_y (k : Nat) (A B : List Int) (L : List Pc) (hw : WfL L) (hk2 : k ≠ 2) (Y : List Int) (hc : Con Tryz.prog 34 [.agg (PKT k A B (sgL L))] [] (.tup [.s (.fzi .u8 Y), .s (.int .i64 0)]) []) : Con Tryz.prog 10 [.agg (PKT k A B L)] [] (.tup [.s (.fzi .u8 Y), .s (.int .i64 0)]) [] := by
 refine con_in 54 Tryz.func10 rfl rfl (m := 0) rfl ?_
 intro E hP hn hE
 refine w_seq ?_
 refine g_reg hP hn ?_
 refine s_op k_bx ?_
 refine s_op k_as ?_
 refine s_op k_as ?_
 refine s_nil trivial ?_
 refine n_wp ?_
 refine w_seq ?_
 refine g_reg hP hn ?_
 refine s_op k_ld ?_
 refine s_op (k_call [] (con := below16_s k A B L hw)) ?_
 refine s_st k_st ?_
 refine s_nil trivial ?_
 refine n_wp ?_
 refine w_seq ?_
 refine w_seq ?_
 refine g_reg hP hn ?_
 refine s_op k_fa ?_
 refine s_op k_ld ?_
 refine s_op (l_bin rfl rfl (b_neq (r := true) (decide_eq_true (by omega)))) ?_
 refine s_nil trivial ?_
 refine n_wp ?_
 refine w_T rfl ?_ 
 refine w_seq ?_
 refine g_reg hP hn ?_
 refine s_op k_ld ?_
 refine s_op (k_call [] (con := hc)) ?_
 refine s_op k_ex ?_
 refine s_op k_ex ?_
 refine s_op k_as ?_
 refine s_op k_as ?_
 refine s_nil trivial ?_
 refine n_wp ?_
 refine w_ret ?_
 refine r_thn ?_
 exact d_ret hP hn hE [] (ret2 Tryz.results10 (by first | exact ri_tmp rfl | exact ri_tmpa rfl) (by first | exact ri_tmp rfl | exact ri_tmpa rfl))

set_option maxRecDepth 100000 in
set_option maxHeartbeats 4000000 in
theorem cont1_n (k : Nat) (A B : List Int) (L : List Pc) (hw : WfL L) (hk2 : k ≠ 2) (e : Int) (hc : Con Tryz.prog 34 [.agg (PKT k A B (sgL L))] [] (.tup [.s .nils, .s (.int .i64 e)]) []) : Con Tryz.prog 10 [.agg (PKT k A B L)] [] (.tup [.s .nils, .s (.int .i64 e)]) [] := by
 refine con_in 54 Tryz.func10 rfl rfl (m := 0) rfl ?_
 intro E hP hn hE
 refine w_seq ?_
 refine g_reg hP hn ?_
 refine s_op k_bx ?_
 refine s_op k_as ?_
 refine s_op k_as ?_
 refine s_nil trivial ?_
 refine n_wp ?_
 refine w_seq ?_
 refine g_reg hP hn ?_
 refine s_op k_ld ?_
 refine s_op (k_call [] (con := below16_s k A B L hw)) ?_
 refine s_st k_st ?_
 refine s_nil trivial ?_
 refine n_wp ?_
 refine w_seq ?_
 refine w_seq ?_
 refine g_reg hP hn ?_
 refine s_op k_fa ?_
 refine s_op k_ld ?_
 refine s_op (l_bin rfl rfl (b_neq (r := true) (decide_eq_true (by omega)))) ?_
 refine s_nil trivial ?_
 refine n_wp ?_
 refine w_T rfl ?_ 
 refine w_seq ?_
 refine g_reg hP hn ?_
 refine s_op k_ld ?_
 refine s_op (k_call [] (con := hc)) ?_
 refine s_op k_ex ?_
 refine s_op k_ex ?_
 refine s_op k_as ?_
 refine s_op k_as ?_
 refine s_nil trivial ?_
 refine n_wp ?_
 refine w_ret ?_
 refine r_thn ?_
 exact d_ret hP hn hE [] (ret2 Tryz.results10 (by first | exact ri_tmp rfl | exact ri_tmpa rfl) (by first | exact ri_tmp rfl | exact ri_tmpa rfl))

set_option maxRecDepth 100000 in
set_option maxHeartbeats 4000000 in
theorem cont2_y (A B : List Int) (L : List Pc) (hw : WfL L) (hA : A.length = 16) (Y : List Int) (hc : Con Tryz.prog 34 [.agg [.one (.int .u8 2), .ints .u8 16 A, .ints .u8 16 (zs (List.replicate 16 0)), .one (.fz (sgL L).length 2 (gP (kpF (((sgL L).map strip)))))]] [] (.tup [.s (.fzi .u8 Y), .s (.int .i64 0)]) []) : Con Tryz.prog 10 [.agg (PKT 2 A B L)] [] (.tup [.s (.fzi .u8 Y), .s (.int .i64 0)]) [] := by
 refine con_in 54 Tryz.func10 rfl rfl (m := 0) rfl ?_
 intro E hP hn hE
 have hnL : (sgL L).length ≤ L.length + 1 := Nat.le_succ_of_le (sgL_le L)
 have hnb := hw.len
 refine w_seq ?_
 refine g_reg hP hn ?_
 refine s_op k_bx ?_
 refine s_op k_as ?_
 refine s_op k_as ?_
 refine s_nil trivial ?_
 refine n_wp ?_
 refine w_seq ?_
 refine g_reg hP hn ?_
 refine s_op k_ld ?_
 refine s_op (k_call [] (con := below16_sm 2 A B L hw) (v := .agg [.one (.int .u8 2), .ints .u8 16 A, .ints .u8 16 B, .one (.slice 1 0 0 (sgL L).length (sgL L).length)]) (hv := rfl) (H' := [some ⟨true, PKT 2 A B L⟩, some ⟨true, [.rows (L.length + 1) 2 (gP (kpF (sgL L)))]⟩]) (hH := rfl)) ?_
 refine s_st k_st ?_
 refine s_nil trivial ?_
 refine n_wp ?_
 refine w_seq ?_
 refine w_seq ?_
 refine g_reg hP hn ?_
 refine s_op k_fa ?_
 refine s_op k_ld ?_
 refine s_op k_neq ?_
 refine s_nil trivial ?_
 refine n_wp ?_
 refine w_F rfl ?_ rfl
 refine w_skip ?_
 refine n_wp ?_
 refine w_seq ?_
 refine g_reg hP hn ?_
 refine s_op k_bd ?_
 refine s_op k_fa ?_
 refine s_st k_st ?_
 refine s_nil trivial ?_
 refine n_wp ?_
 refine w_seq ?_
 refine w_seq ?_
 refine g_reg hP hn ?_
 refine s_op k_fa ?_
 refine s_op k_ld ?_
 refine s_op k_len ?_
 refine s_op k_mv ?_
 refine s_nil trivial ?_
 refine n_wp ?_
 refine w_block ?_
 refine c_loop (fun m_ T H => ∃ i, i ≤ (sgL L).length ∧ m_ = (sgL L).length - i ∧ T = [(1, .s (.ptr 0 0 0)), (20, .s (.slice 1 0 0 (sgL L).length (sgL L).length)), (21, .s (.int .i64 (((sgL L).length : Nat) : Int))), (22, .s (.int .i64 ((i : Nat) : Int)))] ∧ H = [some ⟨true, [.one (.int .u8 2), .ints .u8 16 A, .ints .u8 16 (zs (List.replicate 16 0)), .one (.slice 1 0 0 (sgL L).length (sgL L).length)]⟩, some ⟨true, [.rows (L.length + 1) 2 (gP (stF (sgL L) i))]⟩]) ((sgL L).length) ⟨0, by omega, rfl, rfl, by rw [stF_0]⟩ (wk hE [0, 1]) ?_
 rintro n_ T_ H_ ⟨i, hi, rfl, rfl, rfl⟩
 refine w_seq ?_
 refine g_reg hP hn ?_
 refine s_op k_lss ?_
 refine s_nil trivial ?_
 refine n_wp ?_
 refine w_seq ?_
 refine w_if rfl (fun h_t23 => ?_) (fun h_t23 => ?_)
 · skip
   have hU2 := (hw.sgL.get i).2.1
   refine w_skip ?_
   refine n_wp ?_
   refine w_seq ?_
   refine w_block ?_
   refine w_seq ?_
   refine g_reg hP hn ?_
   refine s_op k_mv ?_
   refine s_op k_ix ?_
   refine s_op (k_ldM i) ?_
   refine s_op k_al ?_
   refine s_op k_as ?_
   refine s_st k_st ?_
   refine s_nil trivial ?_
   refine n_wp ?_
   refine w_seq ?_
   rw [stF_at]
   refine g_reg hP hn ?_
   refine s_op k_fa ?_
   refine s_op k_ld ?_
   refine s_op (k_call [] (con := getpz_c ((sgL L).getD i p0).2 hU2)) ?_
   refine s_op k_mv ?_
   refine s_op k_ex ?_
   refine s_op k_ex ?_
   refine s_op k_al ?_
   refine s_st k_st ?_
   refine s_op k_as ?_
   refine s_nil trivial ?_
   refine n_wp ?_
   refine w_seq ?_
   refine g_reg hP hn ?_
   refine s_op k_mv ?_
   refine s_op (l_bin rfl rfl (b_eql (r := okPz ((sgL L).getD i p0).2) (by unfold pze; cases okPz ((sgL L).getD i p0).2 <;> rfl))) ?_
   refine s_op k_mv ?_
   refine s_opt rfl rfl (fun hB => by rw [hB]; (try simp only [Bool.or_eq_true, Bool.or_eq_false_iff, Bool.and_eq_true, Bool.not_eq_true', Bool.not_eq_false', decide_eq_true_eq, decide_eq_false_iff_not] at hB); exact k_fa) ?_
   refine s_opt rfl rfl (fun hB => by rw [hB]; (try simp only [Bool.or_eq_true, Bool.or_eq_false_iff, Bool.and_eq_true, Bool.not_eq_true', Bool.not_eq_false', decide_eq_true_eq, decide_eq_false_iff_not] at hB); exact k_ld) ?_
   refine s_opt rfl rfl (fun hB => by rw [hB]; (try simp only [Bool.or_eq_true, Bool.or_eq_false_iff, Bool.and_eq_true, Bool.not_eq_true', Bool.not_eq_false', decide_eq_true_eq, decide_eq_false_iff_not] at hB); exact k_eql) ?_
   refine s_op k_pk ?_
   refine s_nil trivial ?_
   refine n_wp ?_
   refine w_cond rfl (fun h_t39 => ?_) (fun h_t39 => ?_)
   · skip
     refine w_seq ?_
     refine g_reg hP hn ?_
     refine s_op k_bd ?_
     refine s_op k_fa ?_
     refine s_st k_st ?_
     refine s_nil trivial ?_
     refine n_wp ?_
     refine g_any hP hn ?_
     refine s_op k_fa ?_
     refine s_op k_ld ?_
     refine s_op k_mv ?_
     refine s_op k_ld ?_
     refine s_op (k_call [] (con := pp_n (pzb ((sgL L).getD i p0).2) (pzg ((sgL L).getD i p0).2) (zs (List.replicate 32 0)) (pzg_lt hU2) (by rw [zs_len]; rfl))) ?_
     refine s_op k_ix ?_
     refine s_op k_fa ?_
     refine s_st (k_stC i 1 (gP (stF (sgL L) (i + 1))) (hg := stF_g h_t39) (hg2 := stF_ge (sgL L) i _)) ?_
     refine s_nil (by kernel_rfl) ?_
     refine n_blo ?_
     refine n_wp ?_
     refine g_reg hP hn ?_
     refine s_op k_add ?_
     refine s_op k_mv ?_
     refine s_nil trivial ?_
     exact n_round ((sgL L).length - (i + 1)) (by omega) ⟨i + 1, by omega, rfl, rfl, rfl⟩ (wk hE [0, 1])
   · skip
     refine w_skip ?_
     refine n_blo ?_
     refine n_wp ?_
     refine g_reg hP hn ?_
     refine s_op k_add ?_
     refine s_op k_mv ?_
     refine s_nil trivial ?_
     exact n_round ((sgL L).length - (i + 1)) (by omega) ⟨i + 1, by omega, rfl, rfl, by rw [stF_no h_t39]⟩ (wk hE [0, 1])
 · skip
   obtain rfl : i = (sgL L).length := Nat.le_antisymm hi (by omega)
   refine w_exit ?_
   refine x_thn ?_
   refine x_thn ?_
   refine x_eq ?_
   refine n_wp ?_
   refine w_seq ?_
   refine g_reg hP hn ?_
   refine s_op k_ld ?_
   refine s_op (lok_frz 1 rfl (k_call [] (con := hc) (hargs := by exact .cons rfl (conv_agg (R := [1]) (.same (.same (.same (.one (conv_slW (id := 1) (k := ⟨false, [.rows (L.length + 1) 2 (gP (stF (sgL L) (sgL L).length))]⟩) rfl rfl rfl (by simpa using hnL) (Nat.le_refl _) (fun a b _ _ => by rw [stF_n])) .nil))))) .nil)) (by simp)) ?_
   refine s_op k_ex ?_
   refine s_op k_ex ?_
   refine s_op k_as ?_
   refine s_op k_as ?_
   refine s_nil trivial ?_
   refine n_wp ?_
   refine w_ret ?_
   exact d_ret hP hn hE [] (ret2 Tryz.results10 (by first | exact ri_tmp rfl | exact ri_tmpa rfl) (by first | exact ri_tmp rfl | exact ri_tmpa rfl))

set_option maxRecDepth 100000 in
set_option maxHeartbeats 4000000 in
theorem cont2_n (A B : List Int) (L : List Pc) (hw : WfL L) (hA : A.length = 16) (e : Int) (hc : Con Tryz.prog 34 [.agg [.one (.int .u8 2), .ints .u8 16 A, .ints .u8 16 (zs (List.replicate 16 0)), .one (.fz (sgL L).length 2 (gP (kpF (((sgL L).map strip)))))]] [] (.tup [.s .nils, .s (.int .i64 e)]) []) : Con Tryz.prog 10 [.agg (PKT 2 A B L)] [] (.tup [.s .nils, .s (.int .i64 e)]) [] := by
 refine con_in 54 Tryz.func10 rfl rfl (m := 0) rfl ?_
 intro E hP hn hE
 have hnL : (sgL L).length ≤ L.length + 1 := Nat.le_succ_of_le (sgL_le L)
 have hnb := hw.len
 refine w_seq ?_
 refine g_reg hP hn ?_
 refine s_op k_bx ?_
 refine s_op k_as ?_
 refine s_op k_as ?_
 refine s_nil trivial ?_
 refine n_wp ?_
 refine w_seq ?_
 refine g_reg hP hn ?_
 refine s_op k_ld ?_
 refine s_op (k_call [] (con := below16_sm 2 A B L hw) (v := .agg [.one (.int .u8 2), .ints .u8 16 A, .ints .u8 16 B, .one (.slice 1 0 0 (sgL L).length (sgL L).length)]) (hv := rfl) (H' := [some ⟨true, PKT 2 A B L⟩, some ⟨true, [.rows (L.length + 1) 2 (gP (kpF (sgL L)))]⟩]) (hH := rfl)) ?_
 refine s_st k_st ?_
 refine s_nil trivial ?_
 refine n_wp ?_
 refine w_seq ?_
 refine w_seq ?_
 refine g_reg hP hn ?_
 refine s_op k_fa ?_
 refine s_op k_ld ?_
 refine s_op k_neq ?_
 refine s_nil trivial ?_
 refine n_wp ?_
 refine w_F rfl ?_ rfl
 refine w_skip ?_
 refine n_wp ?_
 refine w_seq ?_
 refine g_reg hP hn ?_
 refine s_op k_bd ?_
 refine s_op k_fa ?_
 refine s_st k_st ?_
 refine s_nil trivial ?_
 refine n_wp ?_
 refine w_seq ?_
 refine w_seq ?_
 refine g_reg hP hn ?_
 refine s_op k_fa ?_
 refine s_op k_ld ?_
 refine s_op k_len ?_
 refine s_op k_mv ?_
 refine s_nil trivial ?_
 refine n_wp ?_
 refine w_block ?_
 refine c_loop (fun m_ T H => ∃ i, i ≤ (sgL L).length ∧ m_ = (sgL L).length - i ∧ T = [(1, .s (.ptr 0 0 0)), (20, .s (.slice 1 0 0 (sgL L).length (sgL L).length)), (21, .s (.int .i64 (((sgL L).length : Nat) : Int))), (22, .s (.int .i64 ((i : Nat) : Int)))] ∧ H = [some ⟨true, [.one (.int .u8 2), .ints .u8 16 A, .ints .u8 16 (zs (List.replicate 16 0)), .one (.slice 1 0 0 (sgL L).length (sgL L).length)]⟩, some ⟨true, [.rows (L.length + 1) 2 (gP (stF (sgL L) i))]⟩]) ((sgL L).length) ⟨0, by omega, rfl, rfl, by rw [stF_0]⟩ (wk hE [0, 1]) ?_
 rintro n_ T_ H_ ⟨i, hi, rfl, rfl, rfl⟩
 refine w_seq ?_
 refine g_reg hP hn ?_
 refine s_op k_lss ?_
 refine s_nil trivial ?_
 refine n_wp ?_
 refine w_seq ?_
 refine w_if rfl (fun h_t23 => ?_) (fun h_t23 => ?_)
 · skip
   have hU2 := (hw.sgL.get i).2.1
   refine w_skip ?_
   refine n_wp ?_
   refine w_seq ?_
   refine w_block ?_
   refine w_seq ?_
   refine g_reg hP hn ?_
   refine s_op k_mv ?_
   refine s_op k_ix ?_
   refine s_op (k_ldM i) ?_
   refine s_op k_al ?_
   refine s_op k_as ?_
   refine s_st k_st ?_
   refine s_nil trivial ?_
   refine n_wp ?_
   refine w_seq ?_
   rw [stF_at]
   refine g_reg hP hn ?_
   refine s_op k_fa ?_
   refine s_op k_ld ?_
   refine s_op (k_call [] (con := getpz_c ((sgL L).getD i p0).2 hU2)) ?_
   refine s_op k_mv ?_
   refine s_op k_ex ?_
   refine s_op k_ex ?_
   refine s_op k_al ?_
   refine s_st k_st ?_
   refine s_op k_as ?_
   refine s_nil trivial ?_
   refine n_wp ?_
   refine w_seq ?_
   refine g_reg hP hn ?_
   refine s_op k_mv ?_
   refine s_op (l_bin rfl rfl (b_eql (r := okPz ((sgL L).getD i p0).2) (by unfold pze; cases okPz ((sgL L).getD i p0).2 <;> rfl))) ?_
   refine s_op k_mv ?_
   refine s_opt rfl rfl (fun hB => by rw [hB]; (try simp only [Bool.or_eq_true, Bool.or_eq_false_iff, Bool.and_eq_true, Bool.not_eq_true', Bool.not_eq_false', decide_eq_true_eq, decide_eq_false_iff_not] at hB); exact k_fa) ?_
   refine s_opt rfl rfl (fun hB => by rw [hB]; (try simp only [Bool.or_eq_true, Bool.or_eq_false_iff, Bool.and_eq_true, Bool.not_eq_true', Bool.not_eq_false', decide_eq_true_eq, decide_eq_false_iff_not] at hB); exact k_ld) ?_
   refine s_opt rfl rfl (fun hB => by rw [hB]; (try simp only [Bool.or_eq_true, Bool.or_eq_false_iff, Bool.and_eq_true, Bool.not_eq_true', Bool.not_eq_false', decide_eq_true_eq, decide_eq_false_iff_not] at hB); exact k_eql) ?_
   refine s_op k_pk ?_
   refine s_nil trivial ?_
   refine n_wp ?_
   refine w_cond rfl (fun h_t39 => ?_) (fun h_t39 => ?_)
   · skip
     refine w_seq ?_
     refine g_reg hP hn ?_
     refine s_op k_bd ?_
     refine s_op k_fa ?_
     refine s_st k_st ?_
     refine s_nil trivial ?_
     refine n_wp ?_
     refine g_any hP hn ?_
     refine s_op k_fa ?_
     refine s_op k_ld ?_
     refine s_op k_mv ?_
     refine s_op k_ld ?_
     refine s_op (k_call [] (con := pp_n (pzb ((sgL L).getD i p0).2) (pzg ((sgL L).getD i p0).2) (zs (List.replicate 32 0)) (pzg_lt hU2) (by rw [zs_len]; rfl))) ?_
     refine s_op k_ix ?_
     refine s_op k_fa ?_
     refine s_st (k_stC i 1 (gP (stF (sgL L) (i + 1))) (hg := stF_g h_t39) (hg2 := stF_ge (sgL L) i _)) ?_
     refine s_nil (by kernel_rfl) ?_
     refine n_blo ?_
     refine n_wp ?_
     refine g_reg hP hn ?_
     refine s_op k_add ?_
     refine s_op k_mv ?_
     refine s_nil trivial ?_
     exact n_round ((sgL L).length - (i + 1)) (by omega) ⟨i + 1, by omega, rfl, rfl, rfl⟩ (wk hE [0, 1])
   · skip
     refine w_skip ?_
     refine n_blo ?_
     refine n_wp ?_
     refine g_reg hP hn ?_
     refine s_op k_add ?_
     refine s_op k_mv ?_
     refine s_nil trivial ?_
     exact n_round ((sgL L).length - (i + 1)) (by omega) ⟨i + 1, by omega, rfl, rfl, by rw [stF_no h_t39]⟩ (wk hE [0, 1])
 · skip
   obtain rfl : i = (sgL L).length := Nat.le_antisymm hi (by omega)
   refine w_exit ?_
   refine x_thn ?_
   refine x_thn ?_
   refine x_eq ?_
   refine n_wp ?_
   refine w_seq ?_
   refine g_reg hP hn ?_
   refine s_op k_ld ?_
   refine s_op (lok_frz 1 rfl (k_call [] (con := hc) (hargs := by exact .cons rfl (conv_agg (R := [1]) (.same (.same (.same (.one (conv_slW (id := 1) (k := ⟨false, [.rows (L.length + 1) 2 (gP (stF (sgL L) (sgL L).length))]⟩) rfl rfl rfl (by simpa using hnL) (Nat.le_refl _) (fun a b _ _ => by rw [stF_n])) .nil))))) .nil)) (by simp)) ?_
   refine s_op k_ex ?_
   refine s_op k_ex ?_
   refine s_op k_as ?_
   refine s_op k_as ?_
   refine s_nil trivial ?_
   refine n_wp ?_
   refine w_ret ?_
   exact d_ret hP hn hE [] (ret2 Tryz.results10 (by first | exact ri_tmp rfl | exact ri_tmpa rfl) (by first | exact ri_tmp rfl | exact ri_tmpa rfl))

theorem cont_ok (k : Nat) (A B : List Int) (L : List Pc) (hw : WfL L) (ok : okP k (sgK k L)) (hk : k < 256) (hA : A.length = 16) (hB : B.length = 16) (hUA : U8' A) (hUB : U8' B) : Con Tryz.prog 10 [.agg (PKT k A B L)] [] (.tup [.s (.fzi .u8 (pkB k A (sgT k B) (encL (sgK k L)))), .s (.int .i64 0)]) [] := by
 by_cases h2 : k = 2
 · subst h2
   have e1 : sgK 2 L = (sgL L).map strip := if_pos rfl
   have e2 : sgT 2 B = zs (List.replicate 16 0) := if_pos rfl
   rw [e1] at ok ⊢
   rw [e2]
   have h := kput_ok 2 A (zs (List.replicate 16 0)) ((sgL L).map strip) hw.sgL.strip ok (by omega) hA (by simp [zs]) hUA (by rw [zs_rep]; exact U8'_rep _)
   rw [pkt_map] at h
   exact cont2_y A B L hw hA _ h
 · have e1 : sgK k L = sgL L := if_neg h2
   have e2 : sgT k B = B := if_neg h2
   rw [e1] at ok ⊢
   rw [e2]
   exact cont1_y k A B L hw h2 _ (kput_ok k A B (sgL L) hw.sgL ok hk hA hB hUA hUB)
theorem cont_no (k : Nat) (A B : List Int) (L : List Pc) (hw : WfL L) (no : ¬ okP k (sgK k L)) (hA : A.length = 16) : ∃ e : Int, e ≠ 0 ∧ Con Tryz.prog 10 [.agg (PKT k A B L)] [] (.tup [.s .nils, .s (.int .i64 e)]) [] := by
 by_cases h2 : k = 2
 · subst h2
   have e1 : sgK 2 L = (sgL L).map strip := if_pos rfl
   rw [e1] at no
   obtain ⟨e, he, h⟩ := kput_no 2 A (zs (List.replicate 16 0)) ((sgL L).map strip) hw.sgL.strip no
   rw [pkt_map] at h
   exact ⟨e, he, cont2_n A B L hw hA e h⟩
 · have e1 : sgK k L = sgL L := if_neg h2
   rw [e1] at no
   obtain ⟨e, he, h⟩ := kput_no k A B (sgL L) hw.sgL no
   exact ⟨e, he, cont1_n k A B L hw h2 e h⟩

end Go.Proofs.X
end

section
open Go Go.Bx Go.Proofs
namespace Go.Proofs.X
def macS (K Y : List Int) : List Int := hmO K (tk (hmI K) Y) (64 + Y.length)
theorem macS_len (K Y : List Int) : (macS K Y).length = 32 := hmO_len _ _ _
theorem macS_c (K Y : List Int) (hK : K.length = 32) (hY : Y.length ≤ 900000) : Con Tryz.prog 60 [.s (.fzi .u8 K), .s (ROWS [Y])] [] (.agg [.ints .u8 32 (macS K Y)]) [] := by
 have h := mac_c K [Y] (by omega) (by omega) (Nat.le_of_ble_eq_true rfl) (by simp; omega)
 rwa [show [Y].flatten = Y by simp] at h
attribute [local irreducible] be gN ckS encL chk pk0 pkB macS wd sg0 drP asB expP
abbrev KEYP (K : List Int) : SV := .fptr 32 (cellsF [.ints .u8 32 K]) 0 0
abbrev SEAL (f n t : Nat) (caps : List SV) : List Seg := [.one (.int .u16 ((t : Nat) : Int)), .one (.noid (.clo f n (capF caps)))]
abbrev ZPK : List Seg := [.one (.int .u8 0), .ints .u8 16 (zs (List.replicate 16 0)), .ints .u8 16 (zs (List.replicate 16 0)), .one .nils]
abbrev PKN (k : Nat) (A B : List Int) (n : Nat) (F : Nat → Pc) : List Seg := [.one (.int .u8 ((k : Nat) : Int)), .ints .u8 16 A, .ints .u8 16 B, .one (.fz n 2 (gP F))]

set_option maxRecDepth 100000 in
set_option maxHeartbeats 4000000 in
theorem seals_c (t : Nat) (K : List Int) (hK : K.length = 32)  : Con Tryz.prog 20 [.s (.int .u16 ((t : Nat) : Int)), .agg [.ints .u8 32 K]] [] (.agg (SEAL 58 1 t [KEYP K])) [] := by
 refine con_in 8 Tryz.func20 rfl rfl (m := 0) rfl ?_
 intro E hP hn hE
 refine w_seq ?_
 refine g_reg hP hn ?_
 refine s_op k_bxf ?_
 refine s_op k_al ?_
 refine s_nil trivial ?_
 refine n_wp ?_
 refine w_seq ?_
 refine g_reg hP hn ?_
 refine s_op k_mv ?_
 refine s_op (k_fnN [KEYP K]) ?_
 refine s_op k_bd ?_
 refine s_st k_st ?_
 refine s_nil trivial ?_
 refine n_wp ?_
 refine w_ret ?_
 exact d_ret hP hn hE [] (r_cell Tryz.results20)

set_option maxRecDepth 100000 in
set_option maxHeartbeats 4000000 in
theorem sum1_y (k : Nat) (A B : List Int) (L : List Pc) (K : List Int) (hK : K.length = 32) (Y : List Int) (hY : Y.length ≤ 900000) (hc : Con Tryz.prog 34 [.agg (PKT k A B L)] [] (.tup [.s (.fzi .u8 (Y)), .s (.int .i64 0)]) []) : Con Tryz.prog 58 [.agg (PKT k A B L), .s (KEYP K)] [] (.tup [.s (.fzi .u8 (macS K Y)), .s (.int .i64 0)]) [] := by
 refine con_in 18 Tryz.func58 rfl rfl (m := 0) rfl ?_
 intro E hP hn hE
 refine w_seq ?_
 refine g_reg hP hn ?_
 refine s_op k_bx ?_
 refine s_op k_as ?_
 refine s_op k_as ?_
 refine s_nil trivial ?_
 refine n_wp ?_
 refine w_seq ?_
 refine g_reg hP hn ?_
 refine s_op k_ld ?_
 refine s_op (k_call [] (con := hc)) ?_
 refine s_op k_mv ?_
 refine s_op k_ex ?_
 refine s_op k_ex ?_
 refine s_op k_as ?_
 refine s_op k_as ?_
 refine s_nil trivial ?_
 refine n_wp ?_
 refine w_seq ?_
 refine g_reg hP hn ?_
 refine s_op k_slf ?_
 refine s_op k_mv ?_
 refine s_op (k_bsz [.fzi .u8 Y]) ?_
 refine s_op (k_call [] (con := macS_c K Y hK hY)) ?_
 refine s_op (k_call [] (con := psum_n (macS K Y) (macS_len K Y))) ?_
 refine s_op k_mv ?_
 refine s_op k_as ?_
 refine s_op k_as ?_
 refine s_nil trivial ?_
 refine n_wp ?_
 refine w_ret ?_
 exact d_ret hP hn hE [] (ret2 Tryz.results58 (by first | exact ri_tmp rfl | exact ri_tmpa rfl) (by first | exact ri_tmp rfl | exact ri_tmpa rfl))

set_option maxRecDepth 100000 in
set_option maxHeartbeats 4000000 in
theorem ons_there (k : Nat) (A B : List Int) (L : List Pc) (t : Nat) (K : List Int) (hK : K.length = 32) (hLb : L.length ≤ 800000) (j : Nat) (hj : j < L.length) (hno : ∀ k, k < j → decide (t ≤ (L.getD k p0).1) = false) (hy : decide (t ≤ (L.getD j p0).1) = true) : Con Tryz.prog 21 [.agg (SEAL 58 1 t [KEYP K]), .agg (PKT k A B L)] [] (.tup [.agg ZPK, .s (.int .i64 8)]) [] := by
 refine con_in 49 Tryz.func21 rfl rfl (m := 0) rfl ?_
 intro E hP hn hE
 refine w_seq ?_
 refine g_reg hP hn ?_
 refine s_op k_bxf ?_
 refine s_op k_bx ?_
 refine s_op k_al ?_
 refine s_op k_as ?_
 refine s_nil trivial ?_
 refine n_wp ?_
 refine w_seq ?_
 refine w_seq ?_
 refine g_reg hP hn ?_
 refine s_op k_fa ?_
 refine s_op k_ld ?_
 refine s_op (k_fnN [(.fptr 2 (cellsF (SEAL 58 1 t [KEYP K])) 0 0)]) ?_
 refine s_op (k_call [] (con := cnt_y (fun x => decide (t ≤ x)) (on1_n t (.noid (.clo 58 1 (capF [KEYP K])))) L (by omega) j hj hno hy)) ?_
 refine s_nil trivial ?_
 refine n_wp ?_
 refine w_T rfl ?_ 
 refine w_seq ?_
 refine g_reg hP hn ?_
 refine s_op k_bd ?_
 refine s_st k_st ?_
 refine s_op k_as ?_
 refine s_nil trivial ?_
 refine n_wp ?_
 refine w_ret ?_
 refine r_thn ?_
 exact d_ret hP hn hE [] (ret2 Tryz.results21 r_cella (by first | exact ri_tmp rfl | exact ri_tmpa rfl))

set_option maxRecDepth 100000 in
set_option maxHeartbeats 4000000 in
theorem ons_y (k : Nat) (A B : List Int) (L : List Pc) (t : Nat) (K : List Int) (hK : K.length = 32) (hLb : L.length ≤ 800000) (hup : ∀ i, i < L.length → decide (t ≤ (L.getD i p0).1) = false) (Y : List Int) (hcb : Con Tryz.prog 58 ([.agg (PKT k A B L)] ++ ([KEYP K] : List SV).map AV.s) [] (.tup [.s (.fzi .u8 (Y)), .s (.int .i64 0)]) []) (F : Nat → Pc) (hcw : Con Tryz.prog 9 [.s (PARS L), .agg (PR (t, Y))] [] (.tup [.s (.fz (L.length + 1) 2 (gP F)), .s (.int .i64 0)]) []) (Z : List Int) (hcp : Con Tryz.prog 34 [.agg (PKN k A B (L.length + 1) F)] [] (.tup [.s (.fzi .u8 (Z)), .s (.int .i64 0)]) []) : Con Tryz.prog 21 [.agg (SEAL 58 1 t [KEYP K]), .agg (PKT k A B L)] [] (.tup [.agg (PKN k A B (L.length + 1) F), .s (.int .i64 0)]) [] := by
 refine con_in 49 Tryz.func21 rfl rfl (m := 0) rfl ?_
 intro E hP hn hE
 refine w_seq ?_
 refine g_reg hP hn ?_
 refine s_op k_bxf ?_
 refine s_op k_bx ?_
 refine s_op k_al ?_
 refine s_op k_as ?_
 refine s_nil trivial ?_
 refine n_wp ?_
 refine w_seq ?_
 refine w_seq ?_
 refine g_reg hP hn ?_
 refine s_op k_fa ?_
 refine s_op k_ld ?_
 refine s_op (k_fnN [(.fptr 2 (cellsF (SEAL 58 1 t [KEYP K])) 0 0)]) ?_
 refine s_op (k_call [] (con := cnt_n (fun x => decide (t ≤ x)) (on1_n t (.noid (.clo 58 1 (capF [KEYP K])))) L (by omega) hup)) ?_
 refine s_nil trivial ?_
 refine n_wp ?_
 refine w_F rfl ?_ 
 refine w_skip ?_
 refine n_wp ?_
 refine w_seq ?_
 refine g_reg hP hn ?_
 refine s_op k_fa ?_
 refine s_op k_ld ?_
 refine s_op k_ld ?_
 refine s_op (k_callN [KEYP K] (con := hcb)) ?_
 refine s_op k_mv ?_
 refine s_op k_ex ?_
 refine s_op k_ex ?_
 refine s_op k_as ?_
 refine s_op k_as ?_
 refine s_nil trivial ?_
 refine n_wp ?_
 refine w_seq ?_
 refine w_seq ?_
 refine g_reg hP hn ?_
 refine s_op k_mv ?_
 refine s_op (l_bin rfl rfl (b_neq (r := false) (decide_eq_false (fun h => h rfl)))) ?_
 refine s_nil trivial ?_
 refine n_wp ?_
 refine w_F rfl ?_ 
 refine w_skip ?_
 refine n_wp ?_
 refine w_seq ?_
 refine w_seq ?_
 refine g_reg hP hn ?_
 refine s_op k_fa ?_
 refine s_op k_ld ?_
 refine s_op k_fa ?_
 refine s_op k_ld ?_
 refine s_op k_mv ?_
 refine s_op k_bd ?_
 refine s_op (k_call [] (con := hcw)) ?_
 refine s_op k_mv ?_
 refine s_op k_ex ?_
 refine s_op k_ex ?_
 refine s_op k_fa ?_
 refine s_st k_st ?_
 refine s_op k_as ?_
 refine s_nil trivial ?_
 refine n_wp ?_
 refine w_seq ?_
 refine g_reg hP hn ?_
 refine s_op k_mv ?_
 refine s_op (l_bin rfl rfl (b_neq (r := false) (decide_eq_false (fun h => h rfl)))) ?_
 refine s_nil trivial ?_
 refine n_wp ?_
 refine w_F rfl ?_ 
 refine w_skip ?_
 refine n_wp ?_
 refine w_seq ?_
 refine w_seq ?_
 refine g_reg hP hn ?_
 refine s_op k_ld ?_
 refine s_op (k_call [] (con := hcp)) ?_
 refine s_op k_mv ?_
 refine s_op k_ex ?_
 refine s_op k_ex ?_
 refine s_op k_as ?_
 refine s_nil trivial ?_
 refine n_wp ?_
 refine w_seq ?_
 refine g_reg hP hn ?_
 refine s_op k_mv ?_
 refine s_op (l_bin rfl rfl (b_neq (r := false) (decide_eq_false (fun h => h rfl)))) ?_
 refine s_nil trivial ?_
 refine n_wp ?_
 refine w_F rfl ?_ 
 refine w_skip ?_
 refine n_wp ?_
 refine w_seq ?_
 refine g_reg hP hn ?_
 refine s_op k_ld ?_
 refine s_st k_st ?_
 refine s_op k_as ?_
 refine s_nil trivial ?_
 refine n_wp ?_
 refine w_ret ?_
 exact d_ret hP hn hE [] (ret2 Tryz.results21 r_cella (by first | exact ri_tmp rfl | exact ri_tmpa rfl))

set_option maxRecDepth 100000 in
set_option maxHeartbeats 4000000 in
theorem ong_y (k : Nat) (A B : List Int) (L : List Pc) (t : Nat) (p q g a : Nat) (hLb : L.length ≤ 800000) (hup : ∀ i, i < L.length → decide (t ≤ (L.getD i p0).1) = false) (Y : List Int) (hcb : Con Tryz.prog 22 ([.agg (PKT k A B L)] ++ ([(.fptr 12 (cellsF (GRP p q g)) 0 0), (.fptr 4 (cellsF [.ints .u64 4 (zs (wd a))]) 0 0)] : List SV).map AV.s) [] (.tup [.s (.fzi .u8 (Y)), .s (.int .i64 0)]) []) (F : Nat → Pc) (hcw : Con Tryz.prog 9 [.s (PARS L), .agg (PR (t, Y))] [] (.tup [.s (.fz (L.length + 1) 2 (gP F)), .s (.int .i64 0)]) []) (Z : List Int) (hcp : Con Tryz.prog 34 [.agg (PKN k A B (L.length + 1) F)] [] (.tup [.s (.fzi .u8 (Z)), .s (.int .i64 0)]) []) : Con Tryz.prog 21 [.agg (SEAL 22 2 t [(.fptr 12 (cellsF (GRP p q g)) 0 0), (.fptr 4 (cellsF [.ints .u64 4 (zs (wd a))]) 0 0)]), .agg (PKT k A B L)] [] (.tup [.agg (PKN k A B (L.length + 1) F), .s (.int .i64 0)]) [] := by
 refine con_in 49 Tryz.func21 rfl rfl (m := 0) rfl ?_
 intro E hP hn hE
 refine w_seq ?_
 refine g_reg hP hn ?_
 refine s_op k_bxf ?_
 refine s_op k_bx ?_
 refine s_op k_al ?_
 refine s_op k_as ?_
 refine s_nil trivial ?_
 refine n_wp ?_
 refine w_seq ?_
 refine w_seq ?_
 refine g_reg hP hn ?_
 refine s_op k_fa ?_
 refine s_op k_ld ?_
 refine s_op (k_fnN [(.fptr 2 (cellsF (SEAL 22 2 t [(.fptr 12 (cellsF (GRP p q g)) 0 0), (.fptr 4 (cellsF [.ints .u64 4 (zs (wd a))]) 0 0)])) 0 0)]) ?_
 refine s_op (k_call [] (con := cnt_n (fun x => decide (t ≤ x)) (on1_n t (.noid (.clo 22 2 (capF [(.fptr 12 (cellsF (GRP p q g)) 0 0), (.fptr 4 (cellsF [.ints .u64 4 (zs (wd a))]) 0 0)])))) L (by omega) hup)) ?_
 refine s_nil trivial ?_
 refine n_wp ?_
 refine w_F rfl ?_ 
 refine w_skip ?_
 refine n_wp ?_
 refine w_seq ?_
 refine g_reg hP hn ?_
 refine s_op k_fa ?_
 refine s_op k_ld ?_
 refine s_op k_ld ?_
 refine s_op (k_callN [(.fptr 12 (cellsF (GRP p q g)) 0 0), (.fptr 4 (cellsF [.ints .u64 4 (zs (wd a))]) 0 0)] (con := hcb)) ?_
 refine s_op k_mv ?_
 refine s_op k_ex ?_
 refine s_op k_ex ?_
 refine s_op k_as ?_
 refine s_op k_as ?_
 refine s_nil trivial ?_
 refine n_wp ?_
 refine w_seq ?_
 refine w_seq ?_
 refine g_reg hP hn ?_
 refine s_op k_mv ?_
 refine s_op (l_bin rfl rfl (b_neq (r := false) (decide_eq_false (fun h => h rfl)))) ?_
 refine s_nil trivial ?_
 refine n_wp ?_
 refine w_F rfl ?_ 
 refine w_skip ?_
 refine n_wp ?_
 refine w_seq ?_
 refine w_seq ?_
 refine g_reg hP hn ?_
 refine s_op k_fa ?_
 refine s_op k_ld ?_
 refine s_op k_fa ?_
 refine s_op k_ld ?_
 refine s_op k_mv ?_
 refine s_op k_bd ?_
 refine s_op (k_call [] (con := hcw)) ?_
 refine s_op k_mv ?_
 refine s_op k_ex ?_
 refine s_op k_ex ?_
 refine s_op k_fa ?_
 refine s_st k_st ?_
 refine s_op k_as ?_
 refine s_nil trivial ?_
 refine n_wp ?_
 refine w_seq ?_
 refine g_reg hP hn ?_
 refine s_op k_mv ?_
 refine s_op (l_bin rfl rfl (b_neq (r := false) (decide_eq_false (fun h => h rfl)))) ?_
 refine s_nil trivial ?_
 refine n_wp ?_
 refine w_F rfl ?_ 
 refine w_skip ?_
 refine n_wp ?_
 refine w_seq ?_
 refine w_seq ?_
 refine g_reg hP hn ?_
 refine s_op k_ld ?_
 refine s_op (k_call [] (con := hcp)) ?_
 refine s_op k_mv ?_
 refine s_op k_ex ?_
 refine s_op k_ex ?_
 refine s_op k_as ?_
 refine s_nil trivial ?_
 refine n_wp ?_
 refine w_seq ?_
 refine g_reg hP hn ?_
 refine s_op k_mv ?_
 refine s_op (l_bin rfl rfl (b_neq (r := false) (decide_eq_false (fun h => h rfl)))) ?_
 refine s_nil trivial ?_
 refine n_wp ?_
 refine w_F rfl ?_ 
 refine w_skip ?_
 refine n_wp ?_
 refine w_seq ?_
 refine g_reg hP hn ?_
 refine s_op k_ld ?_
 refine s_st k_st ?_
 refine s_op k_as ?_
 refine s_nil trivial ?_
 refine n_wp ?_
 refine w_ret ?_
 exact d_ret hP hn hE [] (ret2 Tryz.results21 r_cella (by first | exact ri_tmp rfl | exact ri_tmpa rfl))

set_option maxRecDepth 100000 in
set_option maxHeartbeats 4000000 in
theorem mac_y (k : Nat) (A B : List Int) (L : List Pc) (K : List Int) (hK : K.length = 32) (n : Nat) (F : Nat → Pc) (hon : Con Tryz.prog 21 [.agg (SEAL 58 1 61505 [KEYP K]), .agg (PKT k A B L)] [] (.tup [.agg (PKN k A B n F), .s (.int .i64 0)]) []) : Con Tryz.prog 7 [.agg (PKT k A B L), .agg [.ints .u8 32 K]] [] (.tup [.agg (PKN k A B n F), .s (.int .i64 0)]) [] := by
 refine con_in 12 Tryz.func7 rfl rfl (m := 0) rfl ?_
 intro E hP hn hE
 refine w_seq ?_
 refine g_reg hP hn ?_
 refine s_op k_bxf ?_
 refine s_op k_bxf ?_
 refine s_op k_al ?_
 refine s_op k_as ?_
 refine s_nil trivial ?_
 refine n_wp ?_
 refine w_seq ?_
 refine g_any hP hn ?_
 refine s_op k_ld ?_
 refine s_op (k_call [] (con := seals_c 61505 K hK)) ?_
 refine s_op k_ld ?_
 refine s_op (k_call [] (con := hon)) ?_
 refine s_op k_ex ?_
 refine s_op k_ex ?_
 refine s_st k_st ?_
 refine s_op k_as ?_
 refine s_nil (by kernel_rfl) ?_
 refine n_wp ?_
 refine w_ret ?_
 exact d_ret hP hn hE [] (ret2 Tryz.results7 r_cella (by first | exact ri_tmp rfl | exact ri_tmpa rfl))

set_option maxRecDepth 100000 in
set_option maxHeartbeats 4000000 in
theorem sgn_y (k : Nat) (A B : List Int) (L : List Pc) (p q g a : Nat) (n : Nat) (F : Nat → Pc) (hon : Con Tryz.prog 21 [.agg (SEAL 22 2 61697 [(.fptr 12 (cellsF (GRP p q g)) 0 0), (.fptr 4 (cellsF [.ints .u64 4 (zs (wd a))]) 0 0)]), .agg (PKT k A B L)] [] (.tup [.agg (PKN k A B n F), .s (.int .i64 0)]) []) : Con Tryz.prog 8 [.agg (GRP p q g), .agg (PKT k A B L), .agg [.ints .u64 4 (zs (wd a))]] [] (.tup [.agg (PKN k A B n F), .s (.int .i64 0)]) [] := by
 refine con_in 14 Tryz.func8 rfl rfl (m := 0) rfl ?_
 intro E hP hn hE
 refine w_seq ?_
 refine g_reg hP hn ?_
 refine s_op k_bxf ?_
 refine s_op k_bxf ?_
 refine s_op k_bxf ?_
 refine s_op k_al ?_
 refine s_op k_as ?_
 refine s_nil trivial ?_
 refine n_wp ?_
 refine w_seq ?_
 refine g_reg hP hn ?_
 refine s_op (k_fnN [(.fptr 12 (cellsF (GRP p q g)) 0 0), (.fptr 4 (cellsF [.ints .u64 4 (zs (wd a))]) 0 0)]) ?_
 refine s_op k_bd ?_
 refine s_op k_ld ?_
 refine s_op (k_call [] (con := hon)) ?_
 refine s_op k_ex ?_
 refine s_op k_ex ?_
 refine s_st k_st ?_
 refine s_op k_as ?_
 refine s_nil trivial ?_
 refine n_wp ?_
 refine w_ret ?_
 exact d_ret hP hn hE [] (ret2 Tryz.results8 r_cella (by first | exact ri_tmp rfl | exact ri_tmpa rfl))

set_option maxRecDepth 100000 in
set_option maxHeartbeats 4000000 in
theorem mac_e (k : Nat) (A B : List Int) (L : List Pc) (K : List Int) (hK : K.length = 32) (e : Int) (hon : Con Tryz.prog 21 [.agg (SEAL 58 1 61505 [KEYP K]), .agg (PKT k A B L)] [] (.tup [.agg ZPK, .s (.int .i64 e)]) []) : Con Tryz.prog 7 [.agg (PKT k A B L), .agg [.ints .u8 32 K]] [] (.tup [.agg ZPK, .s (.int .i64 e)]) [] := by
 refine con_in 12 Tryz.func7 rfl rfl (m := 0) rfl ?_
 intro E hP hn hE
 refine w_seq ?_
 refine g_reg hP hn ?_
 refine s_op k_bxf ?_
 refine s_op k_bxf ?_
 refine s_op k_al ?_
 refine s_op k_as ?_
 refine s_nil trivial ?_
 refine n_wp ?_
 refine w_seq ?_
 refine g_any hP hn ?_
 refine s_op k_ld ?_
 refine s_op (k_call [] (con := seals_c 61505 K hK)) ?_
 refine s_op k_ld ?_
 refine s_op (k_call [] (con := hon)) ?_
 refine s_op k_ex ?_
 refine s_op k_ex ?_
 refine s_st k_st ?_
 refine s_op k_as ?_
 refine s_nil (by kernel_rfl) ?_
 refine n_wp ?_
 refine w_ret ?_
 exact d_ret hP hn hE [] (ret2 Tryz.results7 r_cella (by first | exact ri_tmp rfl | exact ri_tmpa rfl))

end Go.Proofs.X
end

section
/- Sums that are alike; sizes; signatures of a small group. No program. -/
open Go Go.Bx
namespace Go.Proofs.X
def mo (A B : List Int) : Nat → Int
  | 0 => 0
  | i + 1 => orK .u8 (mo A B i) (xorK .u8 (A.getD i 0) (B.getD i 0))
theorem xorK_self (x : Int) : xorK .u8 x x = 0 := by
  show IntKind.u8.wrap ((BitVec.ofInt 8 x ^^^ BitVec.ofInt 8 x).toNat : Int) = 0
  rw [BitVec.xor_self]; rfl
theorem mo_self (A : List Int) (n : Nat) : mo A A n = 0 := by
  induction n with
  | zero => rfl
  | succ n ih => rw [mo, ih, xorK_self]; rfl
/-- How much pieces have in them. -/
def szA (L : List Pc) : Nat → Nat
  | 0 => L.length
  | i + 1 => szA L i + (1 + (L.getD i p0).2.length)
theorem szA_0 (L : List Pc) : szA L 0 = L.length := rfl
theorem szA_s (L : List Pc) (i : Nat) : szA L i + (1 + (L.getD i p0).2.length) = szA L (i + 1) := rfl
theorem szA_le (L : List Pc) (i : Nat) : L.length ≤ szA L i ∧ ∀ k, k < i → (L.getD k p0).2.length ≤ szA L i := by
  induction i with
  | zero => exact ⟨Nat.le_refl _, fun k hk => absurd hk (Nat.not_lt_zero k)⟩
  | succ i ih =>
    rw [← szA_s]
    refine ⟨by omega, fun k hk => ?_⟩
    rcases Nat.lt_succ_iff_lt_or_eq.1 hk with h | rfl
    · have := ih.2 k h; omega
    · omega
theorem sz_ex (L : List Pc) (b : Nat) : ∃ i, i ≤ L.length ∧ (i = L.length ∨ b < szA L i) ∧ ∀ k, k < i → szA L k ≤ b := by
  have : ∀ n, n ≤ L.length → (∃ i, i ≤ L.length ∧ (i = L.length ∨ b < szA L i) ∧ ∀ k, k < i → szA L k ≤ b) ∨ ∀ k, k < n → szA L k ≤ b := by
    intro n
    induction n with
    | zero => exact fun _ => .inr fun k hk => absurd hk (Nat.not_lt_zero k)
    | succ n ih =>
      intro hn
      rcases ih (by omega) with h | h
      · exact .inl h
      · rcases Nat.lt_or_ge b (szA L n) with h1 | h1
        · exact .inl ⟨n, by omega, .inr h1, h⟩
        · exact .inr fun k hk => (Nat.lt_succ_iff_lt_or_eq.1 hk).elim (h k) fun e => e ▸ h1
  rcases this L.length (Nat.le_refl _) with h | h
  · exact h
  · exact ⟨L.length, Nat.le_refl _, .inl rfl, h⟩
/-- One that is signed passes, in the small group. -/
theorem small_ok : ∀ c, c < 11 → ∀ d, d < 11 → expP 23 4 ((d + 3 * c % 11) % 11) * expP 23 (expP 23 4 3) (11 - c) % 23 = expP 23 4 d := by decide
theorem small_ck (B : List Int) : ckB 23 11 4 (expP 23 4 3) B (sg0 11 (expP 23 4 3) (expP 23 4 (drP 11 3 B)) B) ((drP 11 3 B + 3 * sg0 11 (expP 23 4 3) (expP 23 4 (drP 11 3 B)) B % 11) % 11) = true := by
  have hc : sg0 11 (expP 23 4 3) (expP 23 4 (drP 11 3 B)) B < 11 := sg0_lt (by decide)
  have hd : drP 11 3 B < 11 := drP_lt (by decide)
  generalize hcc : sg0 11 (expP 23 4 3) (expP 23 4 (drP 11 3 B)) B = c at *
  have h := small_ok c hc _ hd
  unfold ckB ckA
  rw [h, hcc, decide_eq_true hc, decide_eq_true (Nat.mod_lt _ (by decide)), decide_eq_true rfl]
  decide
abbrev signedS : ByteArray := ⟨#[115, 105, 103, 110, 101, 100]⟩
theorem gN_2 (c s : Nat) (hc : c < 2 ^ 256) (hs : s < 2 ^ 256) : gN ((be 32 c ++ be 32 s).take 32) 32 = c ∧ gN ((be 32 c ++ be 32 s).drop 32) 32 = s := by
  have e1 : (be 32 c ++ be 32 s).take 32 = be 32 c := by rw [List.take_append_of_le_length (Nat.le_of_eq (be_len _ _).symm), List.take_of_length_le (Nat.le_of_eq (be_len _ _))]
  have e2 : (be 32 c ++ be 32 s).drop 32 = be 32 s := by rw [List.drop_append_of_le_length (Nat.le_of_eq (be_len _ _).symm), List.drop_of_length_le (Nat.le_of_eq (be_len _ _))]; rfl
  have k1 := gN_be 32 c [] (by omega)
  have k2 := gN_be 32 s [] (by omega)
  rw [List.append_nil] at k1 k2
  rw [e1, e2]
  exact ⟨k1, k2⟩
end Go.Proofs.X
end

section
/- Types and functions of sizes, as instances. -/
open Go Go.Bx Go.Proofs
namespace Go.Proofs.X
instance : Clb Tryz.prog 110 := ⟨_, Tryz.func110, by kernel_rfl, rfl⟩
instance : Clb Tryz.prog 85 := ⟨_, Tryz.func85, by kernel_rfl, rfl⟩
instance : Clb Tryz.prog 49 := ⟨_, Tryz.func49, by kernel_rfl, rfl⟩
instance : Clb Tryz.prog 15 := ⟨_, Tryz.func15, by kernel_rfl, rfl⟩
instance : Clb Tryz.prog 5 := ⟨_, Tryz.func5, by kernel_rfl, rfl⟩
instance : Clb Tryz.prog 11 := ⟨_, Tryz.func11, by kernel_rfl, rfl⟩
end Go.Proofs.X
end
