/- A part of the proofs of this claim: BBok2, BBok3. No conditions. -/
import Derived.Test.YtokgpammicpahaaGreatDoorK7
import Derived.Test.YtokgpammicpahaaGreatDoorK5
set_option linter.unusedVariables false
set_option linter.unusedSimpArgs false
section
open Go Go.Bx Go.Proofs
namespace Go.Proofs.X
set_option maxRecDepth 100000
set_option maxHeartbeats 4000000
def fillT (L : List Int) (m : Int) : Nat → List Int
  | 0 => L
  | k + 1 => (fillT L m k).set k m
theorem fillT_len (L : List Int) (m : Int) (k : Nat) : (fillT L m k).length = L.length := by
  induction k with
  | zero => rfl
  | succ k ih => rw [fillT, List.length_set, ih]
theorem fillT_get (L : List Int) (m : Int) (k i : Nat) (hi : i < L.length) : (fillT L m k).getD i 0 = if i < k then m else L.getD i 0 := by
  induction k with
  | zero => rw [if_neg (by omega)]; rfl
  | succ k ih =>
    simp only [fillT, List.getD_eq_getElem?_getD, List.getElem?_set] at ih ⊢
    by_cases h : k = i
    · subst h; rw [if_pos rfl, if_pos (by rw [fillT_len]; exact hi), if_pos (by omega)]; rfl
    · rw [if_neg h, ih]
      by_cases h2 : i < k
      · rw [if_pos h2, if_pos (by omega)]
      · rw [if_neg h2, if_neg (by omega)]
theorem fillT_all (L : List Int) (m : Int) : fillT L m L.length = List.replicate L.length m := by
  refine eqI (by rw [fillT_len, List.length_replicate]) fun i hi => ?_
  rw [fillT_len] at hi
  rw [fillT_get _ _ _ _ hi, if_pos hi, List.getD_eq_getElem?_getD, List.getElem?_replicate, if_pos hi]; rfl
theorem fillT_app (L : List Int) (m : Int) (k : Nat) (h : k ≤ L.length) : fillT (L ++ [77]) m k = fillT L m k ++ [77] := by
  induction k with
  | zero => rfl
  | succ k ih => rw [fillT, ih (by omega), fillT, List.set_append, if_pos (by rw [fillT_len]; omega)]
theorem fillT_a (L : List Int) (m : Int) : fillT (L ++ [77]) m L.length = List.replicate L.length m ++ [77] := by rw [fillT_app _ _ _ (Nat.le_refl _), fillT_all]
theorem rep_s (n : Nat) (m : Int) : List.replicate n m ++ [m] = List.replicate (n + 1) m := by rw [List.replicate_succ']
theorem rep_t (n : Nat) (m : Int) : (List.replicate n m).take n ++ [m] = List.replicate (n + 1) m := by rw [List.take_of_length_le (by simp), rep_s]
theorem rep_j (n : Nat) (m : Int) : spl (List.replicate n m ++ [77]) [m] n 1 (n + 1) = List.replicate (n + 1) m := by
  have e := spl_app (List.replicate n m) [m] [77] n 1 (n + 1) (by simp) rfl (by omega) (by simp)
  rw [e]; simp [List.replicate_succ']
theorem rep_g (n k : Nat) (m : Int) (h : k < n) : (List.replicate n m).getD k 0 = m := by rw [List.getD_eq_getElem?_getD, List.getElem?_replicate, if_pos h]; rfl

theorem mark_c (n : Nat) (hm : n < 256) : Con Tryz.prog 120 [.s (.int .i64 ((n : Nat) : Int))] [] (.s (.int .u8 ((n : Nat) : Int))) [] := by
 refine con_in 5 Tryz.func120 rfl rfl (m := 0) rfl ?_
 intro E hP hn hE
 refine w_seq ?_
 refine g_reg hP hn ?_
 refine s_op k_as ?_
 refine s_nil trivial ?_
 refine n_wp ?_
 refine w_seq ?_
 refine g_reg hP hn ?_
 refine s_op k_mv ?_
 refine s_op k_cv ?_
 refine s_op k_as ?_
 refine s_nil trivial ?_
 refine n_wp ?_
 refine w_ret ?_
 exact d_ret hP hn hE [] (by first | exact r_tmp Tryz.results120 | exact r_tmpa Tryz.results120)

theorem is_t (n : Nat) (x : Int) (hm : n < 256) (hx : x = (n : Int)) : Con Tryz.prog 135 [.s (.int .u8 x), .s (.int .i64 ((n : Nat) : Int))] [] (.s (.bool true)) [] := by
 refine con_in 9 Tryz.func135 rfl rfl (m := 0) rfl ?_
 intro E hP hn hE
 refine w_seq ?_
 refine g_reg hP hn ?_
 refine s_op k_as ?_
 refine s_nil trivial ?_
 refine n_wp ?_
 refine w_seq ?_
 refine g_reg hP hn ?_
 refine s_op k_mv ?_
 refine s_op k_mv ?_
 refine s_op k_cv ?_
 refine s_op (l_bin rfl rfl (b_eql (r := true) (decide_eq_true hx))) ?_
 refine s_op k_as ?_
 refine s_nil trivial ?_
 refine n_wp ?_
 refine w_ret ?_
 exact d_ret hP hn hE [] (by first | exact r_tmp Tryz.results135 | exact r_tmpa Tryz.results135)

theorem keep_B (X0 : List Int) : Con Tryz.prog 45 [.s (.ptr 0 0 0), .s (.slice 1 0 0 X0.length X0.length)] [some ⟨true, [.one (.int .i64 ((0 : Nat) : Int)), .one .nils, .one .nils, .one .nils, .one .nils, .one .nils, .one .nils, .one .nils, .one .nils, .one .nils, .one .nils, .one .nils, .one .nils, .one .nils, .one .nils, .one .nils]⟩, some ⟨true, [.ints .u8 X0.length X0]⟩] (.tup []) [some ⟨true, [.one (.int .i64 ((1 : Nat) : Int)), .one (.gro 2 3 1), .one .nils, .one .nils, .one .nils, .one .nils, .one .nils, .one .nils, .one .nils, .one .nils, .one .nils, .one .nils, .one .nils, .one .nils, .one .nils, .one .nils]⟩, some ⟨true, [.ints .u8 X0.length X0]⟩, some ⟨true, [.one (.slice 1 0 0 X0.length X0.length), .one .nils, .one (.int .i64 ((1 : Nat) : Int))]⟩] := by
 refine con_in 26 Tryz.func45 rfl rfl (m := 2) rfl ?_
 intro E hP hn hE
 refine w_seq ?_
 refine g_reg hP hn ?_
 refine s_op k_mv ?_
 refine s_op k_nc ?_
 refine s_op k_fa ?_
 refine s_op k_ld ?_
 refine s_op k_add ?_
 refine s_op k_nc ?_
 refine s_op k_fa ?_
 refine s_st (k_st (h := by exact a_store_one rfl rfl SV.noConfusion rfl rfl (hset_seg (by repeat (first | apply sset_s _ rfl rfl | exact sset_0)) (by repeat (first | exact hset_0 | apply hset_s))))) ?_
 refine s_nil trivial ?_
 refine n_wp ?_
 refine w_weak (H' := [some ⟨true, [.one (.int .i64 ((1 : Nat) : Int)), .one (.gro 2 3 0), .one .nils, .one .nils, .one .nils, .one .nils, .one .nils, .one .nils, .one .nils, .one .nils, .one .nils, .one .nils, .one .nils, .one .nils, .one .nils, .one .nils]⟩, some ⟨true, [.ints .u8 X0.length X0]⟩, some ⟨true, []⟩]) ((weak_new (segs := []) rfl).trans (weak_row 0 (segs' := [.one (.int .i64 ((0 + 1 : Nat) : Int)), .one (.gro 2 3 0), .one .nils, .one .nils, .one .nils, .one .nils, .one .nils, .one .nils, .one .nils, .one .nils, .one .nils, .one .nils, .one .nils, .one .nils, .one .nils, .one .nils]) rfl (fun _ _ h => row_groM (pre := [.one (.int .i64 ((0 + 1 : Nat) : Int))]) h) rfl)) ?_
 refine g_any hP hn ?_
 refine s_op k_mv ?_
 refine s_op k_mv ?_
 refine s_op k_nc ?_
 refine s_op k_fa ?_
 refine s_op k_ld ?_
 refine s_op k_mv ?_
 refine s_op k_mv ?_
 refine s_op k_nc ?_
 refine s_op k_fa ?_
 refine s_op k_ld ?_
 refine s_op k_bd ?_
 refine s_op k_bs1 ?_
 refine s_op k_ap1 ?_
 refine s_op k_nc ?_
 refine s_op k_fa ?_
 refine s_st (k_st (h := by exact a_store_one rfl rfl SV.noConfusion rfl rfl (hset_seg (by repeat (first | apply sset_s _ rfl rfl | exact sset_0)) (by repeat (first | exact hset_0 | apply hset_s))))) ?_
 refine s_nil (by kernel_rfl) ?_
 exact d_ret hP hn hE [0, 1, 4] (ret_none Tryz.results45)
theorem bytes_B (X0 : List Int) : Con Tryz.prog 10 [.s (.ptr 0 0 0), .s (.slice 1 0 0 X0.length X0.length)] [some ⟨true, [.one (.int .i64 ((0 : Nat) : Int)), .one .nils, .one .nils, .one .nils, .one .nils, .one .nils, .one .nils, .one .nils, .one .nils, .one .nils, .one .nils, .one .nils, .one .nils, .one .nils, .one .nils, .one .nils]⟩, some ⟨true, [.ints .u8 X0.length X0]⟩] (.tup []) [some ⟨true, [.one (.int .i64 ((1 : Nat) : Int)), .one (.gro 2 3 1), .one .nils, .one .nils, .one .nils, .one .nils, .one .nils, .one .nils, .one .nils, .one .nils, .one .nils, .one .nils, .one .nils, .one .nils, .one .nils, .one .nils]⟩, some ⟨true, [.ints .u8 X0.length X0]⟩, some ⟨true, [.one (.slice 1 0 0 X0.length X0.length), .one .nils, .one (.int .i64 ((1 : Nat) : Int))]⟩] := by
 refine con_in 7 Tryz.func10 rfl rfl (m := 2) rfl ?_
 intro E hP hn hE
 refine g_reg hP hn ?_
 refine s_op k_mv ?_
 refine s_op k_mv ?_
 refine s_op (k_call [0, 1] (con := keep_B X0)) ?_
 refine s_nil trivial ?_
 exact d_ret hP hn hE [0, 1, 2] (ret_none Tryz.results10)

theorem keep_BA (X0 : List Int) (X1 : List Int) : Con Tryz.prog 45 [.s (.ptr 0 0 0), .s (.slice 2 0 0 X1.length (X1.length + 1))] [some ⟨true, [.one (.int .i64 ((1 : Nat) : Int)), .one (.gro 3 3 1), .one .nils, .one .nils, .one .nils, .one .nils, .one .nils, .one .nils, .one .nils, .one .nils, .one .nils, .one .nils, .one .nils, .one .nils, .one .nils, .one .nils]⟩, some ⟨true, [.ints .u8 X0.length X0]⟩, some ⟨true, [.ints .u8 (X1.length + 1) (X1 ++ [77])]⟩, some ⟨true, [.one (.slice 1 0 0 X0.length X0.length), .one .nils, .one (.int .i64 ((1 : Nat) : Int))]⟩] (.tup []) [some ⟨true, [.one (.int .i64 ((2 : Nat) : Int)), .one (.gro 4 3 2), .one .nils, .one .nils, .one .nils, .one .nils, .one .nils, .one .nils, .one .nils, .one .nils, .one .nils, .one .nils, .one .nils, .one .nils, .one .nils, .one .nils]⟩, some ⟨true, [.ints .u8 X0.length X0]⟩, some ⟨true, [.ints .u8 (X1.length + 1) (X1 ++ [77])]⟩, none, some ⟨true, [.one (.slice 1 0 0 X0.length X0.length), .one .nils, .one (.int .i64 ((1 : Nat) : Int)), .one (.slice 2 0 0 X1.length (X1.length + 1)), .one .nils, .one (.int .i64 ((2 : Nat) : Int))]⟩] := by
 refine con_in 26 Tryz.func45 rfl rfl (m := 4) rfl ?_
 intro E hP hn hE
 refine w_seq ?_
 refine g_reg hP hn ?_
 refine s_op k_mv ?_
 refine s_op k_nc ?_
 refine s_op k_fa ?_
 refine s_op k_ld ?_
 refine s_op k_add ?_
 refine s_op k_nc ?_
 refine s_op k_fa ?_
 refine s_st (k_st (h := by exact a_store_one rfl rfl SV.noConfusion rfl rfl (hset_seg (by repeat (first | apply sset_s _ rfl rfl | exact sset_0)) (by repeat (first | exact hset_0 | apply hset_s))))) ?_
 refine s_nil trivial ?_
 refine n_wp ?_
 refine g_any hP hn ?_
 refine s_op k_mv ?_
 refine s_op k_mv ?_
 refine s_op k_nc ?_
 refine s_op k_fa ?_
 refine s_op k_ld ?_
 refine s_op k_mv ?_
 refine s_op k_mv ?_
 refine s_op k_nc ?_
 refine s_op k_fa ?_
 refine s_op k_ld ?_
 refine s_op k_bd ?_
 refine s_op k_bs1 ?_
 refine s_op k_ap1 ?_
 refine s_op k_nc ?_
 refine s_op k_fa ?_
 refine s_st (k_st (h := by exact a_store_one rfl rfl SV.noConfusion rfl rfl (hset_seg (by repeat (first | apply sset_s _ rfl rfl | exact sset_0)) (by repeat (first | exact hset_0 | apply hset_s))))) ?_
 refine s_nil (by kernel_rfl) ?_
 exact d_ret hP hn hE [0, 1, 2, 3, 5] (ret_none Tryz.results45)
theorem bytes_BA (X0 : List Int) (X1 : List Int) : Con Tryz.prog 10 [.s (.ptr 0 0 0), .s (.slice 2 0 0 X1.length (X1.length + 1))] [some ⟨true, [.one (.int .i64 ((1 : Nat) : Int)), .one (.gro 3 3 1), .one .nils, .one .nils, .one .nils, .one .nils, .one .nils, .one .nils, .one .nils, .one .nils, .one .nils, .one .nils, .one .nils, .one .nils, .one .nils, .one .nils]⟩, some ⟨true, [.ints .u8 X0.length X0]⟩, some ⟨true, [.ints .u8 (X1.length + 1) (X1 ++ [77])]⟩, some ⟨true, [.one (.slice 1 0 0 X0.length X0.length), .one .nils, .one (.int .i64 ((1 : Nat) : Int))]⟩] (.tup []) [some ⟨true, [.one (.int .i64 ((2 : Nat) : Int)), .one (.gro 4 3 2), .one .nils, .one .nils, .one .nils, .one .nils, .one .nils, .one .nils, .one .nils, .one .nils, .one .nils, .one .nils, .one .nils, .one .nils, .one .nils, .one .nils]⟩, some ⟨true, [.ints .u8 X0.length X0]⟩, some ⟨true, [.ints .u8 (X1.length + 1) (X1 ++ [77])]⟩, none, some ⟨true, [.one (.slice 1 0 0 X0.length X0.length), .one .nils, .one (.int .i64 ((1 : Nat) : Int)), .one (.slice 2 0 0 X1.length (X1.length + 1)), .one .nils, .one (.int .i64 ((2 : Nat) : Int))]⟩] := by
 refine con_in 7 Tryz.func10 rfl rfl (m := 4) rfl ?_
 intro E hP hn hE
 refine g_reg hP hn ?_
 refine s_op k_mv ?_
 refine s_op k_mv ?_
 refine s_op (k_call [0, 1, 2, 3] (con := keep_BA X0 X1)) ?_
 refine s_nil trivial ?_
 exact d_ret hP hn hE [0, 1, 2, 3, 4] (ret_none Tryz.results10)

theorem keep_C : Con Tryz.prog 45 [.s (.ptr 0 0 0), .s .nils] [some ⟨true, [.one (.int .i64 ((0 : Nat) : Int)), .one .nils, .one .nils, .one .nils, .one .nils, .one .nils, .one .nils, .one .nils, .one .nils, .one .nils, .one .nils, .one .nils, .one .nils, .one .nils, .one .nils, .one .nils]⟩] (.tup []) [some ⟨true, [.one (.int .i64 ((1 : Nat) : Int)), .one (.gro 1 3 1), .one .nils, .one .nils, .one .nils, .one .nils, .one .nils, .one .nils, .one .nils, .one .nils, .one .nils, .one .nils, .one .nils, .one .nils, .one .nils, .one .nils]⟩, some ⟨true, [.one .nils, .one .nils, .one (.int .i64 ((1 : Nat) : Int))]⟩] := by
 refine con_in 26 Tryz.func45 rfl rfl (m := 1) rfl ?_
 intro E hP hn hE
 refine w_seq ?_
 refine g_reg hP hn ?_
 refine s_op k_mv ?_
 refine s_op k_nc ?_
 refine s_op k_fa ?_
 refine s_op k_ld ?_
 refine s_op k_add ?_
 refine s_op k_nc ?_
 refine s_op k_fa ?_
 refine s_st (k_st (h := by exact a_store_one rfl rfl SV.noConfusion rfl rfl (hset_seg (by repeat (first | apply sset_s _ rfl rfl | exact sset_0)) (by repeat (first | exact hset_0 | apply hset_s))))) ?_
 refine s_nil trivial ?_
 refine n_wp ?_
 refine w_weak (H' := [some ⟨true, [.one (.int .i64 ((1 : Nat) : Int)), .one (.gro 1 3 0), .one .nils, .one .nils, .one .nils, .one .nils, .one .nils, .one .nils, .one .nils, .one .nils, .one .nils, .one .nils, .one .nils, .one .nils, .one .nils, .one .nils]⟩, some ⟨true, []⟩]) ((weak_new (segs := []) rfl).trans (weak_row 0 (segs' := [.one (.int .i64 ((0 + 1 : Nat) : Int)), .one (.gro 1 3 0), .one .nils, .one .nils, .one .nils, .one .nils, .one .nils, .one .nils, .one .nils, .one .nils, .one .nils, .one .nils, .one .nils, .one .nils, .one .nils, .one .nils]) rfl (fun _ _ h => row_groM (pre := [.one (.int .i64 ((0 + 1 : Nat) : Int))]) h) rfl)) ?_
 refine g_any hP hn ?_
 refine s_op k_mv ?_
 refine s_op k_mv ?_
 refine s_op k_nc ?_
 refine s_op k_fa ?_
 refine s_op k_ld ?_
 refine s_op k_mv ?_
 refine s_op k_mv ?_
 refine s_op k_nc ?_
 refine s_op k_fa ?_
 refine s_op k_ld ?_
 refine s_op k_bd ?_
 refine s_op k_bs1 ?_
 refine s_op k_ap1 ?_
 refine s_op k_nc ?_
 refine s_op k_fa ?_
 refine s_st (k_st (h := by exact a_store_one rfl rfl SV.noConfusion rfl rfl (hset_seg (by repeat (first | apply sset_s _ rfl rfl | exact sset_0)) (by repeat (first | exact hset_0 | apply hset_s))))) ?_
 refine s_nil (by kernel_rfl) ?_
 exact d_ret hP hn hE [0, 3] (ret_none Tryz.results45)
theorem bytes_C : Con Tryz.prog 10 [.s (.ptr 0 0 0), .s .nils] [some ⟨true, [.one (.int .i64 ((0 : Nat) : Int)), .one .nils, .one .nils, .one .nils, .one .nils, .one .nils, .one .nils, .one .nils, .one .nils, .one .nils, .one .nils, .one .nils, .one .nils, .one .nils, .one .nils, .one .nils]⟩] (.tup []) [some ⟨true, [.one (.int .i64 ((1 : Nat) : Int)), .one (.gro 1 3 1), .one .nils, .one .nils, .one .nils, .one .nils, .one .nils, .one .nils, .one .nils, .one .nils, .one .nils, .one .nils, .one .nils, .one .nils, .one .nils, .one .nils]⟩, some ⟨true, [.one .nils, .one .nils, .one (.int .i64 ((1 : Nat) : Int))]⟩] := by
 refine con_in 7 Tryz.func10 rfl rfl (m := 1) rfl ?_
 intro E hP hn hE
 refine g_reg hP hn ?_
 refine s_op k_mv ?_
 refine s_op k_mv ?_
 refine s_op (k_call [0] (con := keep_C )) ?_
 refine s_nil trivial ?_
 exact d_ret hP hn hE [0, 1] (ret_none Tryz.results10)

theorem keep_CA (X1 : List Int) : Con Tryz.prog 45 [.s (.ptr 0 0 0), .s (.slice 1 0 0 X1.length (X1.length + 1))] [some ⟨true, [.one (.int .i64 ((1 : Nat) : Int)), .one (.gro 2 3 1), .one .nils, .one .nils, .one .nils, .one .nils, .one .nils, .one .nils, .one .nils, .one .nils, .one .nils, .one .nils, .one .nils, .one .nils, .one .nils, .one .nils]⟩, some ⟨true, [.ints .u8 (X1.length + 1) (X1 ++ [77])]⟩, some ⟨true, [.one .nils, .one .nils, .one (.int .i64 ((1 : Nat) : Int))]⟩] (.tup []) [some ⟨true, [.one (.int .i64 ((2 : Nat) : Int)), .one (.gro 3 3 2), .one .nils, .one .nils, .one .nils, .one .nils, .one .nils, .one .nils, .one .nils, .one .nils, .one .nils, .one .nils, .one .nils, .one .nils, .one .nils, .one .nils]⟩, some ⟨true, [.ints .u8 (X1.length + 1) (X1 ++ [77])]⟩, none, some ⟨true, [.one .nils, .one .nils, .one (.int .i64 ((1 : Nat) : Int)), .one (.slice 1 0 0 X1.length (X1.length + 1)), .one .nils, .one (.int .i64 ((2 : Nat) : Int))]⟩] := by
 refine con_in 26 Tryz.func45 rfl rfl (m := 3) rfl ?_
 intro E hP hn hE
 refine w_seq ?_
 refine g_reg hP hn ?_
 refine s_op k_mv ?_
 refine s_op k_nc ?_
 refine s_op k_fa ?_
 refine s_op k_ld ?_
 refine s_op k_add ?_
 refine s_op k_nc ?_
 refine s_op k_fa ?_
 refine s_st (k_st (h := by exact a_store_one rfl rfl SV.noConfusion rfl rfl (hset_seg (by repeat (first | apply sset_s _ rfl rfl | exact sset_0)) (by repeat (first | exact hset_0 | apply hset_s))))) ?_
 refine s_nil trivial ?_
 refine n_wp ?_
 refine g_any hP hn ?_
 refine s_op k_mv ?_
 refine s_op k_mv ?_
 refine s_op k_nc ?_
 refine s_op k_fa ?_
 refine s_op k_ld ?_
 refine s_op k_mv ?_
 refine s_op k_mv ?_
 refine s_op k_nc ?_
 refine s_op k_fa ?_
 refine s_op k_ld ?_
 refine s_op k_bd ?_
 refine s_op k_bs1 ?_
 refine s_op k_ap1 ?_
 refine s_op k_nc ?_
 refine s_op k_fa ?_
 refine s_st (k_st (h := by exact a_store_one rfl rfl SV.noConfusion rfl rfl (hset_seg (by repeat (first | apply sset_s _ rfl rfl | exact sset_0)) (by repeat (first | exact hset_0 | apply hset_s))))) ?_
 refine s_nil (by kernel_rfl) ?_
 exact d_ret hP hn hE [0, 1, 2, 4] (ret_none Tryz.results45)
theorem bytes_CA (X1 : List Int) : Con Tryz.prog 10 [.s (.ptr 0 0 0), .s (.slice 1 0 0 X1.length (X1.length + 1))] [some ⟨true, [.one (.int .i64 ((1 : Nat) : Int)), .one (.gro 2 3 1), .one .nils, .one .nils, .one .nils, .one .nils, .one .nils, .one .nils, .one .nils, .one .nils, .one .nils, .one .nils, .one .nils, .one .nils, .one .nils, .one .nils]⟩, some ⟨true, [.ints .u8 (X1.length + 1) (X1 ++ [77])]⟩, some ⟨true, [.one .nils, .one .nils, .one (.int .i64 ((1 : Nat) : Int))]⟩] (.tup []) [some ⟨true, [.one (.int .i64 ((2 : Nat) : Int)), .one (.gro 3 3 2), .one .nils, .one .nils, .one .nils, .one .nils, .one .nils, .one .nils, .one .nils, .one .nils, .one .nils, .one .nils, .one .nils, .one .nils, .one .nils, .one .nils]⟩, some ⟨true, [.ints .u8 (X1.length + 1) (X1 ++ [77])]⟩, none, some ⟨true, [.one .nils, .one .nils, .one (.int .i64 ((1 : Nat) : Int)), .one (.slice 1 0 0 X1.length (X1.length + 1)), .one .nils, .one (.int .i64 ((2 : Nat) : Int))]⟩] := by
 refine con_in 7 Tryz.func10 rfl rfl (m := 3) rfl ?_
 intro E hP hn hE
 refine g_reg hP hn ?_
 refine s_op k_mv ?_
 refine s_op k_mv ?_
 refine s_op (k_call [0, 1, 2] (con := keep_CA X1)) ?_
 refine s_nil trivial ?_
 exact d_ret hP hn hE [0, 1, 2, 3] (ret_none Tryz.results10)

end Go.Proofs.X
end

section
open Go Go.Bx Go.Proofs
namespace Go.Proofs.X
set_option maxRecDepth 100000
set_option maxHeartbeats 4000000
theorem fill_BA (X0 : List Int) (hX0 : X0.length ≤ 100000) (X1 : List Int) (hX1 : X1.length ≤ 100000) : Con Tryz.prog 48 [.s (.ptr 0 0 0)] [some ⟨true, [.one (.int .i64 ((2 : Nat) : Int)), .one (.gro 3 3 2), .one .nils, .one .nils, .one .nils, .one .nils, .one .nils, .one .nils, .one .nils, .one .nils, .one .nils, .one .nils, .one .nils, .one .nils, .one .nils, .one .nils]⟩, some ⟨true, [.ints .u8 X0.length X0]⟩, some ⟨true, [.ints .u8 (X1.length + 1) (X1 ++ [77])]⟩, some ⟨true, [.one (.slice 1 0 0 X0.length X0.length), .one .nils, .one (.int .i64 ((1 : Nat) : Int)), .one (.slice 2 0 0 X1.length (X1.length + 1)), .one .nils, .one (.int .i64 ((2 : Nat) : Int))]⟩] (.tup []) [some ⟨true, [.one (.int .i64 ((2 : Nat) : Int)), .one (.gro 3 3 2), .one .nils, .one .nils, .one .nils, .one .nils, .one .nils, .one .nils, .one .nils, .one .nils, .one .nils, .one .nils, .one .nils, .one .nils, .one .nils, .one .nils]⟩, some ⟨true, [.ints .u8 X0.length (List.replicate X0.length 1)]⟩, some ⟨true, [.ints .u8 (X1.length + 1) (List.replicate X1.length 2 ++ [77])]⟩, some ⟨true, [.one (.slice 1 0 0 X0.length X0.length), .one .nils, .one (.int .i64 ((1 : Nat) : Int)), .one (.slice 2 0 0 X1.length (X1.length + 1)), .one .nils, .one (.int .i64 ((2 : Nat) : Int))]⟩] := by
 refine con_in 35 Tryz.func48 rfl rfl (m := 4) rfl ?_
 intro E hP hn hE
 refine w_seq ?_
 refine g_reg hP hn ?_
 refine s_op k_as ?_
 refine s_nil trivial ?_
 refine n_wp ?_
 refine w_block ?_
 refine c_loop (fun m_ T H => (m_ = 2 ∧ T = [(0, .s (.ptr 0 0 0)), (2, .s (.int .i64 ((0 : Nat) : Int)))] ∧ H = [some ⟨true, [.one (.int .i64 ((2 : Nat) : Int)), .one (.gro 3 3 2), .one .nils, .one .nils, .one .nils, .one .nils, .one .nils, .one .nils, .one .nils, .one .nils, .one .nils, .one .nils, .one .nils, .one .nils, .one .nils, .one .nils]⟩, some ⟨true, [.ints .u8 X0.length X0]⟩, some ⟨true, [.ints .u8 (X1.length + 1) (X1 ++ [77])]⟩, some ⟨true, [.one (.slice 1 0 0 X0.length X0.length), .one .nils, .one (.int .i64 ((1 : Nat) : Int)), .one (.slice 2 0 0 X1.length (X1.length + 1)), .one .nils, .one (.int .i64 ((2 : Nat) : Int))]⟩]) ∨ (m_ = 1 ∧ T = [(0, .s (.ptr 0 0 0)), (2, .s (.int .i64 ((1 : Nat) : Int)))] ∧ H = [some ⟨true, [.one (.int .i64 ((2 : Nat) : Int)), .one (.gro 3 3 2), .one .nils, .one .nils, .one .nils, .one .nils, .one .nils, .one .nils, .one .nils, .one .nils, .one .nils, .one .nils, .one .nils, .one .nils, .one .nils, .one .nils]⟩, some ⟨true, [.ints .u8 X0.length (List.replicate X0.length 1)]⟩, some ⟨true, [.ints .u8 (X1.length + 1) (X1 ++ [77])]⟩, some ⟨true, [.one (.slice 1 0 0 X0.length X0.length), .one .nils, .one (.int .i64 ((1 : Nat) : Int)), .one (.slice 2 0 0 X1.length (X1.length + 1)), .one .nils, .one (.int .i64 ((2 : Nat) : Int))]⟩]) ∨ (m_ = 0 ∧ T = [(0, .s (.ptr 0 0 0)), (2, .s (.int .i64 ((2 : Nat) : Int)))] ∧ H = [some ⟨true, [.one (.int .i64 ((2 : Nat) : Int)), .one (.gro 3 3 2), .one .nils, .one .nils, .one .nils, .one .nils, .one .nils, .one .nils, .one .nils, .one .nils, .one .nils, .one .nils, .one .nils, .one .nils, .one .nils, .one .nils]⟩, some ⟨true, [.ints .u8 X0.length (List.replicate X0.length 1)]⟩, some ⟨true, [.ints .u8 (X1.length + 1) (List.replicate X1.length 2 ++ [77])]⟩, some ⟨true, [.one (.slice 1 0 0 X0.length X0.length), .one .nils, .one (.int .i64 ((1 : Nat) : Int)), .one (.slice 2 0 0 X1.length (X1.length + 1)), .one .nils, .one (.int .i64 ((2 : Nat) : Int))]⟩])) (2) (.inl ⟨rfl, rfl, rfl⟩) (wk hE [0, 1, 2, 3]) ?_
 rintro n_ T_ H_ (⟨rfl, rfl, rfl⟩ | ⟨rfl, rfl, rfl⟩ | ⟨rfl, rfl, rfl⟩)
 · skip
   refine w_seq ?_
   refine w_seq ?_
   refine g_reg hP hn ?_
   refine s_op k_mv ?_
   refine s_op k_mv ?_
   refine s_op k_nc ?_
   refine s_op k_fa ?_
   refine s_op k_ld ?_
   refine s_op k_len ?_
   refine s_op k_lss ?_
   refine s_nil trivial ?_
   refine n_wp ?_
   refine w_T rfl ?_ 
   refine w_skip ?_
   refine n_wp ?_
   refine w_seq ?_
   refine w_block ?_
   refine w_seq ?_
   refine g_reg hP hn ?_
   refine s_op k_mv ?_
   refine s_op k_nc ?_
   refine s_op k_fa ?_
   refine s_op k_ld ?_
   refine s_op k_mv ?_
   refine s_op (k_ixG 0 0) ?_
   refine s_op (k_ld (h := by exact a_load_agg (sub := [.one (.slice 1 0 0 X0.length X0.length), .one .nils, .one (.int .i64 ((1 : Nat) : Int))]) (r := [.one (.slice 1 0 0 X0.length X0.length), .one .nils, .one (.int .i64 ((1 : Nat) : Int)), .one (.slice 2 0 0 X1.length (X1.length + 1)), .one .nils, .one (.int .i64 ((2 : Nat) : Int))]) rfl rfl (by kernel_rfl) (by kernel_rfl))) ?_
   refine s_op k_al ?_
   refine s_st (k_st (h := by exact a_store_agg rfl rfl rfl (put_w (by kernel_rfl)) (by exact Nat.le_of_ble_eq_true rfl) (by kernel_rfl) (by repeat (first | exact hset_0 | apply hset_s)))) ?_
   refine s_nil trivial ?_
   refine n_wp ?_
   refine w_seq ?_
   refine g_reg hP hn ?_
   refine s_op k_as ?_
   refine s_nil trivial ?_
   refine n_wp ?_
   refine w_block ?_
   refine c_loop (fun m_ T H => ∃ k, k ≤ X0.length ∧ m_ = X0.length - k ∧ T = [(0, .s (.ptr 0 0 0)), (2, .s (.int .i64 ((0 : Nat) : Int))), (3, .s (.ptr 4 0 0)), (4, .s (.int .i64 ((k : Nat) : Int)))] ∧ H = [some ⟨true, [.one (.int .i64 ((2 : Nat) : Int)), .one (.gro 3 3 2), .one .nils, .one .nils, .one .nils, .one .nils, .one .nils, .one .nils, .one .nils, .one .nils, .one .nils, .one .nils, .one .nils, .one .nils, .one .nils, .one .nils]⟩, some ⟨true, [.ints .u8 X0.length (fillT X0 1 k)]⟩, some ⟨true, [.ints .u8 (X1.length + 1) (X1 ++ [77])]⟩, some ⟨true, [.one (.slice 1 0 0 X0.length X0.length), .one .nils, .one (.int .i64 ((1 : Nat) : Int)), .one (.slice 2 0 0 X1.length (X1.length + 1)), .one .nils, .one (.int .i64 ((2 : Nat) : Int))]⟩, some ⟨true, [.one (.slice 1 0 0 X0.length X0.length), .one .nils, .one (.int .i64 ((1 : Nat) : Int))]⟩]) (X0.length) ⟨0, by omega, rfl, rfl, rfl⟩ (wk hE [0, 1, 2, 3, 4]) ?_
   rintro n_ T_ H_ ⟨k, hk, rfl, rfl, rfl⟩
   have hfl := fillT_len X0 1 k
   refine w_seq ?_
   refine w_seq ?_
   refine g_reg hP hn ?_
   refine s_op k_mv ?_
   refine s_op k_fa ?_
   refine s_op k_ld ?_
   refine s_op k_len ?_
   refine s_op k_lss ?_
   refine s_nil trivial ?_
   refine n_wp ?_
   refine w_if rfl (fun h_t25 => ?_) (fun h_t25 => ?_)
   · skip
     refine w_skip ?_
     refine n_wp ?_
     refine w_seq ?_
     refine w_block ?_
     refine g_any hP hn ?_
     refine s_op k_fa ?_
     refine s_op k_ld ?_
     refine s_op k_mv ?_
     refine s_op k_fa ?_
     refine s_op k_ld ?_
     refine s_op (k_call [] (con := mark_c 1 (by decide))) ?_
     refine s_op k_ix ?_
     refine s_st k_st ?_
     refine s_nil (by kernel_rfl) ?_
     refine n_blo ?_
     refine n_wp ?_
     refine g_reg hP hn ?_
     refine s_op k_mv ?_
     refine s_op k_add ?_
     refine s_op k_as ?_
     refine s_nil trivial ?_
     exact n_round (X0.length - (k + 1)) (by omega) ⟨k + 1, by omega, rfl, rfl, rfl⟩ (wk hE [0, 1, 2, 3, 4])
   · skip
     obtain rfl : k = X0.length := by omega
     rw [fillT_all]
     refine w_exit ?_
     refine x_thn ?_
     refine x_thn ?_
     refine x_eq ?_
     refine n_blo ?_
     refine n_wp ?_
     refine g_reg hP hn ?_
     refine s_op k_mv ?_
     refine s_op k_add ?_
     refine s_op k_as ?_
     refine s_nil trivial ?_
     exact n_round 1 (by omega) (.inr (.inl ⟨rfl, rfl, rfl⟩)) (wk hE [0, 1, 2, 3])
 · skip
   refine w_seq ?_
   refine w_seq ?_
   refine g_reg hP hn ?_
   refine s_op k_mv ?_
   refine s_op k_mv ?_
   refine s_op k_nc ?_
   refine s_op k_fa ?_
   refine s_op k_ld ?_
   refine s_op k_len ?_
   refine s_op k_lss ?_
   refine s_nil trivial ?_
   refine n_wp ?_
   refine w_T rfl ?_ 
   refine w_skip ?_
   refine n_wp ?_
   refine w_seq ?_
   refine w_block ?_
   refine w_seq ?_
   refine g_reg hP hn ?_
   refine s_op k_mv ?_
   refine s_op k_nc ?_
   refine s_op k_fa ?_
   refine s_op k_ld ?_
   refine s_op k_mv ?_
   refine s_op (k_ixG 3 1) ?_
   refine s_op (k_ld (h := by exact a_load_agg (sub := [.one (.slice 2 0 0 X1.length (X1.length + 1)), .one .nils, .one (.int .i64 ((2 : Nat) : Int))]) (r := [.one (.slice 2 0 0 X1.length (X1.length + 1)), .one .nils, .one (.int .i64 ((2 : Nat) : Int))]) rfl rfl (by kernel_rfl) (by kernel_rfl))) ?_
   refine s_op k_al ?_
   refine s_st (k_st (h := by exact a_store_agg rfl rfl rfl (put_w (by kernel_rfl)) (by exact Nat.le_of_ble_eq_true rfl) (by kernel_rfl) (by repeat (first | exact hset_0 | apply hset_s)))) ?_
   refine s_nil trivial ?_
   refine n_wp ?_
   refine w_seq ?_
   refine g_reg hP hn ?_
   refine s_op k_as ?_
   refine s_nil trivial ?_
   refine n_wp ?_
   refine w_block ?_
   refine c_loop (fun m_ T H => ∃ k, k ≤ X1.length ∧ m_ = X1.length - k ∧ T = [(0, .s (.ptr 0 0 0)), (2, .s (.int .i64 ((1 : Nat) : Int))), (3, .s (.ptr 4 0 0)), (4, .s (.int .i64 ((k : Nat) : Int)))] ∧ H = [some ⟨true, [.one (.int .i64 ((2 : Nat) : Int)), .one (.gro 3 3 2), .one .nils, .one .nils, .one .nils, .one .nils, .one .nils, .one .nils, .one .nils, .one .nils, .one .nils, .one .nils, .one .nils, .one .nils, .one .nils, .one .nils]⟩, some ⟨true, [.ints .u8 X0.length (List.replicate X0.length 1)]⟩, some ⟨true, [.ints .u8 (X1.length + 1) (fillT (X1 ++ [77]) 2 k)]⟩, some ⟨true, [.one (.slice 1 0 0 X0.length X0.length), .one .nils, .one (.int .i64 ((1 : Nat) : Int)), .one (.slice 2 0 0 X1.length (X1.length + 1)), .one .nils, .one (.int .i64 ((2 : Nat) : Int))]⟩, some ⟨true, [.one (.slice 2 0 0 X1.length (X1.length + 1)), .one .nils, .one (.int .i64 ((2 : Nat) : Int))]⟩]) (X1.length) ⟨0, by omega, rfl, rfl, rfl⟩ (wk hE [0, 1, 2, 3, 4]) ?_
   rintro n_ T_ H_ ⟨k, hk, rfl, rfl, rfl⟩
   have hfl := fillT_len (X1 ++ [77]) 2 k
   have hal : (X1 ++ [77]).length = X1.length + 1 := by simp
   refine w_seq ?_
   refine w_seq ?_
   refine g_reg hP hn ?_
   refine s_op k_mv ?_
   refine s_op k_fa ?_
   refine s_op k_ld ?_
   refine s_op k_len ?_
   refine s_op k_lss ?_
   refine s_nil trivial ?_
   refine n_wp ?_
   refine w_if rfl (fun h_t25 => ?_) (fun h_t25 => ?_)
   · skip
     refine w_skip ?_
     refine n_wp ?_
     refine w_seq ?_
     refine w_block ?_
     refine g_any hP hn ?_
     refine s_op k_fa ?_
     refine s_op k_ld ?_
     refine s_op k_mv ?_
     refine s_op k_fa ?_
     refine s_op k_ld ?_
     refine s_op (k_call [] (con := mark_c 2 (by decide))) ?_
     refine s_op k_ix ?_
     refine s_st k_st ?_
     refine s_nil (by kernel_rfl) ?_
     refine n_blo ?_
     refine n_wp ?_
     refine g_reg hP hn ?_
     refine s_op k_mv ?_
     refine s_op k_add ?_
     refine s_op k_as ?_
     refine s_nil trivial ?_
     exact n_round (X1.length - (k + 1)) (by omega) ⟨k + 1, by omega, rfl, rfl, rfl⟩ (wk hE [0, 1, 2, 3, 4])
   · skip
     obtain rfl : k = X1.length := by omega
     rw [fillT_a]
     refine w_exit ?_
     refine x_thn ?_
     refine x_thn ?_
     refine x_eq ?_
     refine n_blo ?_
     refine n_wp ?_
     refine g_reg hP hn ?_
     refine s_op k_mv ?_
     refine s_op k_add ?_
     refine s_op k_as ?_
     refine s_nil trivial ?_
     exact n_round 0 (by omega) (.inr (.inr (⟨rfl, rfl, rfl⟩))) (wk hE [0, 1, 2, 3])
 · skip
   refine w_seq ?_
   refine w_seq ?_
   refine g_reg hP hn ?_
   refine s_op k_mv ?_
   refine s_op k_mv ?_
   refine s_op k_nc ?_
   refine s_op k_fa ?_
   refine s_op k_ld ?_
   refine s_op k_len ?_
   refine s_op k_lss ?_
   refine s_nil trivial ?_
   refine n_wp ?_
   refine w_F rfl ?_ 
   refine w_exit ?_
   refine x_thn ?_
   refine x_thn ?_
   refine x_eq ?_
   exact d_ret hP hn hE [0, 1, 2, 3] (ret_none Tryz.results48)

theorem grow_BA (X0 : List Int) (hX0 : X0.length ≤ 100000) (X1 : List Int) (hX1 : X1.length ≤ 100000) : Con Tryz.prog 63 [.s (.ptr 0 0 0)] [some ⟨true, [.one (.int .i64 ((2 : Nat) : Int)), .one (.gro 3 3 2), .one .nils, .one .nils, .one .nils, .one .nils, .one .nils, .one .nils, .one .nils, .one .nils, .one .nils, .one .nils, .one .nils, .one .nils, .one .nils, .one .nils]⟩, some ⟨true, [.ints .u8 X0.length (List.replicate X0.length 1)]⟩, some ⟨true, [.ints .u8 (X1.length + 1) (List.replicate X1.length 2 ++ [77])]⟩, some ⟨true, [.one (.slice 1 0 0 X0.length X0.length), .one .nils, .one (.int .i64 ((1 : Nat) : Int)), .one (.slice 2 0 0 X1.length (X1.length + 1)), .one .nils, .one (.int .i64 ((2 : Nat) : Int))]⟩] (.tup []) [some ⟨true, [.one (.int .i64 ((2 : Nat) : Int)), .one (.gro 3 3 2), .one .nils, .one .nils, .one .nils, .one .nils, .one .nils, .one .nils, .one .nils, .one .nils, .one .nils, .one .nils, .one .nils, .one .nils, .one .nils, .one .nils]⟩, some ⟨true, [.ints .u8 X0.length (List.replicate X0.length 1)]⟩, some ⟨true, [.ints .u8 (X1.length + 1) (List.replicate (X1.length + 1) 2)]⟩, some ⟨true, [.one (.slice 1 0 0 X0.length X0.length), .one (.gro 4 1 (X0.length + 40)), .one (.int .i64 ((1 : Nat) : Int)), .one (.slice 2 0 0 X1.length (X1.length + 1)), .one (.gro 5 1 (X1.length + 40)), .one (.int .i64 ((2 : Nat) : Int))]⟩, some ⟨true, [.ints .u8 (X0.length + 40) (List.replicate (X0.length + 40) 1)]⟩, some ⟨true, [.ints .u8 (X1.length + 40) (List.replicate (X1.length + 40) 2)]⟩] := by
 refine con_in 42 Tryz.func63 rfl rfl (m := 4) rfl ?_
 intro E hP hn hE
 refine w_seq ?_
 refine g_reg hP hn ?_
 refine s_op k_as ?_
 refine s_nil trivial ?_
 refine n_wp ?_
 refine w_block ?_
 refine c_loop (fun m_ T H => (m_ = 2 ∧ T = [(0, .s (.ptr 0 0 0)), (2, .s (.int .i64 ((0 : Nat) : Int)))] ∧ H = [some ⟨true, [.one (.int .i64 ((2 : Nat) : Int)), .one (.gro 3 3 2), .one .nils, .one .nils, .one .nils, .one .nils, .one .nils, .one .nils, .one .nils, .one .nils, .one .nils, .one .nils, .one .nils, .one .nils, .one .nils, .one .nils]⟩, some ⟨true, [.ints .u8 X0.length (List.replicate X0.length 1)]⟩, some ⟨true, [.ints .u8 (X1.length + 1) (List.replicate X1.length 2 ++ [77])]⟩, some ⟨true, [.one (.slice 1 0 0 X0.length X0.length), .one .nils, .one (.int .i64 ((1 : Nat) : Int)), .one (.slice 2 0 0 X1.length (X1.length + 1)), .one .nils, .one (.int .i64 ((2 : Nat) : Int))]⟩]) ∨ (m_ = 1 ∧ T = [(0, .s (.ptr 0 0 0)), (2, .s (.int .i64 ((1 : Nat) : Int)))] ∧ H = [some ⟨true, [.one (.int .i64 ((2 : Nat) : Int)), .one (.gro 3 3 2), .one .nils, .one .nils, .one .nils, .one .nils, .one .nils, .one .nils, .one .nils, .one .nils, .one .nils, .one .nils, .one .nils, .one .nils, .one .nils, .one .nils]⟩, some ⟨true, [.ints .u8 X0.length (List.replicate X0.length 1)]⟩, some ⟨true, [.ints .u8 (X1.length + 1) (List.replicate X1.length 2 ++ [77])]⟩, some ⟨true, [.one (.slice 1 0 0 X0.length X0.length), .one (.gro 4 1 (X0.length + 40)), .one (.int .i64 ((1 : Nat) : Int)), .one (.slice 2 0 0 X1.length (X1.length + 1)), .one .nils, .one (.int .i64 ((2 : Nat) : Int))]⟩, some ⟨true, [.ints .u8 (X0.length + 40) (List.replicate (X0.length + 40) 1)]⟩]) ∨ (m_ = 0 ∧ T = [(0, .s (.ptr 0 0 0)), (2, .s (.int .i64 ((2 : Nat) : Int)))] ∧ H = [some ⟨true, [.one (.int .i64 ((2 : Nat) : Int)), .one (.gro 3 3 2), .one .nils, .one .nils, .one .nils, .one .nils, .one .nils, .one .nils, .one .nils, .one .nils, .one .nils, .one .nils, .one .nils, .one .nils, .one .nils, .one .nils]⟩, some ⟨true, [.ints .u8 X0.length (List.replicate X0.length 1)]⟩, some ⟨true, [.ints .u8 (X1.length + 1) (List.replicate (X1.length + 1) 2)]⟩, some ⟨true, [.one (.slice 1 0 0 X0.length X0.length), .one (.gro 4 1 (X0.length + 40)), .one (.int .i64 ((1 : Nat) : Int)), .one (.slice 2 0 0 X1.length (X1.length + 1)), .one (.gro 5 1 (X1.length + 40)), .one (.int .i64 ((2 : Nat) : Int))]⟩, some ⟨true, [.ints .u8 (X0.length + 40) (List.replicate (X0.length + 40) 1)]⟩, some ⟨true, [.ints .u8 (X1.length + 40) (List.replicate (X1.length + 40) 2)]⟩])) (2) (.inl ⟨rfl, rfl, rfl⟩) (wk hE [0, 1, 2, 3]) ?_
 rintro n_ T_ H_ (⟨rfl, rfl, rfl⟩ | ⟨rfl, rfl, rfl⟩ | ⟨rfl, rfl, rfl⟩)
 · skip
   refine w_seq ?_
   refine w_seq ?_
   refine g_reg hP hn ?_
   refine s_op k_mv ?_
   refine s_op k_mv ?_
   refine s_op k_nc ?_
   refine s_op k_fa ?_
   refine s_op k_ld ?_
   refine s_op k_len ?_
   refine s_op k_lss ?_
   refine s_nil trivial ?_
   refine n_wp ?_
   refine w_T rfl ?_ 
   refine w_skip ?_
   refine n_wp ?_
   refine w_seq ?_
   refine w_block ?_
   refine w_seq ?_
   refine g_reg hP hn ?_
   refine s_op k_mv ?_
   refine s_op k_nc ?_
   refine s_op k_fa ?_
   refine s_op k_ld ?_
   refine s_op k_mv ?_
   refine s_op (k_ixG 0 0) ?_
   refine s_op (k_ld (h := by exact a_load_agg (sub := [.one (.slice 1 0 0 X0.length X0.length), .one .nils, .one (.int .i64 ((1 : Nat) : Int))]) (r := [.one (.slice 1 0 0 X0.length X0.length), .one .nils, .one (.int .i64 ((1 : Nat) : Int)), .one (.slice 2 0 0 X1.length (X1.length + 1)), .one .nils, .one (.int .i64 ((2 : Nat) : Int))]) rfl rfl (by kernel_rfl) (by kernel_rfl))) ?_
   refine s_op k_al ?_
   refine s_st (k_st (h := by exact a_store_agg rfl rfl rfl (put_w (by kernel_rfl)) (by exact Nat.le_of_ble_eq_true rfl) (by kernel_rfl) (by repeat (first | exact hset_0 | apply hset_s)))) ?_
   refine s_nil trivial ?_
   refine n_wp ?_
   refine w_seq ?_
   refine g_reg hP hn ?_
   refine s_op k_fa ?_
   refine s_op k_ld ?_
   refine s_op k_as ?_
   refine s_nil trivial ?_
   refine n_wp ?_
   refine w_seq ?_
   refine w_seq ?_
   refine g_reg hP hn ?_
   refine s_op k_as ?_
   refine s_nil trivial ?_
   refine n_wp ?_
   refine w_block ?_
   refine c_loop (fun m_ T H => (m_ = 40 ∧ T = [(0, .s (.ptr 0 0 0)), (2, .s (.int .i64 ((0 : Nat) : Int))), (3, .s (.ptr 4 0 0)), (4, .s (.slice 1 0 0 X0.length X0.length)), (5, .s (.int .i64 ((0 : Nat) : Int)))] ∧ H = [some ⟨true, [.one (.int .i64 ((2 : Nat) : Int)), .one (.gro 3 3 2), .one .nils, .one .nils, .one .nils, .one .nils, .one .nils, .one .nils, .one .nils, .one .nils, .one .nils, .one .nils, .one .nils, .one .nils, .one .nils, .one .nils]⟩, some ⟨true, [.ints .u8 X0.length (List.replicate X0.length 1)]⟩, some ⟨true, [.ints .u8 (X1.length + 1) (List.replicate X1.length 2 ++ [77])]⟩, some ⟨true, [.one (.slice 1 0 0 X0.length X0.length), .one .nils, .one (.int .i64 ((1 : Nat) : Int)), .one (.slice 2 0 0 X1.length (X1.length + 1)), .one .nils, .one (.int .i64 ((2 : Nat) : Int))]⟩, some ⟨true, [.one (.slice 1 0 0 X0.length X0.length), .one .nils, .one (.int .i64 ((1 : Nat) : Int))]⟩]) ∨ (∃ k, 1 ≤ k ∧ k ≤ 40 ∧ m_ = 40 - k ∧ T = [(0, .s (.ptr 0 0 0)), (2, .s (.int .i64 ((0 : Nat) : Int))), (3, .s (.ptr 4 0 0)), (4, .s (.gro 5 1 (X0.length + k))), (5, .s (.int .i64 ((k : Nat) : Int)))] ∧ H = [some ⟨true, [.one (.int .i64 ((2 : Nat) : Int)), .one (.gro 3 3 2), .one .nils, .one .nils, .one .nils, .one .nils, .one .nils, .one .nils, .one .nils, .one .nils, .one .nils, .one .nils, .one .nils, .one .nils, .one .nils, .one .nils]⟩, some ⟨true, [.ints .u8 X0.length (List.replicate X0.length 1)]⟩, some ⟨true, [.ints .u8 (X1.length + 1) (List.replicate X1.length 2 ++ [77])]⟩, some ⟨true, [.one (.slice 1 0 0 X0.length X0.length), .one .nils, .one (.int .i64 ((1 : Nat) : Int)), .one (.slice 2 0 0 X1.length (X1.length + 1)), .one .nils, .one (.int .i64 ((2 : Nat) : Int))]⟩, some ⟨true, [.one (.slice 1 0 0 X0.length X0.length), .one .nils, .one (.int .i64 ((1 : Nat) : Int))]⟩, some ⟨true, [.ints .u8 (X0.length + k) (List.replicate (X0.length + k) 1)]⟩])) (40) (.inl ⟨rfl, rfl, rfl⟩) (wk hE [0, 1, 2, 3, 4]) ?_
   rintro n_ T_ H_ (⟨rfl, rfl, rfl⟩ | ⟨k, hk1, hk2, rfl, rfl, rfl⟩)
   · skip
     refine w_seq ?_
     refine w_seq ?_
     refine g_reg hP hn ?_
     refine s_op k_mv ?_
     refine s_op k_lss ?_
     refine s_nil trivial ?_
     refine n_wp ?_
     refine w_T rfl ?_ 
     refine w_skip ?_
     refine n_wp ?_
     refine w_seq ?_
     refine w_block ?_
     refine g_reg hP hn ?_
     refine s_op k_mv ?_
     refine s_op k_fa ?_
     refine s_op k_ld ?_
     refine s_op (k_call [] (con := mark_c 1 (by decide))) ?_
     refine s_op k_bsf ?_
     refine s_op (k_apf (c := X0.length + 1) (l' := List.replicate (X0.length + 1) 1) (hl' := rep_s _ _) (h0 := by exact Nat.zero_lt_one) (hbig := by show X0.length + 1 ≤ 1000000; omega)) ?_
     refine s_op k_as ?_
     refine s_nil trivial ?_
     refine n_blo ?_
     refine n_wp ?_
     refine g_reg hP hn ?_
     refine s_op k_mv ?_
     refine s_op k_add ?_
     refine s_op k_as ?_
     refine s_nil trivial ?_
     exact n_round 39 (by omega) (.inr ⟨1, by omega, by omega, rfl, rfl, rfl⟩) (wk hE [0, 1, 2, 3, 4, 6])
   · skip
     refine w_seq ?_
     refine w_seq ?_
     refine g_reg hP hn ?_
     refine s_op k_mv ?_
     refine s_op k_lss ?_
     refine s_nil trivial ?_
     refine n_wp ?_
     refine w_if rfl (fun h_t25 => ?_) (fun h_t25 => ?_)
     · skip
       refine w_skip ?_
       refine n_wp ?_
       refine w_seq ?_
       refine w_block ?_
       refine g_reg hP hn ?_
       refine s_op k_mv ?_
       refine s_op k_fa ?_
       refine s_op k_ld ?_
       refine s_op (k_call [] (con := mark_c 1 (by decide))) ?_
       refine s_op k_bsf ?_
       refine s_op (k_apg (c := X0.length + (k + 1)) (l' := List.replicate (X0.length + (k + 1)) 1) (hl' := rep_t _ _) (hq := by exact Nat.le_refl _) (hbig := by show X0.length + k + 1 ≤ 1000000; omega)) ?_
       refine s_op k_as ?_
       refine s_nil trivial ?_
       refine n_blo ?_
       refine n_wp ?_
       refine g_reg hP hn ?_
       refine s_op k_mv ?_
       refine s_op k_add ?_
       refine s_op k_as ?_
       refine s_nil trivial ?_
       exact n_round (40 - (k + 1)) (by omega) (.inr ⟨k + 1, by omega, by omega, rfl, rfl, rfl⟩) (wk hE [0, 1, 2, 3, 4, 7])
     · skip
       obtain rfl : k = 40 := by omega
       refine w_exit ?_
       refine x_thn ?_
       refine x_thn ?_
       refine x_eq ?_
       refine n_wp ?_
       refine g_reg hP hn ?_
       refine s_op k_mv ?_
       refine s_op k_nc ?_
       refine s_op k_fa ?_
       refine s_op k_ld ?_
       refine s_op k_mv ?_
       refine s_op k_mv ?_
       refine s_op (k_ixG 0 0) ?_
       refine s_op k_fa ?_
       refine s_st (k_st (h := by exact a_store_one rfl rfl SV.noConfusion rfl rfl (hset_seg (by repeat (first | apply sset_s _ rfl rfl | exact sset_0)) (by repeat (first | exact hset_0 | apply hset_s))))) ?_
       refine s_nil trivial ?_
       refine n_blo ?_
       refine n_wp ?_
       refine g_reg hP hn ?_
       refine s_op k_mv ?_
       refine s_op k_add ?_
       refine s_op k_as ?_
       refine s_nil trivial ?_
       exact n_round 1 (by omega) (.inr (.inl ⟨rfl, rfl, rfl⟩)) (wk hE [0, 1, 2, 3, 5])
 · skip
   refine w_seq ?_
   refine w_seq ?_
   refine g_reg hP hn ?_
   refine s_op k_mv ?_
   refine s_op k_mv ?_
   refine s_op k_nc ?_
   refine s_op k_fa ?_
   refine s_op k_ld ?_
   refine s_op k_len ?_
   refine s_op k_lss ?_
   refine s_nil trivial ?_
   refine n_wp ?_
   refine w_T rfl ?_ 
   refine w_skip ?_
   refine n_wp ?_
   refine w_seq ?_
   refine w_block ?_
   refine w_seq ?_
   refine g_reg hP hn ?_
   refine s_op k_mv ?_
   refine s_op k_nc ?_
   refine s_op k_fa ?_
   refine s_op k_ld ?_
   refine s_op k_mv ?_
   refine s_op (k_ixG 3 1) ?_
   refine s_op (k_ld (h := by exact a_load_agg (sub := [.one (.slice 2 0 0 X1.length (X1.length + 1)), .one .nils, .one (.int .i64 ((2 : Nat) : Int))]) (r := [.one (.slice 2 0 0 X1.length (X1.length + 1)), .one .nils, .one (.int .i64 ((2 : Nat) : Int))]) rfl rfl (by kernel_rfl) (by kernel_rfl))) ?_
   refine s_op k_al ?_
   refine s_st (k_st (h := by exact a_store_agg rfl rfl rfl (put_w (by kernel_rfl)) (by exact Nat.le_of_ble_eq_true rfl) (by kernel_rfl) (by repeat (first | exact hset_0 | apply hset_s)))) ?_
   refine s_nil trivial ?_
   refine n_wp ?_
   refine w_seq ?_
   refine g_reg hP hn ?_
   refine s_op k_fa ?_
   refine s_op k_ld ?_
   refine s_op k_as ?_
   refine s_nil trivial ?_
   refine n_wp ?_
   refine w_seq ?_
   refine w_seq ?_
   refine g_reg hP hn ?_
   refine s_op k_as ?_
   refine s_nil trivial ?_
   refine n_wp ?_
   refine w_block ?_
   refine c_loop (fun m_ T H => (m_ = 40 ∧ T = [(0, .s (.ptr 0 0 0)), (2, .s (.int .i64 ((1 : Nat) : Int))), (3, .s (.ptr 5 0 0)), (4, .s (.slice 2 0 0 X1.length (X1.length + 1))), (5, .s (.int .i64 ((0 : Nat) : Int)))] ∧ H = [some ⟨true, [.one (.int .i64 ((2 : Nat) : Int)), .one (.gro 3 3 2), .one .nils, .one .nils, .one .nils, .one .nils, .one .nils, .one .nils, .one .nils, .one .nils, .one .nils, .one .nils, .one .nils, .one .nils, .one .nils, .one .nils]⟩, some ⟨true, [.ints .u8 X0.length (List.replicate X0.length 1)]⟩, some ⟨true, [.ints .u8 (X1.length + 1) (List.replicate X1.length 2 ++ [77])]⟩, some ⟨true, [.one (.slice 1 0 0 X0.length X0.length), .one (.gro 4 1 (X0.length + 40)), .one (.int .i64 ((1 : Nat) : Int)), .one (.slice 2 0 0 X1.length (X1.length + 1)), .one .nils, .one (.int .i64 ((2 : Nat) : Int))]⟩, some ⟨true, [.ints .u8 (X0.length + 40) (List.replicate (X0.length + 40) 1)]⟩, some ⟨true, [.one (.slice 2 0 0 X1.length (X1.length + 1)), .one .nils, .one (.int .i64 ((2 : Nat) : Int))]⟩]) ∨ (m_ = 39 ∧ T = [(0, .s (.ptr 0 0 0)), (2, .s (.int .i64 ((1 : Nat) : Int))), (3, .s (.ptr 5 0 0)), (4, .s (.slice 2 0 0 (X1.length + 1) (X1.length + 1))), (5, .s (.int .i64 ((1 : Nat) : Int)))] ∧ H = [some ⟨true, [.one (.int .i64 ((2 : Nat) : Int)), .one (.gro 3 3 2), .one .nils, .one .nils, .one .nils, .one .nils, .one .nils, .one .nils, .one .nils, .one .nils, .one .nils, .one .nils, .one .nils, .one .nils, .one .nils, .one .nils]⟩, some ⟨true, [.ints .u8 X0.length (List.replicate X0.length 1)]⟩, some ⟨true, [.ints .u8 (X1.length + 1) (List.replicate (X1.length + 1) 2)]⟩, some ⟨true, [.one (.slice 1 0 0 X0.length X0.length), .one (.gro 4 1 (X0.length + 40)), .one (.int .i64 ((1 : Nat) : Int)), .one (.slice 2 0 0 X1.length (X1.length + 1)), .one .nils, .one (.int .i64 ((2 : Nat) : Int))]⟩, some ⟨true, [.ints .u8 (X0.length + 40) (List.replicate (X0.length + 40) 1)]⟩, some ⟨true, [.one (.slice 2 0 0 X1.length (X1.length + 1)), .one .nils, .one (.int .i64 ((2 : Nat) : Int))]⟩]) ∨ (∃ k, 2 ≤ k ∧ k ≤ 40 ∧ m_ = 40 - k ∧ T = [(0, .s (.ptr 0 0 0)), (2, .s (.int .i64 ((1 : Nat) : Int))), (3, .s (.ptr 5 0 0)), (4, .s (.gro 6 1 (X1.length + k))), (5, .s (.int .i64 ((k : Nat) : Int)))] ∧ H = [some ⟨true, [.one (.int .i64 ((2 : Nat) : Int)), .one (.gro 3 3 2), .one .nils, .one .nils, .one .nils, .one .nils, .one .nils, .one .nils, .one .nils, .one .nils, .one .nils, .one .nils, .one .nils, .one .nils, .one .nils, .one .nils]⟩, some ⟨true, [.ints .u8 X0.length (List.replicate X0.length 1)]⟩, some ⟨true, [.ints .u8 (X1.length + 1) (List.replicate (X1.length + 1) 2)]⟩, some ⟨true, [.one (.slice 1 0 0 X0.length X0.length), .one (.gro 4 1 (X0.length + 40)), .one (.int .i64 ((1 : Nat) : Int)), .one (.slice 2 0 0 X1.length (X1.length + 1)), .one .nils, .one (.int .i64 ((2 : Nat) : Int))]⟩, some ⟨true, [.ints .u8 (X0.length + 40) (List.replicate (X0.length + 40) 1)]⟩, some ⟨true, [.one (.slice 2 0 0 X1.length (X1.length + 1)), .one .nils, .one (.int .i64 ((2 : Nat) : Int))]⟩, some ⟨true, [.ints .u8 (X1.length + k) (List.replicate (X1.length + k) 2)]⟩])) (40) (.inl ⟨rfl, rfl, rfl⟩) (wk hE [0, 1, 2, 3, 4, 5]) ?_
   rintro n_ T_ H_ (⟨rfl, rfl, rfl⟩ | ⟨rfl, rfl, rfl⟩ | ⟨k, hk1, hk2, rfl, rfl, rfl⟩)
   · skip
     refine w_seq ?_
     refine w_seq ?_
     refine g_reg hP hn ?_
     refine s_op k_mv ?_
     refine s_op k_lss ?_
     refine s_nil trivial ?_
     refine n_wp ?_
     refine w_T rfl ?_ 
     refine w_skip ?_
     refine n_wp ?_
     refine w_seq ?_
     refine w_block ?_
     refine g_reg hP hn ?_
     refine s_op k_mv ?_
     refine s_op k_fa ?_
     refine s_op k_ld ?_
     refine s_op (k_call [] (con := mark_c 2 (by decide))) ?_
     refine s_op k_bsf ?_
     refine s_op (k_apj (List.replicate (X1.length + 1) 2) (hl' := rep_j _ _)) ?_
     refine s_op k_as ?_
     refine s_nil trivial ?_
     refine n_blo ?_
     refine n_wp ?_
     refine g_reg hP hn ?_
     refine s_op k_mv ?_
     refine s_op k_add ?_
     refine s_op k_as ?_
     refine s_nil trivial ?_
     exact n_round 39 (by omega) (.inr (.inl ⟨rfl, rfl, rfl⟩)) (wk hE [0, 1, 2, 3, 4, 5])
   · skip
     refine w_seq ?_
     refine w_seq ?_
     refine g_reg hP hn ?_
     refine s_op k_mv ?_
     refine s_op k_lss ?_
     refine s_nil trivial ?_
     refine n_wp ?_
     refine w_T rfl ?_ 
     refine w_skip ?_
     refine n_wp ?_
     refine w_seq ?_
     refine w_block ?_
     refine g_reg hP hn ?_
     refine s_op k_mv ?_
     refine s_op k_fa ?_
     refine s_op k_ld ?_
     refine s_op (k_call [] (con := mark_c 2 (by decide))) ?_
     refine s_op k_bsf ?_
     refine s_op (k_apf (c := X1.length + 2) (l' := List.replicate (X1.length + 2) 2) (hl' := rep_s _ _) (h0 := by exact Nat.zero_lt_one) (hbig := by show X1.length + 1 + 1 ≤ 1000000; omega)) ?_
     refine s_op k_as ?_
     refine s_nil trivial ?_
     refine n_blo ?_
     refine n_wp ?_
     refine g_reg hP hn ?_
     refine s_op k_mv ?_
     refine s_op k_add ?_
     refine s_op k_as ?_
     refine s_nil trivial ?_
     exact n_round 38 (by omega) (.inr (.inr ⟨2, by omega, by omega, rfl, rfl, rfl⟩)) (wk hE [0, 1, 2, 3, 4, 5, 7])
   · skip
     refine w_seq ?_
     refine w_seq ?_
     refine g_reg hP hn ?_
     refine s_op k_mv ?_
     refine s_op k_lss ?_
     refine s_nil trivial ?_
     refine n_wp ?_
     refine w_if rfl (fun h_t25 => ?_) (fun h_t25 => ?_)
     · skip
       refine w_skip ?_
       refine n_wp ?_
       refine w_seq ?_
       refine w_block ?_
       refine g_reg hP hn ?_
       refine s_op k_mv ?_
       refine s_op k_fa ?_
       refine s_op k_ld ?_
       refine s_op (k_call [] (con := mark_c 2 (by decide))) ?_
       refine s_op k_bsf ?_
       refine s_op (k_apg (c := X1.length + (k + 1)) (l' := List.replicate (X1.length + (k + 1)) 2) (hl' := rep_t _ _) (hq := by exact Nat.le_refl _) (hbig := by show X1.length + k + 1 ≤ 1000000; omega)) ?_
       refine s_op k_as ?_
       refine s_nil trivial ?_
       refine n_blo ?_
       refine n_wp ?_
       refine g_reg hP hn ?_
       refine s_op k_mv ?_
       refine s_op k_add ?_
       refine s_op k_as ?_
       refine s_nil trivial ?_
       exact n_round (40 - (k + 1)) (by omega) (.inr (.inr ⟨k + 1, by omega, by omega, rfl, rfl, rfl⟩)) (wk hE [0, 1, 2, 3, 4, 5, 8])
     · skip
       obtain rfl : k = 40 := by omega
       refine w_exit ?_
       refine x_thn ?_
       refine x_thn ?_
       refine x_eq ?_
       refine n_wp ?_
       refine g_reg hP hn ?_
       refine s_op k_mv ?_
       refine s_op k_nc ?_
       refine s_op k_fa ?_
       refine s_op k_ld ?_
       refine s_op k_mv ?_
       refine s_op k_mv ?_
       refine s_op (k_ixG 3 1) ?_
       refine s_op k_fa ?_
       refine s_st (k_st (h := by exact a_store_one rfl rfl SV.noConfusion rfl rfl (hset_seg (by repeat (first | apply sset_s _ rfl rfl | exact sset_0)) (by repeat (first | exact hset_0 | apply hset_s))))) ?_
       refine s_nil trivial ?_
       refine n_blo ?_
       refine n_wp ?_
       refine g_reg hP hn ?_
       refine s_op k_mv ?_
       refine s_op k_add ?_
       refine s_op k_as ?_
       refine s_nil trivial ?_
       exact n_round 0 (by omega) (.inr (.inr (⟨rfl, rfl, rfl⟩))) (wk hE [0, 1, 2, 3, 4, 6])
 · skip
   refine w_seq ?_
   refine w_seq ?_
   refine g_reg hP hn ?_
   refine s_op k_mv ?_
   refine s_op k_mv ?_
   refine s_op k_nc ?_
   refine s_op k_fa ?_
   refine s_op k_ld ?_
   refine s_op k_len ?_
   refine s_op k_lss ?_
   refine s_nil trivial ?_
   refine n_wp ?_
   refine w_F rfl ?_ 
   refine w_exit ?_
   refine x_thn ?_
   refine x_thn ?_
   refine x_eq ?_
   exact d_ret hP hn hE [0, 1, 2, 3, 4, 5] (ret_none Tryz.results63)

theorem look_BA (X0 : List Int) (hX0 : X0.length ≤ 100000) (X1 : List Int) (hX1 : X1.length ≤ 100000) : Con Tryz.prog 78 [.s (.ptr 0 0 0)] [some ⟨true, [.one (.int .i64 ((2 : Nat) : Int)), .one (.gro 3 3 2), .one .nils, .one .nils, .one .nils, .one .nils, .one .nils, .one .nils, .one .nils, .one .nils, .one .nils, .one .nils, .one .nils, .one .nils, .one .nils, .one .nils]⟩, some ⟨true, [.ints .u8 X0.length (List.replicate X0.length 1)]⟩, some ⟨true, [.ints .u8 (X1.length + 1) (List.replicate (X1.length + 1) 2)]⟩, some ⟨true, [.one (.slice 1 0 0 X0.length X0.length), .one (.gro 4 1 (X0.length + 40)), .one (.int .i64 ((1 : Nat) : Int)), .one (.slice 2 0 0 X1.length (X1.length + 1)), .one (.gro 5 1 (X1.length + 40)), .one (.int .i64 ((2 : Nat) : Int))]⟩, some ⟨true, [.ints .u8 (X0.length + 40) (List.replicate (X0.length + 40) 1)]⟩, some ⟨true, [.ints .u8 (X1.length + 40) (List.replicate (X1.length + 40) 2)]⟩] (.s (.bool true)) [some ⟨true, [.one (.int .i64 ((2 : Nat) : Int)), .one (.gro 3 3 2), .one .nils, .one .nils, .one .nils, .one .nils, .one .nils, .one .nils, .one .nils, .one .nils, .one .nils, .one .nils, .one .nils, .one .nils, .one .nils, .one .nils]⟩, some ⟨true, [.ints .u8 X0.length (List.replicate X0.length 1)]⟩, some ⟨true, [.ints .u8 (X1.length + 1) (List.replicate (X1.length + 1) 2)]⟩, some ⟨true, [.one (.slice 1 0 0 X0.length X0.length), .one (.gro 4 1 (X0.length + 40)), .one (.int .i64 ((1 : Nat) : Int)), .one (.slice 2 0 0 X1.length (X1.length + 1)), .one (.gro 5 1 (X1.length + 40)), .one (.int .i64 ((2 : Nat) : Int))]⟩, some ⟨true, [.ints .u8 (X0.length + 40) (List.replicate (X0.length + 40) 1)]⟩, some ⟨true, [.ints .u8 (X1.length + 40) (List.replicate (X1.length + 40) 2)]⟩] := by
 refine con_in 64 Tryz.func78 rfl rfl (m := 6) rfl ?_
 intro E hP hn hE
 refine w_seq ?_
 refine g_reg hP hn ?_
 refine s_op k_as ?_
 refine s_nil trivial ?_
 refine n_wp ?_
 refine w_seq ?_
 refine w_seq ?_
 refine g_reg hP hn ?_
 refine s_op k_as ?_
 refine s_nil trivial ?_
 refine n_wp ?_
 refine w_block ?_
 refine c_loop (fun m_ T H => (m_ = 2 ∧ T = [(0, .s (.ptr 0 0 0)), (3, .s (.int .i64 ((0 : Nat) : Int)))] ∧ H = [some ⟨true, [.one (.int .i64 ((2 : Nat) : Int)), .one (.gro 3 3 2), .one .nils, .one .nils, .one .nils, .one .nils, .one .nils, .one .nils, .one .nils, .one .nils, .one .nils, .one .nils, .one .nils, .one .nils, .one .nils, .one .nils]⟩, some ⟨true, [.ints .u8 X0.length (List.replicate X0.length 1)]⟩, some ⟨true, [.ints .u8 (X1.length + 1) (List.replicate (X1.length + 1) 2)]⟩, some ⟨true, [.one (.slice 1 0 0 X0.length X0.length), .one (.gro 4 1 (X0.length + 40)), .one (.int .i64 ((1 : Nat) : Int)), .one (.slice 2 0 0 X1.length (X1.length + 1)), .one (.gro 5 1 (X1.length + 40)), .one (.int .i64 ((2 : Nat) : Int))]⟩, some ⟨true, [.ints .u8 (X0.length + 40) (List.replicate (X0.length + 40) 1)]⟩, some ⟨true, [.ints .u8 (X1.length + 40) (List.replicate (X1.length + 40) 2)]⟩]) ∨ (m_ = 1 ∧ T = [(0, .s (.ptr 0 0 0)), (3, .s (.int .i64 ((1 : Nat) : Int)))] ∧ H = [some ⟨true, [.one (.int .i64 ((2 : Nat) : Int)), .one (.gro 3 3 2), .one .nils, .one .nils, .one .nils, .one .nils, .one .nils, .one .nils, .one .nils, .one .nils, .one .nils, .one .nils, .one .nils, .one .nils, .one .nils, .one .nils]⟩, some ⟨true, [.ints .u8 X0.length (List.replicate X0.length 1)]⟩, some ⟨true, [.ints .u8 (X1.length + 1) (List.replicate (X1.length + 1) 2)]⟩, some ⟨true, [.one (.slice 1 0 0 X0.length X0.length), .one (.gro 4 1 (X0.length + 40)), .one (.int .i64 ((1 : Nat) : Int)), .one (.slice 2 0 0 X1.length (X1.length + 1)), .one (.gro 5 1 (X1.length + 40)), .one (.int .i64 ((2 : Nat) : Int))]⟩, some ⟨true, [.ints .u8 (X0.length + 40) (List.replicate (X0.length + 40) 1)]⟩, some ⟨true, [.ints .u8 (X1.length + 40) (List.replicate (X1.length + 40) 2)]⟩]) ∨ (m_ = 0 ∧ T = [(0, .s (.ptr 0 0 0)), (3, .s (.int .i64 ((2 : Nat) : Int)))] ∧ H = [some ⟨true, [.one (.int .i64 ((2 : Nat) : Int)), .one (.gro 3 3 2), .one .nils, .one .nils, .one .nils, .one .nils, .one .nils, .one .nils, .one .nils, .one .nils, .one .nils, .one .nils, .one .nils, .one .nils, .one .nils, .one .nils]⟩, some ⟨true, [.ints .u8 X0.length (List.replicate X0.length 1)]⟩, some ⟨true, [.ints .u8 (X1.length + 1) (List.replicate (X1.length + 1) 2)]⟩, some ⟨true, [.one (.slice 1 0 0 X0.length X0.length), .one (.gro 4 1 (X0.length + 40)), .one (.int .i64 ((1 : Nat) : Int)), .one (.slice 2 0 0 X1.length (X1.length + 1)), .one (.gro 5 1 (X1.length + 40)), .one (.int .i64 ((2 : Nat) : Int))]⟩, some ⟨true, [.ints .u8 (X0.length + 40) (List.replicate (X0.length + 40) 1)]⟩, some ⟨true, [.ints .u8 (X1.length + 40) (List.replicate (X1.length + 40) 2)]⟩])) (2) (.inl ⟨rfl, rfl, rfl⟩) (wk hE [0, 1, 2, 3, 4, 5]) ?_
 rintro n_ T_ H_ (⟨rfl, rfl, rfl⟩ | ⟨rfl, rfl, rfl⟩ | ⟨rfl, rfl, rfl⟩)
 · skip
   refine w_seq ?_
   refine w_seq ?_
   refine g_reg hP hn ?_
   refine s_op k_mv ?_
   refine s_op k_mv ?_
   refine s_op k_nc ?_
   refine s_op k_fa ?_
   refine s_op k_ld ?_
   refine s_op k_len ?_
   refine s_op k_lss ?_
   refine s_nil trivial ?_
   refine n_wp ?_
   refine w_T rfl ?_ 
   refine w_skip ?_
   refine n_wp ?_
   refine w_seq ?_
   refine w_block ?_
   refine w_seq ?_
   refine g_reg hP hn ?_
   refine s_op k_mv ?_
   refine s_op k_nc ?_
   refine s_op k_fa ?_
   refine s_op k_ld ?_
   refine s_op k_mv ?_
   refine s_op (k_ixG 0 0) ?_
   refine s_op (k_ld (h := by exact a_load_agg (sub := [.one (.slice 1 0 0 X0.length X0.length), .one (.gro 4 1 (X0.length + 40)), .one (.int .i64 ((1 : Nat) : Int))]) (r := [.one (.slice 1 0 0 X0.length X0.length), .one (.gro 4 1 (X0.length + 40)), .one (.int .i64 ((1 : Nat) : Int)), .one (.slice 2 0 0 X1.length (X1.length + 1)), .one (.gro 5 1 (X1.length + 40)), .one (.int .i64 ((2 : Nat) : Int))]) rfl rfl (by kernel_rfl) (by kernel_rfl))) ?_
   refine s_op k_al ?_
   refine s_st (k_st (h := by exact a_store_agg rfl rfl rfl (put_w (by kernel_rfl)) (by exact Nat.le_of_ble_eq_true rfl) (by kernel_rfl) (by repeat (first | exact hset_0 | apply hset_s)))) ?_
   refine s_nil trivial ?_
   refine n_wp ?_
   refine w_seq ?_
   refine w_seq ?_
   refine g_reg hP hn ?_
   refine s_op k_fa ?_
   refine s_op k_ld ?_
   refine s_op k_len ?_
   refine s_op k_fa ?_
   refine s_op k_ld ?_
   refine s_op k_len ?_
   refine s_op k_add ?_
   refine s_op (l_bin rfl rfl (b_neq (r := false) (decide_eq_false (by omega)))) ?_
   refine s_nil trivial ?_
   refine n_wp ?_
   refine w_F rfl ?_ 
   refine w_skip ?_
   refine n_wp ?_
   refine w_seq ?_
   refine g_reg hP hn ?_
   refine s_op k_as ?_
   refine s_nil trivial ?_
   refine n_wp ?_
   refine w_block ?_
   refine c_loop (fun m_ T H => ∃ k, k ≤ X0.length + 40 ∧ m_ = X0.length + 40 - k ∧ T = [(0, .s (.ptr 0 0 0)), (3, .s (.int .i64 ((0 : Nat) : Int))), (4, .s (.ptr 6 0 0)), (5, .s (.int .i64 ((k : Nat) : Int)))] ∧ H = [some ⟨true, [.one (.int .i64 ((2 : Nat) : Int)), .one (.gro 3 3 2), .one .nils, .one .nils, .one .nils, .one .nils, .one .nils, .one .nils, .one .nils, .one .nils, .one .nils, .one .nils, .one .nils, .one .nils, .one .nils, .one .nils]⟩, some ⟨true, [.ints .u8 X0.length (List.replicate X0.length 1)]⟩, some ⟨true, [.ints .u8 (X1.length + 1) (List.replicate (X1.length + 1) 2)]⟩, some ⟨true, [.one (.slice 1 0 0 X0.length X0.length), .one (.gro 4 1 (X0.length + 40)), .one (.int .i64 ((1 : Nat) : Int)), .one (.slice 2 0 0 X1.length (X1.length + 1)), .one (.gro 5 1 (X1.length + 40)), .one (.int .i64 ((2 : Nat) : Int))]⟩, some ⟨true, [.ints .u8 (X0.length + 40) (List.replicate (X0.length + 40) 1)]⟩, some ⟨true, [.ints .u8 (X1.length + 40) (List.replicate (X1.length + 40) 2)]⟩, some ⟨true, [.one (.slice 1 0 0 X0.length X0.length), .one (.gro 4 1 (X0.length + 40)), .one (.int .i64 ((1 : Nat) : Int))]⟩]) (X0.length + 40) ⟨0, by omega, rfl, rfl, rfl⟩ (wk hE [0, 1, 2, 3, 4, 5, 6]) ?_
   rintro n_ T_ H_ ⟨k, hk, rfl, rfl, rfl⟩
   refine w_seq ?_
   refine w_seq ?_
   refine g_reg hP hn ?_
   refine s_op k_mv ?_
   refine s_op k_fa ?_
   refine s_op k_ld ?_
   refine s_op k_len ?_
   refine s_op k_lss ?_
   refine s_nil trivial ?_
   refine n_wp ?_
   refine w_if rfl (fun h_t34 => ?_) (fun h_t34 => ?_)
   · skip
     refine w_skip ?_
     refine n_wp ?_
     refine w_seq ?_
     refine w_block ?_
     refine w_seq ?_
     refine g_any hP hn ?_
     refine s_op k_fa ?_
     refine s_op k_ld ?_
     refine s_op k_mv ?_
     refine s_op k_ix ?_
     refine s_op k_ld ?_
     refine s_op k_fa ?_
     refine s_op k_ld ?_
     refine s_op (k_call [] (con := is_t 1 _ (by decide) (rep_g _ _ _ (by omega)))) ?_
     refine s_op k_not ?_
     refine s_op k_mv ?_
     refine s_on rfl rfl rfl k_mv ?_
     refine s_on rfl rfl rfl k_fa ?_
     refine s_on rfl rfl rfl k_ld ?_
     refine s_on rfl rfl rfl k_len ?_
     refine s_on rfl rfl rfl k_lss ?_
     refine s_on rfl rfl rfl k_mv ?_
     refine s_opt rfl rfl (fun hB => by rw [hB]; (try simp only [Bool.or_eq_true, Bool.or_eq_false_iff, Bool.and_eq_true, Bool.not_eq_true', Bool.not_eq_false', decide_eq_true_eq, decide_eq_false_iff_not] at hB); exact k_fa) ?_
     refine s_opt rfl rfl (fun hB => by rw [hB]; (try simp only [Bool.or_eq_true, Bool.or_eq_false_iff, Bool.and_eq_true, Bool.not_eq_true', Bool.not_eq_false', decide_eq_true_eq, decide_eq_false_iff_not] at hB); exact k_ld) ?_
     refine s_opt rfl rfl (fun hB => by rw [hB]; (try simp only [Bool.or_eq_true, Bool.or_eq_false_iff, Bool.and_eq_true, Bool.not_eq_true', Bool.not_eq_false', decide_eq_true_eq, decide_eq_false_iff_not] at hB); exact k_mv) ?_
     refine s_opt rfl rfl (fun hB => by rw [hB]; (try simp only [Bool.or_eq_true, Bool.or_eq_false_iff, Bool.and_eq_true, Bool.not_eq_true', Bool.not_eq_false', decide_eq_true_eq, decide_eq_false_iff_not] at hB); exact k_ix) ?_
     refine s_opt rfl rfl (fun hB => by rw [hB]; (try simp only [Bool.or_eq_true, Bool.or_eq_false_iff, Bool.and_eq_true, Bool.not_eq_true', Bool.not_eq_false', decide_eq_true_eq, decide_eq_false_iff_not] at hB); exact k_ld) ?_
     refine s_opt rfl rfl (fun hB => by rw [hB]; (try simp only [Bool.or_eq_true, Bool.or_eq_false_iff, Bool.and_eq_true, Bool.not_eq_true', Bool.not_eq_false', decide_eq_true_eq, decide_eq_false_iff_not] at hB); exact k_fa) ?_
     refine s_opt rfl rfl (fun hB => by rw [hB]; (try simp only [Bool.or_eq_true, Bool.or_eq_false_iff, Bool.and_eq_true, Bool.not_eq_true', Bool.not_eq_false', decide_eq_true_eq, decide_eq_false_iff_not] at hB); exact k_ld) ?_
     refine s_opt rfl rfl (fun hB => by rw [hB]; (try simp only [Bool.or_eq_true, Bool.or_eq_false_iff, Bool.and_eq_true, Bool.not_eq_true', Bool.not_eq_false', decide_eq_true_eq, decide_eq_false_iff_not] at hB); exact k_call [] (con := is_t 1 _ (by decide) (rep_g _ _ _ (by omega)))) ?_
     refine s_opt rfl rfl (fun hB => by rw [hB]; (try simp only [Bool.or_eq_true, Bool.or_eq_false_iff, Bool.and_eq_true, Bool.not_eq_true', Bool.not_eq_false', decide_eq_true_eq, decide_eq_false_iff_not] at hB); exact k_not) ?_
     refine s_on rfl rfl rfl k_pk ?_
     refine s_op k_pk ?_
     refine s_nil (by kernel_rfl) ?_
     refine n_wp ?_
     refine w_F rfl ?_ (by first | rfl | exact Bool.and_false _ | simp)
     refine w_skip ?_
     refine n_blo ?_
     refine n_wp ?_
     refine g_reg hP hn ?_
     refine s_op k_mv ?_
     refine s_op k_add ?_
     refine s_op k_as ?_
     refine s_nil trivial ?_
     exact n_round (X0.length + 40 - (k + 1)) (by omega) ⟨k + 1, by omega, rfl, rfl, rfl⟩ (wk hE [0, 1, 2, 3, 4, 5, 6])
   · skip
     obtain rfl : k = X0.length + 40 := by omega
     refine w_exit ?_
     refine x_thn ?_
     refine x_thn ?_
     refine x_eq ?_
     refine n_blo ?_
     refine n_wp ?_
     refine g_reg hP hn ?_
     refine s_op k_mv ?_
     refine s_op k_add ?_
     refine s_op k_as ?_
     refine s_nil trivial ?_
     exact n_round 1 (by omega) (.inr (.inl ⟨rfl, rfl, rfl⟩)) (wk hE [0, 1, 2, 3, 4, 5])
 · skip
   refine w_seq ?_
   refine w_seq ?_
   refine g_reg hP hn ?_
   refine s_op k_mv ?_
   refine s_op k_mv ?_
   refine s_op k_nc ?_
   refine s_op k_fa ?_
   refine s_op k_ld ?_
   refine s_op k_len ?_
   refine s_op k_lss ?_
   refine s_nil trivial ?_
   refine n_wp ?_
   refine w_T rfl ?_ 
   refine w_skip ?_
   refine n_wp ?_
   refine w_seq ?_
   refine w_block ?_
   refine w_seq ?_
   refine g_reg hP hn ?_
   refine s_op k_mv ?_
   refine s_op k_nc ?_
   refine s_op k_fa ?_
   refine s_op k_ld ?_
   refine s_op k_mv ?_
   refine s_op (k_ixG 3 1) ?_
   refine s_op (k_ld (h := by exact a_load_agg (sub := [.one (.slice 2 0 0 X1.length (X1.length + 1)), .one (.gro 5 1 (X1.length + 40)), .one (.int .i64 ((2 : Nat) : Int))]) (r := [.one (.slice 2 0 0 X1.length (X1.length + 1)), .one (.gro 5 1 (X1.length + 40)), .one (.int .i64 ((2 : Nat) : Int))]) rfl rfl (by kernel_rfl) (by kernel_rfl))) ?_
   refine s_op k_al ?_
   refine s_st (k_st (h := by exact a_store_agg rfl rfl rfl (put_w (by kernel_rfl)) (by exact Nat.le_of_ble_eq_true rfl) (by kernel_rfl) (by repeat (first | exact hset_0 | apply hset_s)))) ?_
   refine s_nil trivial ?_
   refine n_wp ?_
   refine w_seq ?_
   refine w_seq ?_
   refine g_reg hP hn ?_
   refine s_op k_fa ?_
   refine s_op k_ld ?_
   refine s_op k_len ?_
   refine s_op k_fa ?_
   refine s_op k_ld ?_
   refine s_op k_len ?_
   refine s_op k_add ?_
   refine s_op (l_bin rfl rfl (b_neq (r := false) (decide_eq_false (by omega)))) ?_
   refine s_nil trivial ?_
   refine n_wp ?_
   refine w_F rfl ?_ 
   refine w_skip ?_
   refine n_wp ?_
   refine w_seq ?_
   refine g_reg hP hn ?_
   refine s_op k_as ?_
   refine s_nil trivial ?_
   refine n_wp ?_
   refine w_block ?_
   refine c_loop (fun m_ T H => ∃ k, k ≤ X1.length + 40 ∧ m_ = X1.length + 40 - k ∧ T = [(0, .s (.ptr 0 0 0)), (3, .s (.int .i64 ((1 : Nat) : Int))), (4, .s (.ptr 6 0 0)), (5, .s (.int .i64 ((k : Nat) : Int)))] ∧ H = [some ⟨true, [.one (.int .i64 ((2 : Nat) : Int)), .one (.gro 3 3 2), .one .nils, .one .nils, .one .nils, .one .nils, .one .nils, .one .nils, .one .nils, .one .nils, .one .nils, .one .nils, .one .nils, .one .nils, .one .nils, .one .nils]⟩, some ⟨true, [.ints .u8 X0.length (List.replicate X0.length 1)]⟩, some ⟨true, [.ints .u8 (X1.length + 1) (List.replicate (X1.length + 1) 2)]⟩, some ⟨true, [.one (.slice 1 0 0 X0.length X0.length), .one (.gro 4 1 (X0.length + 40)), .one (.int .i64 ((1 : Nat) : Int)), .one (.slice 2 0 0 X1.length (X1.length + 1)), .one (.gro 5 1 (X1.length + 40)), .one (.int .i64 ((2 : Nat) : Int))]⟩, some ⟨true, [.ints .u8 (X0.length + 40) (List.replicate (X0.length + 40) 1)]⟩, some ⟨true, [.ints .u8 (X1.length + 40) (List.replicate (X1.length + 40) 2)]⟩, some ⟨true, [.one (.slice 2 0 0 X1.length (X1.length + 1)), .one (.gro 5 1 (X1.length + 40)), .one (.int .i64 ((2 : Nat) : Int))]⟩]) (X1.length + 40) ⟨0, by omega, rfl, rfl, rfl⟩ (wk hE [0, 1, 2, 3, 4, 5, 6]) ?_
   rintro n_ T_ H_ ⟨k, hk, rfl, rfl, rfl⟩
   refine w_seq ?_
   refine w_seq ?_
   refine g_reg hP hn ?_
   refine s_op k_mv ?_
   refine s_op k_fa ?_
   refine s_op k_ld ?_
   refine s_op k_len ?_
   refine s_op k_lss ?_
   refine s_nil trivial ?_
   refine n_wp ?_
   refine w_if rfl (fun h_t34 => ?_) (fun h_t34 => ?_)
   · skip
     refine w_skip ?_
     refine n_wp ?_
     refine w_seq ?_
     refine w_block ?_
     refine w_seq ?_
     refine g_any hP hn ?_
     refine s_op k_fa ?_
     refine s_op k_ld ?_
     refine s_op k_mv ?_
     refine s_op k_ix ?_
     refine s_op k_ld ?_
     refine s_op k_fa ?_
     refine s_op k_ld ?_
     refine s_op (k_call [] (con := is_t 2 _ (by decide) (rep_g _ _ _ (by omega)))) ?_
     refine s_op k_not ?_
     refine s_op k_mv ?_
     refine s_on rfl rfl rfl k_mv ?_
     refine s_on rfl rfl rfl k_fa ?_
     refine s_on rfl rfl rfl k_ld ?_
     refine s_on rfl rfl rfl k_len ?_
     refine s_on rfl rfl rfl k_lss ?_
     refine s_on rfl rfl rfl k_mv ?_
     refine s_opt rfl rfl (fun hB => by rw [hB]; (try simp only [Bool.or_eq_true, Bool.or_eq_false_iff, Bool.and_eq_true, Bool.not_eq_true', Bool.not_eq_false', decide_eq_true_eq, decide_eq_false_iff_not] at hB); exact k_fa) ?_
     refine s_opt rfl rfl (fun hB => by rw [hB]; (try simp only [Bool.or_eq_true, Bool.or_eq_false_iff, Bool.and_eq_true, Bool.not_eq_true', Bool.not_eq_false', decide_eq_true_eq, decide_eq_false_iff_not] at hB); exact k_ld) ?_
     refine s_opt rfl rfl (fun hB => by rw [hB]; (try simp only [Bool.or_eq_true, Bool.or_eq_false_iff, Bool.and_eq_true, Bool.not_eq_true', Bool.not_eq_false', decide_eq_true_eq, decide_eq_false_iff_not] at hB); exact k_mv) ?_
     refine s_opt rfl rfl (fun hB => by rw [hB]; (try simp only [Bool.or_eq_true, Bool.or_eq_false_iff, Bool.and_eq_true, Bool.not_eq_true', Bool.not_eq_false', decide_eq_true_eq, decide_eq_false_iff_not] at hB); exact k_ix) ?_
     refine s_opt rfl rfl (fun hB => by rw [hB]; (try simp only [Bool.or_eq_true, Bool.or_eq_false_iff, Bool.and_eq_true, Bool.not_eq_true', Bool.not_eq_false', decide_eq_true_eq, decide_eq_false_iff_not] at hB); exact k_ld) ?_
     refine s_opt rfl rfl (fun hB => by rw [hB]; (try simp only [Bool.or_eq_true, Bool.or_eq_false_iff, Bool.and_eq_true, Bool.not_eq_true', Bool.not_eq_false', decide_eq_true_eq, decide_eq_false_iff_not] at hB); exact k_fa) ?_
     refine s_opt rfl rfl (fun hB => by rw [hB]; (try simp only [Bool.or_eq_true, Bool.or_eq_false_iff, Bool.and_eq_true, Bool.not_eq_true', Bool.not_eq_false', decide_eq_true_eq, decide_eq_false_iff_not] at hB); exact k_ld) ?_
     refine s_opt rfl rfl (fun hB => by rw [hB]; (try simp only [Bool.or_eq_true, Bool.or_eq_false_iff, Bool.and_eq_true, Bool.not_eq_true', Bool.not_eq_false', decide_eq_true_eq, decide_eq_false_iff_not] at hB); exact k_call [] (con := is_t 2 _ (by decide) (rep_g _ _ _ (by omega)))) ?_
     refine s_opt rfl rfl (fun hB => by rw [hB]; (try simp only [Bool.or_eq_true, Bool.or_eq_false_iff, Bool.and_eq_true, Bool.not_eq_true', Bool.not_eq_false', decide_eq_true_eq, decide_eq_false_iff_not] at hB); exact k_not) ?_
     refine s_on rfl rfl rfl k_pk ?_
     refine s_op k_pk ?_
     refine s_nil (by kernel_rfl) ?_
     refine n_wp ?_
     refine w_F rfl ?_ (by first | rfl | exact Bool.and_false _ | simp)
     refine w_skip ?_
     refine n_blo ?_
     refine n_wp ?_
     refine g_reg hP hn ?_
     refine s_op k_mv ?_
     refine s_op k_add ?_
     refine s_op k_as ?_
     refine s_nil trivial ?_
     exact n_round (X1.length + 40 - (k + 1)) (by omega) ⟨k + 1, by omega, rfl, rfl, rfl⟩ (wk hE [0, 1, 2, 3, 4, 5, 6])
   · skip
     obtain rfl : k = X1.length + 40 := by omega
     refine w_exit ?_
     refine x_thn ?_
     refine x_thn ?_
     refine x_eq ?_
     refine n_blo ?_
     refine n_wp ?_
     refine g_reg hP hn ?_
     refine s_op k_mv ?_
     refine s_op k_add ?_
     refine s_op k_as ?_
     refine s_nil trivial ?_
     exact n_round 0 (by omega) (.inr (.inr (⟨rfl, rfl, rfl⟩))) (wk hE [0, 1, 2, 3, 4, 5])
 · skip
   refine w_seq ?_
   refine w_seq ?_
   refine g_reg hP hn ?_
   refine s_op k_mv ?_
   refine s_op k_mv ?_
   refine s_op k_nc ?_
   refine s_op k_fa ?_
   refine s_op k_ld ?_
   refine s_op k_len ?_
   refine s_op k_lss ?_
   refine s_nil trivial ?_
   refine n_wp ?_
   refine w_F rfl ?_ 
   refine w_exit ?_
   refine x_thn ?_
   refine x_thn ?_
   refine x_eq ?_
   refine n_wp ?_
   refine w_seq ?_
   refine g_reg hP hn ?_
   refine s_op k_as ?_
   refine s_nil trivial ?_
   refine n_wp ?_
   refine w_ret ?_
   exact d_ret hP hn hE [0, 1, 2, 3, 4, 5] (by first | exact r_tmp Tryz.results78 | exact r_tmpa Tryz.results78)

theorem fill_CA (X1 : List Int) (hX1 : X1.length ≤ 100000) : Con Tryz.prog 48 [.s (.ptr 0 0 0)] [some ⟨true, [.one (.int .i64 ((2 : Nat) : Int)), .one (.gro 2 3 2), .one .nils, .one .nils, .one .nils, .one .nils, .one .nils, .one .nils, .one .nils, .one .nils, .one .nils, .one .nils, .one .nils, .one .nils, .one .nils, .one .nils]⟩, some ⟨true, [.ints .u8 (X1.length + 1) (X1 ++ [77])]⟩, some ⟨true, [.one .nils, .one .nils, .one (.int .i64 ((1 : Nat) : Int)), .one (.slice 1 0 0 X1.length (X1.length + 1)), .one .nils, .one (.int .i64 ((2 : Nat) : Int))]⟩] (.tup []) [some ⟨true, [.one (.int .i64 ((2 : Nat) : Int)), .one (.gro 2 3 2), .one .nils, .one .nils, .one .nils, .one .nils, .one .nils, .one .nils, .one .nils, .one .nils, .one .nils, .one .nils, .one .nils, .one .nils, .one .nils, .one .nils]⟩, some ⟨true, [.ints .u8 (X1.length + 1) (List.replicate X1.length 2 ++ [77])]⟩, some ⟨true, [.one .nils, .one .nils, .one (.int .i64 ((1 : Nat) : Int)), .one (.slice 1 0 0 X1.length (X1.length + 1)), .one .nils, .one (.int .i64 ((2 : Nat) : Int))]⟩] := by
 refine con_in 35 Tryz.func48 rfl rfl (m := 3) rfl ?_
 intro E hP hn hE
 refine w_seq ?_
 refine g_reg hP hn ?_
 refine s_op k_as ?_
 refine s_nil trivial ?_
 refine n_wp ?_
 refine w_block ?_
 refine c_loop (fun m_ T H => (m_ = 2 ∧ T = [(0, .s (.ptr 0 0 0)), (2, .s (.int .i64 ((0 : Nat) : Int)))] ∧ H = [some ⟨true, [.one (.int .i64 ((2 : Nat) : Int)), .one (.gro 2 3 2), .one .nils, .one .nils, .one .nils, .one .nils, .one .nils, .one .nils, .one .nils, .one .nils, .one .nils, .one .nils, .one .nils, .one .nils, .one .nils, .one .nils]⟩, some ⟨true, [.ints .u8 (X1.length + 1) (X1 ++ [77])]⟩, some ⟨true, [.one .nils, .one .nils, .one (.int .i64 ((1 : Nat) : Int)), .one (.slice 1 0 0 X1.length (X1.length + 1)), .one .nils, .one (.int .i64 ((2 : Nat) : Int))]⟩]) ∨ (m_ = 1 ∧ T = [(0, .s (.ptr 0 0 0)), (2, .s (.int .i64 ((1 : Nat) : Int)))] ∧ H = [some ⟨true, [.one (.int .i64 ((2 : Nat) : Int)), .one (.gro 2 3 2), .one .nils, .one .nils, .one .nils, .one .nils, .one .nils, .one .nils, .one .nils, .one .nils, .one .nils, .one .nils, .one .nils, .one .nils, .one .nils, .one .nils]⟩, some ⟨true, [.ints .u8 (X1.length + 1) (X1 ++ [77])]⟩, some ⟨true, [.one .nils, .one .nils, .one (.int .i64 ((1 : Nat) : Int)), .one (.slice 1 0 0 X1.length (X1.length + 1)), .one .nils, .one (.int .i64 ((2 : Nat) : Int))]⟩]) ∨ (m_ = 0 ∧ T = [(0, .s (.ptr 0 0 0)), (2, .s (.int .i64 ((2 : Nat) : Int)))] ∧ H = [some ⟨true, [.one (.int .i64 ((2 : Nat) : Int)), .one (.gro 2 3 2), .one .nils, .one .nils, .one .nils, .one .nils, .one .nils, .one .nils, .one .nils, .one .nils, .one .nils, .one .nils, .one .nils, .one .nils, .one .nils, .one .nils]⟩, some ⟨true, [.ints .u8 (X1.length + 1) (List.replicate X1.length 2 ++ [77])]⟩, some ⟨true, [.one .nils, .one .nils, .one (.int .i64 ((1 : Nat) : Int)), .one (.slice 1 0 0 X1.length (X1.length + 1)), .one .nils, .one (.int .i64 ((2 : Nat) : Int))]⟩])) (2) (.inl ⟨rfl, rfl, rfl⟩) (wk hE [0, 1, 2]) ?_
 rintro n_ T_ H_ (⟨rfl, rfl, rfl⟩ | ⟨rfl, rfl, rfl⟩ | ⟨rfl, rfl, rfl⟩)
 · skip
   refine w_seq ?_
   refine w_seq ?_
   refine g_reg hP hn ?_
   refine s_op k_mv ?_
   refine s_op k_mv ?_
   refine s_op k_nc ?_
   refine s_op k_fa ?_
   refine s_op k_ld ?_
   refine s_op k_len ?_
   refine s_op k_lss ?_
   refine s_nil trivial ?_
   refine n_wp ?_
   refine w_T rfl ?_ 
   refine w_skip ?_
   refine n_wp ?_
   refine w_seq ?_
   refine w_block ?_
   refine w_seq ?_
   refine g_reg hP hn ?_
   refine s_op k_mv ?_
   refine s_op k_nc ?_
   refine s_op k_fa ?_
   refine s_op k_ld ?_
   refine s_op k_mv ?_
   refine s_op (k_ixG 0 0) ?_
   refine s_op (k_ld (h := by exact a_load_agg (sub := [.one .nils, .one .nils, .one (.int .i64 ((1 : Nat) : Int))]) (r := [.one .nils, .one .nils, .one (.int .i64 ((1 : Nat) : Int)), .one (.slice 1 0 0 X1.length (X1.length + 1)), .one .nils, .one (.int .i64 ((2 : Nat) : Int))]) rfl rfl (by kernel_rfl) (by kernel_rfl))) ?_
   refine s_op k_al ?_
   refine s_st (k_st (h := by exact a_store_agg rfl rfl rfl (put_w (by kernel_rfl)) (by exact Nat.le_of_ble_eq_true rfl) (by kernel_rfl) (by repeat (first | exact hset_0 | apply hset_s)))) ?_
   refine s_nil trivial ?_
   refine n_wp ?_
   refine w_seq ?_
   refine g_reg hP hn ?_
   refine s_op k_as ?_
   refine s_nil trivial ?_
   refine n_wp ?_
   refine w_block ?_
   refine c_loop (fun m_ T H => m_ = 0 ∧ T = [(0, .s (.ptr 0 0 0)), (2, .s (.int .i64 ((0 : Nat) : Int))), (3, .s (.ptr 3 0 0)), (4, .s (.int .i64 ((0 : Nat) : Int)))] ∧ H = [some ⟨true, [.one (.int .i64 ((2 : Nat) : Int)), .one (.gro 2 3 2), .one .nils, .one .nils, .one .nils, .one .nils, .one .nils, .one .nils, .one .nils, .one .nils, .one .nils, .one .nils, .one .nils, .one .nils, .one .nils, .one .nils]⟩, some ⟨true, [.ints .u8 (X1.length + 1) (X1 ++ [77])]⟩, some ⟨true, [.one .nils, .one .nils, .one (.int .i64 ((1 : Nat) : Int)), .one (.slice 1 0 0 X1.length (X1.length + 1)), .one .nils, .one (.int .i64 ((2 : Nat) : Int))]⟩, some ⟨true, [.one .nils, .one .nils, .one (.int .i64 ((1 : Nat) : Int))]⟩]) (0) ⟨rfl, rfl, rfl⟩ (wk hE [0, 1, 2, 3]) ?_
   rintro n_ T_ H_ ⟨rfl, rfl, rfl⟩
   refine w_seq ?_
   refine w_seq ?_
   refine g_reg hP hn ?_
   refine s_op k_mv ?_
   refine s_op k_fa ?_
   refine s_op k_ld ?_
   refine s_op k_len ?_
   refine s_op k_lss ?_
   refine s_nil trivial ?_
   refine n_wp ?_
   refine w_F rfl ?_ 
   refine w_exit ?_
   refine x_thn ?_
   refine x_thn ?_
   refine x_eq ?_
   refine n_blo ?_
   refine n_wp ?_
   refine g_reg hP hn ?_
   refine s_op k_mv ?_
   refine s_op k_add ?_
   refine s_op k_as ?_
   refine s_nil trivial ?_
   exact n_round 1 (by omega) (.inr (.inl ⟨rfl, rfl, rfl⟩)) (wk hE [0, 1, 2])
 · skip
   refine w_seq ?_
   refine w_seq ?_
   refine g_reg hP hn ?_
   refine s_op k_mv ?_
   refine s_op k_mv ?_
   refine s_op k_nc ?_
   refine s_op k_fa ?_
   refine s_op k_ld ?_
   refine s_op k_len ?_
   refine s_op k_lss ?_
   refine s_nil trivial ?_
   refine n_wp ?_
   refine w_T rfl ?_ 
   refine w_skip ?_
   refine n_wp ?_
   refine w_seq ?_
   refine w_block ?_
   refine w_seq ?_
   refine g_reg hP hn ?_
   refine s_op k_mv ?_
   refine s_op k_nc ?_
   refine s_op k_fa ?_
   refine s_op k_ld ?_
   refine s_op k_mv ?_
   refine s_op (k_ixG 3 1) ?_
   refine s_op (k_ld (h := by exact a_load_agg (sub := [.one (.slice 1 0 0 X1.length (X1.length + 1)), .one .nils, .one (.int .i64 ((2 : Nat) : Int))]) (r := [.one (.slice 1 0 0 X1.length (X1.length + 1)), .one .nils, .one (.int .i64 ((2 : Nat) : Int))]) rfl rfl (by kernel_rfl) (by kernel_rfl))) ?_
   refine s_op k_al ?_
   refine s_st (k_st (h := by exact a_store_agg rfl rfl rfl (put_w (by kernel_rfl)) (by exact Nat.le_of_ble_eq_true rfl) (by kernel_rfl) (by repeat (first | exact hset_0 | apply hset_s)))) ?_
   refine s_nil trivial ?_
   refine n_wp ?_
   refine w_seq ?_
   refine g_reg hP hn ?_
   refine s_op k_as ?_
   refine s_nil trivial ?_
   refine n_wp ?_
   refine w_block ?_
   refine c_loop (fun m_ T H => ∃ k, k ≤ X1.length ∧ m_ = X1.length - k ∧ T = [(0, .s (.ptr 0 0 0)), (2, .s (.int .i64 ((1 : Nat) : Int))), (3, .s (.ptr 3 0 0)), (4, .s (.int .i64 ((k : Nat) : Int)))] ∧ H = [some ⟨true, [.one (.int .i64 ((2 : Nat) : Int)), .one (.gro 2 3 2), .one .nils, .one .nils, .one .nils, .one .nils, .one .nils, .one .nils, .one .nils, .one .nils, .one .nils, .one .nils, .one .nils, .one .nils, .one .nils, .one .nils]⟩, some ⟨true, [.ints .u8 (X1.length + 1) (fillT (X1 ++ [77]) 2 k)]⟩, some ⟨true, [.one .nils, .one .nils, .one (.int .i64 ((1 : Nat) : Int)), .one (.slice 1 0 0 X1.length (X1.length + 1)), .one .nils, .one (.int .i64 ((2 : Nat) : Int))]⟩, some ⟨true, [.one (.slice 1 0 0 X1.length (X1.length + 1)), .one .nils, .one (.int .i64 ((2 : Nat) : Int))]⟩]) (X1.length) ⟨0, by omega, rfl, rfl, rfl⟩ (wk hE [0, 1, 2, 3]) ?_
   rintro n_ T_ H_ ⟨k, hk, rfl, rfl, rfl⟩
   have hfl := fillT_len (X1 ++ [77]) 2 k
   have hal : (X1 ++ [77]).length = X1.length + 1 := by simp
   refine w_seq ?_
   refine w_seq ?_
   refine g_reg hP hn ?_
   refine s_op k_mv ?_
   refine s_op k_fa ?_
   refine s_op k_ld ?_
   refine s_op k_len ?_
   refine s_op k_lss ?_
   refine s_nil trivial ?_
   refine n_wp ?_
   refine w_if rfl (fun h_t25 => ?_) (fun h_t25 => ?_)
   · skip
     refine w_skip ?_
     refine n_wp ?_
     refine w_seq ?_
     refine w_block ?_
     refine g_any hP hn ?_
     refine s_op k_fa ?_
     refine s_op k_ld ?_
     refine s_op k_mv ?_
     refine s_op k_fa ?_
     refine s_op k_ld ?_
     refine s_op (k_call [] (con := mark_c 2 (by decide))) ?_
     refine s_op k_ix ?_
     refine s_st k_st ?_
     refine s_nil (by kernel_rfl) ?_
     refine n_blo ?_
     refine n_wp ?_
     refine g_reg hP hn ?_
     refine s_op k_mv ?_
     refine s_op k_add ?_
     refine s_op k_as ?_
     refine s_nil trivial ?_
     exact n_round (X1.length - (k + 1)) (by omega) ⟨k + 1, by omega, rfl, rfl, rfl⟩ (wk hE [0, 1, 2, 3])
   · skip
     obtain rfl : k = X1.length := by omega
     rw [fillT_a]
     refine w_exit ?_
     refine x_thn ?_
     refine x_thn ?_
     refine x_eq ?_
     refine n_blo ?_
     refine n_wp ?_
     refine g_reg hP hn ?_
     refine s_op k_mv ?_
     refine s_op k_add ?_
     refine s_op k_as ?_
     refine s_nil trivial ?_
     exact n_round 0 (by omega) (.inr (.inr (⟨rfl, rfl, rfl⟩))) (wk hE [0, 1, 2])
 · skip
   refine w_seq ?_
   refine w_seq ?_
   refine g_reg hP hn ?_
   refine s_op k_mv ?_
   refine s_op k_mv ?_
   refine s_op k_nc ?_
   refine s_op k_fa ?_
   refine s_op k_ld ?_
   refine s_op k_len ?_
   refine s_op k_lss ?_
   refine s_nil trivial ?_
   refine n_wp ?_
   refine w_F rfl ?_ 
   refine w_exit ?_
   refine x_thn ?_
   refine x_thn ?_
   refine x_eq ?_
   exact d_ret hP hn hE [0, 1, 2] (ret_none Tryz.results48)

theorem grow_CA (X1 : List Int) (hX1 : X1.length ≤ 100000) : Con Tryz.prog 63 [.s (.ptr 0 0 0)] [some ⟨true, [.one (.int .i64 ((2 : Nat) : Int)), .one (.gro 2 3 2), .one .nils, .one .nils, .one .nils, .one .nils, .one .nils, .one .nils, .one .nils, .one .nils, .one .nils, .one .nils, .one .nils, .one .nils, .one .nils, .one .nils]⟩, some ⟨true, [.ints .u8 (X1.length + 1) (List.replicate X1.length 2 ++ [77])]⟩, some ⟨true, [.one .nils, .one .nils, .one (.int .i64 ((1 : Nat) : Int)), .one (.slice 1 0 0 X1.length (X1.length + 1)), .one .nils, .one (.int .i64 ((2 : Nat) : Int))]⟩] (.tup []) [some ⟨true, [.one (.int .i64 ((2 : Nat) : Int)), .one (.gro 2 3 2), .one .nils, .one .nils, .one .nils, .one .nils, .one .nils, .one .nils, .one .nils, .one .nils, .one .nils, .one .nils, .one .nils, .one .nils, .one .nils, .one .nils]⟩, some ⟨true, [.ints .u8 (X1.length + 1) (List.replicate (X1.length + 1) 2)]⟩, some ⟨true, [.one .nils, .one (.gro 3 1 (0 + 40)), .one (.int .i64 ((1 : Nat) : Int)), .one (.slice 1 0 0 X1.length (X1.length + 1)), .one (.gro 4 1 (X1.length + 40)), .one (.int .i64 ((2 : Nat) : Int))]⟩, some ⟨true, [.ints .u8 (0 + 40) (List.replicate (0 + 40) 1)]⟩, some ⟨true, [.ints .u8 (X1.length + 40) (List.replicate (X1.length + 40) 2)]⟩] := by
 refine con_in 42 Tryz.func63 rfl rfl (m := 3) rfl ?_
 intro E hP hn hE
 refine w_seq ?_
 refine g_reg hP hn ?_
 refine s_op k_as ?_
 refine s_nil trivial ?_
 refine n_wp ?_
 refine w_block ?_
 refine c_loop (fun m_ T H => (m_ = 2 ∧ T = [(0, .s (.ptr 0 0 0)), (2, .s (.int .i64 ((0 : Nat) : Int)))] ∧ H = [some ⟨true, [.one (.int .i64 ((2 : Nat) : Int)), .one (.gro 2 3 2), .one .nils, .one .nils, .one .nils, .one .nils, .one .nils, .one .nils, .one .nils, .one .nils, .one .nils, .one .nils, .one .nils, .one .nils, .one .nils, .one .nils]⟩, some ⟨true, [.ints .u8 (X1.length + 1) (List.replicate X1.length 2 ++ [77])]⟩, some ⟨true, [.one .nils, .one .nils, .one (.int .i64 ((1 : Nat) : Int)), .one (.slice 1 0 0 X1.length (X1.length + 1)), .one .nils, .one (.int .i64 ((2 : Nat) : Int))]⟩]) ∨ (m_ = 1 ∧ T = [(0, .s (.ptr 0 0 0)), (2, .s (.int .i64 ((1 : Nat) : Int)))] ∧ H = [some ⟨true, [.one (.int .i64 ((2 : Nat) : Int)), .one (.gro 2 3 2), .one .nils, .one .nils, .one .nils, .one .nils, .one .nils, .one .nils, .one .nils, .one .nils, .one .nils, .one .nils, .one .nils, .one .nils, .one .nils, .one .nils]⟩, some ⟨true, [.ints .u8 (X1.length + 1) (List.replicate X1.length 2 ++ [77])]⟩, some ⟨true, [.one .nils, .one (.gro 3 1 (0 + 40)), .one (.int .i64 ((1 : Nat) : Int)), .one (.slice 1 0 0 X1.length (X1.length + 1)), .one .nils, .one (.int .i64 ((2 : Nat) : Int))]⟩, some ⟨true, [.ints .u8 (0 + 40) (List.replicate (0 + 40) 1)]⟩]) ∨ (m_ = 0 ∧ T = [(0, .s (.ptr 0 0 0)), (2, .s (.int .i64 ((2 : Nat) : Int)))] ∧ H = [some ⟨true, [.one (.int .i64 ((2 : Nat) : Int)), .one (.gro 2 3 2), .one .nils, .one .nils, .one .nils, .one .nils, .one .nils, .one .nils, .one .nils, .one .nils, .one .nils, .one .nils, .one .nils, .one .nils, .one .nils, .one .nils]⟩, some ⟨true, [.ints .u8 (X1.length + 1) (List.replicate (X1.length + 1) 2)]⟩, some ⟨true, [.one .nils, .one (.gro 3 1 (0 + 40)), .one (.int .i64 ((1 : Nat) : Int)), .one (.slice 1 0 0 X1.length (X1.length + 1)), .one (.gro 4 1 (X1.length + 40)), .one (.int .i64 ((2 : Nat) : Int))]⟩, some ⟨true, [.ints .u8 (0 + 40) (List.replicate (0 + 40) 1)]⟩, some ⟨true, [.ints .u8 (X1.length + 40) (List.replicate (X1.length + 40) 2)]⟩])) (2) (.inl ⟨rfl, rfl, rfl⟩) (wk hE [0, 1, 2]) ?_
 rintro n_ T_ H_ (⟨rfl, rfl, rfl⟩ | ⟨rfl, rfl, rfl⟩ | ⟨rfl, rfl, rfl⟩)
 · skip
   refine w_seq ?_
   refine w_seq ?_
   refine g_reg hP hn ?_
   refine s_op k_mv ?_
   refine s_op k_mv ?_
   refine s_op k_nc ?_
   refine s_op k_fa ?_
   refine s_op k_ld ?_
   refine s_op k_len ?_
   refine s_op k_lss ?_
   refine s_nil trivial ?_
   refine n_wp ?_
   refine w_T rfl ?_ 
   refine w_skip ?_
   refine n_wp ?_
   refine w_seq ?_
   refine w_block ?_
   refine w_seq ?_
   refine g_reg hP hn ?_
   refine s_op k_mv ?_
   refine s_op k_nc ?_
   refine s_op k_fa ?_
   refine s_op k_ld ?_
   refine s_op k_mv ?_
   refine s_op (k_ixG 0 0) ?_
   refine s_op (k_ld (h := by exact a_load_agg (sub := [.one .nils, .one .nils, .one (.int .i64 ((1 : Nat) : Int))]) (r := [.one .nils, .one .nils, .one (.int .i64 ((1 : Nat) : Int)), .one (.slice 1 0 0 X1.length (X1.length + 1)), .one .nils, .one (.int .i64 ((2 : Nat) : Int))]) rfl rfl (by kernel_rfl) (by kernel_rfl))) ?_
   refine s_op k_al ?_
   refine s_st (k_st (h := by exact a_store_agg rfl rfl rfl (put_w (by kernel_rfl)) (by exact Nat.le_of_ble_eq_true rfl) (by kernel_rfl) (by repeat (first | exact hset_0 | apply hset_s)))) ?_
   refine s_nil trivial ?_
   refine n_wp ?_
   refine w_seq ?_
   refine g_reg hP hn ?_
   refine s_op k_fa ?_
   refine s_op k_ld ?_
   refine s_op k_as ?_
   refine s_nil trivial ?_
   refine n_wp ?_
   refine w_seq ?_
   refine w_seq ?_
   refine w_weak (weak_gro 4 1 4 (segs := [.ints .u8 (0 + 0) (List.replicate (0 + 0) 1)]) rfl rfl rfl) ?_
   refine g_reg hP hn ?_
   refine s_op k_as ?_
   refine s_nil trivial ?_
   refine n_wp ?_
   refine w_block ?_
   refine c_loop (fun m_ T H => ∃ k, 0 ≤ k ∧ k ≤ 40 ∧ m_ = 40 - k ∧ T = [(0, .s (.ptr 0 0 0)), (2, .s (.int .i64 ((0 : Nat) : Int))), (3, .s (.ptr 3 0 0)), (4, .s (.gro 4 1 (0 + k))), (5, .s (.int .i64 ((k : Nat) : Int)))] ∧ H = [some ⟨true, [.one (.int .i64 ((2 : Nat) : Int)), .one (.gro 2 3 2), .one .nils, .one .nils, .one .nils, .one .nils, .one .nils, .one .nils, .one .nils, .one .nils, .one .nils, .one .nils, .one .nils, .one .nils, .one .nils, .one .nils]⟩, some ⟨true, [.ints .u8 (X1.length + 1) (List.replicate X1.length 2 ++ [77])]⟩, some ⟨true, [.one .nils, .one .nils, .one (.int .i64 ((1 : Nat) : Int)), .one (.slice 1 0 0 X1.length (X1.length + 1)), .one .nils, .one (.int .i64 ((2 : Nat) : Int))]⟩, some ⟨true, [.one .nils, .one .nils, .one (.int .i64 ((1 : Nat) : Int))]⟩, some ⟨true, [.ints .u8 (0 + k) (List.replicate (0 + k) 1)]⟩]) (40) ⟨0, by omega, by omega, rfl, rfl, rfl⟩ (wk hE [0, 1, 2, 3, 4]) ?_
   rintro n_ T_ H_ ⟨k, hk1, hk2, rfl, rfl, rfl⟩
   · skip
     refine w_seq ?_
     refine w_seq ?_
     refine g_reg hP hn ?_
     refine s_op k_mv ?_
     refine s_op k_lss ?_
     refine s_nil trivial ?_
     refine n_wp ?_
     refine w_if rfl (fun h_t25 => ?_) (fun h_t25 => ?_)
     · skip
       refine w_skip ?_
       refine n_wp ?_
       refine w_seq ?_
       refine w_block ?_
       refine g_reg hP hn ?_
       refine s_op k_mv ?_
       refine s_op k_fa ?_
       refine s_op k_ld ?_
       refine s_op (k_call [] (con := mark_c 1 (by decide))) ?_
       refine s_op k_bsf ?_
       refine s_op (k_apg (c := 0 + (k + 1)) (l' := List.replicate (0 + (k + 1)) 1) (hl' := rep_t _ _) (hq := by exact Nat.le_refl _) (hbig := by show 0 + k + 1 ≤ 1000000; omega)) ?_
       refine s_op k_as ?_
       refine s_nil trivial ?_
       refine n_blo ?_
       refine n_wp ?_
       refine g_reg hP hn ?_
       refine s_op k_mv ?_
       refine s_op k_add ?_
       refine s_op k_as ?_
       refine s_nil trivial ?_
       exact n_round (40 - (k + 1)) (by omega) (⟨k + 1, by omega, by omega, rfl, rfl, rfl⟩) (wk hE [0, 1, 2, 3, 6])
     · skip
       obtain rfl : k = 40 := by omega
       refine w_exit ?_
       refine x_thn ?_
       refine x_thn ?_
       refine x_eq ?_
       refine n_wp ?_
       refine g_reg hP hn ?_
       refine s_op k_mv ?_
       refine s_op k_nc ?_
       refine s_op k_fa ?_
       refine s_op k_ld ?_
       refine s_op k_mv ?_
       refine s_op k_mv ?_
       refine s_op (k_ixG 0 0) ?_
       refine s_op k_fa ?_
       refine s_st (k_st (h := by exact a_store_one rfl rfl SV.noConfusion rfl rfl (hset_seg (by repeat (first | apply sset_s _ rfl rfl | exact sset_0)) (by repeat (first | exact hset_0 | apply hset_s))))) ?_
       refine s_nil trivial ?_
       refine n_blo ?_
       refine n_wp ?_
       refine g_reg hP hn ?_
       refine s_op k_mv ?_
       refine s_op k_add ?_
       refine s_op k_as ?_
       refine s_nil trivial ?_
       exact n_round 1 (by omega) (.inr (.inl ⟨rfl, rfl, rfl⟩)) (wk hE [0, 1, 2, 4])
 · skip
   refine w_seq ?_
   refine w_seq ?_
   refine g_reg hP hn ?_
   refine s_op k_mv ?_
   refine s_op k_mv ?_
   refine s_op k_nc ?_
   refine s_op k_fa ?_
   refine s_op k_ld ?_
   refine s_op k_len ?_
   refine s_op k_lss ?_
   refine s_nil trivial ?_
   refine n_wp ?_
   refine w_T rfl ?_ 
   refine w_skip ?_
   refine n_wp ?_
   refine w_seq ?_
   refine w_block ?_
   refine w_seq ?_
   refine g_reg hP hn ?_
   refine s_op k_mv ?_
   refine s_op k_nc ?_
   refine s_op k_fa ?_
   refine s_op k_ld ?_
   refine s_op k_mv ?_
   refine s_op (k_ixG 3 1) ?_
   refine s_op (k_ld (h := by exact a_load_agg (sub := [.one (.slice 1 0 0 X1.length (X1.length + 1)), .one .nils, .one (.int .i64 ((2 : Nat) : Int))]) (r := [.one (.slice 1 0 0 X1.length (X1.length + 1)), .one .nils, .one (.int .i64 ((2 : Nat) : Int))]) rfl rfl (by kernel_rfl) (by kernel_rfl))) ?_
   refine s_op k_al ?_
   refine s_st (k_st (h := by exact a_store_agg rfl rfl rfl (put_w (by kernel_rfl)) (by exact Nat.le_of_ble_eq_true rfl) (by kernel_rfl) (by repeat (first | exact hset_0 | apply hset_s)))) ?_
   refine s_nil trivial ?_
   refine n_wp ?_
   refine w_seq ?_
   refine g_reg hP hn ?_
   refine s_op k_fa ?_
   refine s_op k_ld ?_
   refine s_op k_as ?_
   refine s_nil trivial ?_
   refine n_wp ?_
   refine w_seq ?_
   refine w_seq ?_
   refine g_reg hP hn ?_
   refine s_op k_as ?_
   refine s_nil trivial ?_
   refine n_wp ?_
   refine w_block ?_
   refine c_loop (fun m_ T H => (m_ = 40 ∧ T = [(0, .s (.ptr 0 0 0)), (2, .s (.int .i64 ((1 : Nat) : Int))), (3, .s (.ptr 4 0 0)), (4, .s (.slice 1 0 0 X1.length (X1.length + 1))), (5, .s (.int .i64 ((0 : Nat) : Int)))] ∧ H = [some ⟨true, [.one (.int .i64 ((2 : Nat) : Int)), .one (.gro 2 3 2), .one .nils, .one .nils, .one .nils, .one .nils, .one .nils, .one .nils, .one .nils, .one .nils, .one .nils, .one .nils, .one .nils, .one .nils, .one .nils, .one .nils]⟩, some ⟨true, [.ints .u8 (X1.length + 1) (List.replicate X1.length 2 ++ [77])]⟩, some ⟨true, [.one .nils, .one (.gro 3 1 (0 + 40)), .one (.int .i64 ((1 : Nat) : Int)), .one (.slice 1 0 0 X1.length (X1.length + 1)), .one .nils, .one (.int .i64 ((2 : Nat) : Int))]⟩, some ⟨true, [.ints .u8 (0 + 40) (List.replicate (0 + 40) 1)]⟩, some ⟨true, [.one (.slice 1 0 0 X1.length (X1.length + 1)), .one .nils, .one (.int .i64 ((2 : Nat) : Int))]⟩]) ∨ (m_ = 39 ∧ T = [(0, .s (.ptr 0 0 0)), (2, .s (.int .i64 ((1 : Nat) : Int))), (3, .s (.ptr 4 0 0)), (4, .s (.slice 1 0 0 (X1.length + 1) (X1.length + 1))), (5, .s (.int .i64 ((1 : Nat) : Int)))] ∧ H = [some ⟨true, [.one (.int .i64 ((2 : Nat) : Int)), .one (.gro 2 3 2), .one .nils, .one .nils, .one .nils, .one .nils, .one .nils, .one .nils, .one .nils, .one .nils, .one .nils, .one .nils, .one .nils, .one .nils, .one .nils, .one .nils]⟩, some ⟨true, [.ints .u8 (X1.length + 1) (List.replicate (X1.length + 1) 2)]⟩, some ⟨true, [.one .nils, .one (.gro 3 1 (0 + 40)), .one (.int .i64 ((1 : Nat) : Int)), .one (.slice 1 0 0 X1.length (X1.length + 1)), .one .nils, .one (.int .i64 ((2 : Nat) : Int))]⟩, some ⟨true, [.ints .u8 (0 + 40) (List.replicate (0 + 40) 1)]⟩, some ⟨true, [.one (.slice 1 0 0 X1.length (X1.length + 1)), .one .nils, .one (.int .i64 ((2 : Nat) : Int))]⟩]) ∨ (∃ k, 2 ≤ k ∧ k ≤ 40 ∧ m_ = 40 - k ∧ T = [(0, .s (.ptr 0 0 0)), (2, .s (.int .i64 ((1 : Nat) : Int))), (3, .s (.ptr 4 0 0)), (4, .s (.gro 5 1 (X1.length + k))), (5, .s (.int .i64 ((k : Nat) : Int)))] ∧ H = [some ⟨true, [.one (.int .i64 ((2 : Nat) : Int)), .one (.gro 2 3 2), .one .nils, .one .nils, .one .nils, .one .nils, .one .nils, .one .nils, .one .nils, .one .nils, .one .nils, .one .nils, .one .nils, .one .nils, .one .nils, .one .nils]⟩, some ⟨true, [.ints .u8 (X1.length + 1) (List.replicate (X1.length + 1) 2)]⟩, some ⟨true, [.one .nils, .one (.gro 3 1 (0 + 40)), .one (.int .i64 ((1 : Nat) : Int)), .one (.slice 1 0 0 X1.length (X1.length + 1)), .one .nils, .one (.int .i64 ((2 : Nat) : Int))]⟩, some ⟨true, [.ints .u8 (0 + 40) (List.replicate (0 + 40) 1)]⟩, some ⟨true, [.one (.slice 1 0 0 X1.length (X1.length + 1)), .one .nils, .one (.int .i64 ((2 : Nat) : Int))]⟩, some ⟨true, [.ints .u8 (X1.length + k) (List.replicate (X1.length + k) 2)]⟩])) (40) (.inl ⟨rfl, rfl, rfl⟩) (wk hE [0, 1, 2, 3, 4]) ?_
   rintro n_ T_ H_ (⟨rfl, rfl, rfl⟩ | ⟨rfl, rfl, rfl⟩ | ⟨k, hk1, hk2, rfl, rfl, rfl⟩)
   · skip
     refine w_seq ?_
     refine w_seq ?_
     refine g_reg hP hn ?_
     refine s_op k_mv ?_
     refine s_op k_lss ?_
     refine s_nil trivial ?_
     refine n_wp ?_
     refine w_T rfl ?_ 
     refine w_skip ?_
     refine n_wp ?_
     refine w_seq ?_
     refine w_block ?_
     refine g_reg hP hn ?_
     refine s_op k_mv ?_
     refine s_op k_fa ?_
     refine s_op k_ld ?_
     refine s_op (k_call [] (con := mark_c 2 (by decide))) ?_
     refine s_op k_bsf ?_
     refine s_op (k_apj (List.replicate (X1.length + 1) 2) (hl' := rep_j _ _)) ?_
     refine s_op k_as ?_
     refine s_nil trivial ?_
     refine n_blo ?_
     refine n_wp ?_
     refine g_reg hP hn ?_
     refine s_op k_mv ?_
     refine s_op k_add ?_
     refine s_op k_as ?_
     refine s_nil trivial ?_
     exact n_round 39 (by omega) (.inr (.inl ⟨rfl, rfl, rfl⟩)) (wk hE [0, 1, 2, 3, 4])
   · skip
     refine w_seq ?_
     refine w_seq ?_
     refine g_reg hP hn ?_
     refine s_op k_mv ?_
     refine s_op k_lss ?_
     refine s_nil trivial ?_
     refine n_wp ?_
     refine w_T rfl ?_ 
     refine w_skip ?_
     refine n_wp ?_
     refine w_seq ?_
     refine w_block ?_
     refine g_reg hP hn ?_
     refine s_op k_mv ?_
     refine s_op k_fa ?_
     refine s_op k_ld ?_
     refine s_op (k_call [] (con := mark_c 2 (by decide))) ?_
     refine s_op k_bsf ?_
     refine s_op (k_apf (c := X1.length + 2) (l' := List.replicate (X1.length + 2) 2) (hl' := rep_s _ _) (h0 := by exact Nat.zero_lt_one) (hbig := by show X1.length + 1 + 1 ≤ 1000000; omega)) ?_
     refine s_op k_as ?_
     refine s_nil trivial ?_
     refine n_blo ?_
     refine n_wp ?_
     refine g_reg hP hn ?_
     refine s_op k_mv ?_
     refine s_op k_add ?_
     refine s_op k_as ?_
     refine s_nil trivial ?_
     exact n_round 38 (by omega) (.inr (.inr ⟨2, by omega, by omega, rfl, rfl, rfl⟩)) (wk hE [0, 1, 2, 3, 4, 6])
   · skip
     refine w_seq ?_
     refine w_seq ?_
     refine g_reg hP hn ?_
     refine s_op k_mv ?_
     refine s_op k_lss ?_
     refine s_nil trivial ?_
     refine n_wp ?_
     refine w_if rfl (fun h_t25 => ?_) (fun h_t25 => ?_)
     · skip
       refine w_skip ?_
       refine n_wp ?_
       refine w_seq ?_
       refine w_block ?_
       refine g_reg hP hn ?_
       refine s_op k_mv ?_
       refine s_op k_fa ?_
       refine s_op k_ld ?_
       refine s_op (k_call [] (con := mark_c 2 (by decide))) ?_
       refine s_op k_bsf ?_
       refine s_op (k_apg (c := X1.length + (k + 1)) (l' := List.replicate (X1.length + (k + 1)) 2) (hl' := rep_t _ _) (hq := by exact Nat.le_refl _) (hbig := by show X1.length + k + 1 ≤ 1000000; omega)) ?_
       refine s_op k_as ?_
       refine s_nil trivial ?_
       refine n_blo ?_
       refine n_wp ?_
       refine g_reg hP hn ?_
       refine s_op k_mv ?_
       refine s_op k_add ?_
       refine s_op k_as ?_
       refine s_nil trivial ?_
       exact n_round (40 - (k + 1)) (by omega) (.inr (.inr ⟨k + 1, by omega, by omega, rfl, rfl, rfl⟩)) (wk hE [0, 1, 2, 3, 4, 7])
     · skip
       obtain rfl : k = 40 := by omega
       refine w_exit ?_
       refine x_thn ?_
       refine x_thn ?_
       refine x_eq ?_
       refine n_wp ?_
       refine g_reg hP hn ?_
       refine s_op k_mv ?_
       refine s_op k_nc ?_
       refine s_op k_fa ?_
       refine s_op k_ld ?_
       refine s_op k_mv ?_
       refine s_op k_mv ?_
       refine s_op (k_ixG 3 1) ?_
       refine s_op k_fa ?_
       refine s_st (k_st (h := by exact a_store_one rfl rfl SV.noConfusion rfl rfl (hset_seg (by repeat (first | apply sset_s _ rfl rfl | exact sset_0)) (by repeat (first | exact hset_0 | apply hset_s))))) ?_
       refine s_nil trivial ?_
       refine n_blo ?_
       refine n_wp ?_
       refine g_reg hP hn ?_
       refine s_op k_mv ?_
       refine s_op k_add ?_
       refine s_op k_as ?_
       refine s_nil trivial ?_
       exact n_round 0 (by omega) (.inr (.inr (⟨rfl, rfl, rfl⟩))) (wk hE [0, 1, 2, 3, 5])
 · skip
   refine w_seq ?_
   refine w_seq ?_
   refine g_reg hP hn ?_
   refine s_op k_mv ?_
   refine s_op k_mv ?_
   refine s_op k_nc ?_
   refine s_op k_fa ?_
   refine s_op k_ld ?_
   refine s_op k_len ?_
   refine s_op k_lss ?_
   refine s_nil trivial ?_
   refine n_wp ?_
   refine w_F rfl ?_ 
   refine w_exit ?_
   refine x_thn ?_
   refine x_thn ?_
   refine x_eq ?_
   exact d_ret hP hn hE [0, 1, 2, 3, 4] (ret_none Tryz.results63)

theorem look_CA (X1 : List Int) (hX1 : X1.length ≤ 100000) : Con Tryz.prog 78 [.s (.ptr 0 0 0)] [some ⟨true, [.one (.int .i64 ((2 : Nat) : Int)), .one (.gro 2 3 2), .one .nils, .one .nils, .one .nils, .one .nils, .one .nils, .one .nils, .one .nils, .one .nils, .one .nils, .one .nils, .one .nils, .one .nils, .one .nils, .one .nils]⟩, some ⟨true, [.ints .u8 (X1.length + 1) (List.replicate (X1.length + 1) 2)]⟩, some ⟨true, [.one .nils, .one (.gro 3 1 (0 + 40)), .one (.int .i64 ((1 : Nat) : Int)), .one (.slice 1 0 0 X1.length (X1.length + 1)), .one (.gro 4 1 (X1.length + 40)), .one (.int .i64 ((2 : Nat) : Int))]⟩, some ⟨true, [.ints .u8 (0 + 40) (List.replicate (0 + 40) 1)]⟩, some ⟨true, [.ints .u8 (X1.length + 40) (List.replicate (X1.length + 40) 2)]⟩] (.s (.bool true)) [some ⟨true, [.one (.int .i64 ((2 : Nat) : Int)), .one (.gro 2 3 2), .one .nils, .one .nils, .one .nils, .one .nils, .one .nils, .one .nils, .one .nils, .one .nils, .one .nils, .one .nils, .one .nils, .one .nils, .one .nils, .one .nils]⟩, some ⟨true, [.ints .u8 (X1.length + 1) (List.replicate (X1.length + 1) 2)]⟩, some ⟨true, [.one .nils, .one (.gro 3 1 (0 + 40)), .one (.int .i64 ((1 : Nat) : Int)), .one (.slice 1 0 0 X1.length (X1.length + 1)), .one (.gro 4 1 (X1.length + 40)), .one (.int .i64 ((2 : Nat) : Int))]⟩, some ⟨true, [.ints .u8 (0 + 40) (List.replicate (0 + 40) 1)]⟩, some ⟨true, [.ints .u8 (X1.length + 40) (List.replicate (X1.length + 40) 2)]⟩] := by
 refine con_in 64 Tryz.func78 rfl rfl (m := 5) rfl ?_
 intro E hP hn hE
 refine w_seq ?_
 refine g_reg hP hn ?_
 refine s_op k_as ?_
 refine s_nil trivial ?_
 refine n_wp ?_
 refine w_seq ?_
 refine w_seq ?_
 refine g_reg hP hn ?_
 refine s_op k_as ?_
 refine s_nil trivial ?_
 refine n_wp ?_
 refine w_block ?_
 refine c_loop (fun m_ T H => (m_ = 2 ∧ T = [(0, .s (.ptr 0 0 0)), (3, .s (.int .i64 ((0 : Nat) : Int)))] ∧ H = [some ⟨true, [.one (.int .i64 ((2 : Nat) : Int)), .one (.gro 2 3 2), .one .nils, .one .nils, .one .nils, .one .nils, .one .nils, .one .nils, .one .nils, .one .nils, .one .nils, .one .nils, .one .nils, .one .nils, .one .nils, .one .nils]⟩, some ⟨true, [.ints .u8 (X1.length + 1) (List.replicate (X1.length + 1) 2)]⟩, some ⟨true, [.one .nils, .one (.gro 3 1 (0 + 40)), .one (.int .i64 ((1 : Nat) : Int)), .one (.slice 1 0 0 X1.length (X1.length + 1)), .one (.gro 4 1 (X1.length + 40)), .one (.int .i64 ((2 : Nat) : Int))]⟩, some ⟨true, [.ints .u8 (0 + 40) (List.replicate (0 + 40) 1)]⟩, some ⟨true, [.ints .u8 (X1.length + 40) (List.replicate (X1.length + 40) 2)]⟩]) ∨ (m_ = 1 ∧ T = [(0, .s (.ptr 0 0 0)), (3, .s (.int .i64 ((1 : Nat) : Int)))] ∧ H = [some ⟨true, [.one (.int .i64 ((2 : Nat) : Int)), .one (.gro 2 3 2), .one .nils, .one .nils, .one .nils, .one .nils, .one .nils, .one .nils, .one .nils, .one .nils, .one .nils, .one .nils, .one .nils, .one .nils, .one .nils, .one .nils]⟩, some ⟨true, [.ints .u8 (X1.length + 1) (List.replicate (X1.length + 1) 2)]⟩, some ⟨true, [.one .nils, .one (.gro 3 1 (0 + 40)), .one (.int .i64 ((1 : Nat) : Int)), .one (.slice 1 0 0 X1.length (X1.length + 1)), .one (.gro 4 1 (X1.length + 40)), .one (.int .i64 ((2 : Nat) : Int))]⟩, some ⟨true, [.ints .u8 (0 + 40) (List.replicate (0 + 40) 1)]⟩, some ⟨true, [.ints .u8 (X1.length + 40) (List.replicate (X1.length + 40) 2)]⟩]) ∨ (m_ = 0 ∧ T = [(0, .s (.ptr 0 0 0)), (3, .s (.int .i64 ((2 : Nat) : Int)))] ∧ H = [some ⟨true, [.one (.int .i64 ((2 : Nat) : Int)), .one (.gro 2 3 2), .one .nils, .one .nils, .one .nils, .one .nils, .one .nils, .one .nils, .one .nils, .one .nils, .one .nils, .one .nils, .one .nils, .one .nils, .one .nils, .one .nils]⟩, some ⟨true, [.ints .u8 (X1.length + 1) (List.replicate (X1.length + 1) 2)]⟩, some ⟨true, [.one .nils, .one (.gro 3 1 (0 + 40)), .one (.int .i64 ((1 : Nat) : Int)), .one (.slice 1 0 0 X1.length (X1.length + 1)), .one (.gro 4 1 (X1.length + 40)), .one (.int .i64 ((2 : Nat) : Int))]⟩, some ⟨true, [.ints .u8 (0 + 40) (List.replicate (0 + 40) 1)]⟩, some ⟨true, [.ints .u8 (X1.length + 40) (List.replicate (X1.length + 40) 2)]⟩])) (2) (.inl ⟨rfl, rfl, rfl⟩) (wk hE [0, 1, 2, 3, 4]) ?_
 rintro n_ T_ H_ (⟨rfl, rfl, rfl⟩ | ⟨rfl, rfl, rfl⟩ | ⟨rfl, rfl, rfl⟩)
 · skip
   refine w_seq ?_
   refine w_seq ?_
   refine g_reg hP hn ?_
   refine s_op k_mv ?_
   refine s_op k_mv ?_
   refine s_op k_nc ?_
   refine s_op k_fa ?_
   refine s_op k_ld ?_
   refine s_op k_len ?_
   refine s_op k_lss ?_
   refine s_nil trivial ?_
   refine n_wp ?_
   refine w_T rfl ?_ 
   refine w_skip ?_
   refine n_wp ?_
   refine w_seq ?_
   refine w_block ?_
   refine w_seq ?_
   refine g_reg hP hn ?_
   refine s_op k_mv ?_
   refine s_op k_nc ?_
   refine s_op k_fa ?_
   refine s_op k_ld ?_
   refine s_op k_mv ?_
   refine s_op (k_ixG 0 0) ?_
   refine s_op (k_ld (h := by exact a_load_agg (sub := [.one .nils, .one (.gro 3 1 (0 + 40)), .one (.int .i64 ((1 : Nat) : Int))]) (r := [.one .nils, .one (.gro 3 1 (0 + 40)), .one (.int .i64 ((1 : Nat) : Int)), .one (.slice 1 0 0 X1.length (X1.length + 1)), .one (.gro 4 1 (X1.length + 40)), .one (.int .i64 ((2 : Nat) : Int))]) rfl rfl (by kernel_rfl) (by kernel_rfl))) ?_
   refine s_op k_al ?_
   refine s_st (k_st (h := by exact a_store_agg rfl rfl rfl (put_w (by kernel_rfl)) (by exact Nat.le_of_ble_eq_true rfl) (by kernel_rfl) (by repeat (first | exact hset_0 | apply hset_s)))) ?_
   refine s_nil trivial ?_
   refine n_wp ?_
   refine w_seq ?_
   refine w_seq ?_
   refine g_reg hP hn ?_
   refine s_op k_fa ?_
   refine s_op k_ld ?_
   refine s_op k_len ?_
   refine s_op k_fa ?_
   refine s_op k_ld ?_
   refine s_op k_len ?_
   refine s_op k_add ?_
   refine s_op (l_bin rfl rfl (b_neq (r := false) (decide_eq_false (by omega)))) ?_
   refine s_nil trivial ?_
   refine n_wp ?_
   refine w_F rfl ?_ 
   refine w_skip ?_
   refine n_wp ?_
   refine w_seq ?_
   refine g_reg hP hn ?_
   refine s_op k_as ?_
   refine s_nil trivial ?_
   refine n_wp ?_
   refine w_block ?_
   refine c_loop (fun m_ T H => ∃ k, k ≤ 0 + 40 ∧ m_ = 0 + 40 - k ∧ T = [(0, .s (.ptr 0 0 0)), (3, .s (.int .i64 ((0 : Nat) : Int))), (4, .s (.ptr 5 0 0)), (5, .s (.int .i64 ((k : Nat) : Int)))] ∧ H = [some ⟨true, [.one (.int .i64 ((2 : Nat) : Int)), .one (.gro 2 3 2), .one .nils, .one .nils, .one .nils, .one .nils, .one .nils, .one .nils, .one .nils, .one .nils, .one .nils, .one .nils, .one .nils, .one .nils, .one .nils, .one .nils]⟩, some ⟨true, [.ints .u8 (X1.length + 1) (List.replicate (X1.length + 1) 2)]⟩, some ⟨true, [.one .nils, .one (.gro 3 1 (0 + 40)), .one (.int .i64 ((1 : Nat) : Int)), .one (.slice 1 0 0 X1.length (X1.length + 1)), .one (.gro 4 1 (X1.length + 40)), .one (.int .i64 ((2 : Nat) : Int))]⟩, some ⟨true, [.ints .u8 (0 + 40) (List.replicate (0 + 40) 1)]⟩, some ⟨true, [.ints .u8 (X1.length + 40) (List.replicate (X1.length + 40) 2)]⟩, some ⟨true, [.one .nils, .one (.gro 3 1 (0 + 40)), .one (.int .i64 ((1 : Nat) : Int))]⟩]) (0 + 40) ⟨0, by omega, rfl, rfl, rfl⟩ (wk hE [0, 1, 2, 3, 4, 5]) ?_
   rintro n_ T_ H_ ⟨k, hk, rfl, rfl, rfl⟩
   refine w_seq ?_
   refine w_seq ?_
   refine g_reg hP hn ?_
   refine s_op k_mv ?_
   refine s_op k_fa ?_
   refine s_op k_ld ?_
   refine s_op k_len ?_
   refine s_op k_lss ?_
   refine s_nil trivial ?_
   refine n_wp ?_
   refine w_if rfl (fun h_t34 => ?_) (fun h_t34 => ?_)
   · skip
     refine w_skip ?_
     refine n_wp ?_
     refine w_seq ?_
     refine w_block ?_
     refine w_seq ?_
     refine g_any hP hn ?_
     refine s_op k_fa ?_
     refine s_op k_ld ?_
     refine s_op k_mv ?_
     refine s_op k_ix ?_
     refine s_op k_ld ?_
     refine s_op k_fa ?_
     refine s_op k_ld ?_
     refine s_op (k_call [] (con := is_t 1 _ (by decide) (rep_g _ _ _ (by omega)))) ?_
     refine s_op k_not ?_
     refine s_op k_mv ?_
     refine s_on rfl rfl rfl k_mv ?_
     refine s_on rfl rfl rfl k_fa ?_
     refine s_on rfl rfl rfl k_ld ?_
     refine s_on rfl rfl rfl k_len ?_
     refine s_on rfl rfl rfl (l_bin rfl rfl (b_lss (r := false) (decide_eq_false (by omega)))) ?_
     refine s_on rfl rfl rfl k_mv ?_
     refine s_off rfl rfl rfl ?_
     refine s_off rfl rfl rfl ?_
     refine s_off rfl rfl rfl ?_
     refine s_off rfl rfl rfl ?_
     refine s_off rfl rfl rfl ?_
     refine s_off rfl rfl rfl ?_
     refine s_off rfl rfl rfl ?_
     refine s_off rfl rfl rfl ?_
     refine s_off rfl rfl rfl ?_
     refine s_on rfl rfl rfl k_pk ?_
     refine s_op k_pk ?_
     refine s_nil (by kernel_rfl) ?_
     refine n_wp ?_
     refine w_F rfl ?_ (by first | rfl | exact Bool.and_false _ | simp)
     refine w_skip ?_
     refine n_blo ?_
     refine n_wp ?_
     refine g_reg hP hn ?_
     refine s_op k_mv ?_
     refine s_op k_add ?_
     refine s_op k_as ?_
     refine s_nil trivial ?_
     exact n_round (0 + 40 - (k + 1)) (by omega) ⟨k + 1, by omega, rfl, rfl, rfl⟩ (wk hE [0, 1, 2, 3, 4, 5])
   · skip
     obtain rfl : k = 0 + 40 := by omega
     refine w_exit ?_
     refine x_thn ?_
     refine x_thn ?_
     refine x_eq ?_
     refine n_blo ?_
     refine n_wp ?_
     refine g_reg hP hn ?_
     refine s_op k_mv ?_
     refine s_op k_add ?_
     refine s_op k_as ?_
     refine s_nil trivial ?_
     exact n_round 1 (by omega) (.inr (.inl ⟨rfl, rfl, rfl⟩)) (wk hE [0, 1, 2, 3, 4])
 · skip
   refine w_seq ?_
   refine w_seq ?_
   refine g_reg hP hn ?_
   refine s_op k_mv ?_
   refine s_op k_mv ?_
   refine s_op k_nc ?_
   refine s_op k_fa ?_
   refine s_op k_ld ?_
   refine s_op k_len ?_
   refine s_op k_lss ?_
   refine s_nil trivial ?_
   refine n_wp ?_
   refine w_T rfl ?_ 
   refine w_skip ?_
   refine n_wp ?_
   refine w_seq ?_
   refine w_block ?_
   refine w_seq ?_
   refine g_reg hP hn ?_
   refine s_op k_mv ?_
   refine s_op k_nc ?_
   refine s_op k_fa ?_
   refine s_op k_ld ?_
   refine s_op k_mv ?_
   refine s_op (k_ixG 3 1) ?_
   refine s_op (k_ld (h := by exact a_load_agg (sub := [.one (.slice 1 0 0 X1.length (X1.length + 1)), .one (.gro 4 1 (X1.length + 40)), .one (.int .i64 ((2 : Nat) : Int))]) (r := [.one (.slice 1 0 0 X1.length (X1.length + 1)), .one (.gro 4 1 (X1.length + 40)), .one (.int .i64 ((2 : Nat) : Int))]) rfl rfl (by kernel_rfl) (by kernel_rfl))) ?_
   refine s_op k_al ?_
   refine s_st (k_st (h := by exact a_store_agg rfl rfl rfl (put_w (by kernel_rfl)) (by exact Nat.le_of_ble_eq_true rfl) (by kernel_rfl) (by repeat (first | exact hset_0 | apply hset_s)))) ?_
   refine s_nil trivial ?_
   refine n_wp ?_
   refine w_seq ?_
   refine w_seq ?_
   refine g_reg hP hn ?_
   refine s_op k_fa ?_
   refine s_op k_ld ?_
   refine s_op k_len ?_
   refine s_op k_fa ?_
   refine s_op k_ld ?_
   refine s_op k_len ?_
   refine s_op k_add ?_
   refine s_op (l_bin rfl rfl (b_neq (r := false) (decide_eq_false (by omega)))) ?_
   refine s_nil trivial ?_
   refine n_wp ?_
   refine w_F rfl ?_ 
   refine w_skip ?_
   refine n_wp ?_
   refine w_seq ?_
   refine g_reg hP hn ?_
   refine s_op k_as ?_
   refine s_nil trivial ?_
   refine n_wp ?_
   refine w_block ?_
   refine c_loop (fun m_ T H => ∃ k, k ≤ X1.length + 40 ∧ m_ = X1.length + 40 - k ∧ T = [(0, .s (.ptr 0 0 0)), (3, .s (.int .i64 ((1 : Nat) : Int))), (4, .s (.ptr 5 0 0)), (5, .s (.int .i64 ((k : Nat) : Int)))] ∧ H = [some ⟨true, [.one (.int .i64 ((2 : Nat) : Int)), .one (.gro 2 3 2), .one .nils, .one .nils, .one .nils, .one .nils, .one .nils, .one .nils, .one .nils, .one .nils, .one .nils, .one .nils, .one .nils, .one .nils, .one .nils, .one .nils]⟩, some ⟨true, [.ints .u8 (X1.length + 1) (List.replicate (X1.length + 1) 2)]⟩, some ⟨true, [.one .nils, .one (.gro 3 1 (0 + 40)), .one (.int .i64 ((1 : Nat) : Int)), .one (.slice 1 0 0 X1.length (X1.length + 1)), .one (.gro 4 1 (X1.length + 40)), .one (.int .i64 ((2 : Nat) : Int))]⟩, some ⟨true, [.ints .u8 (0 + 40) (List.replicate (0 + 40) 1)]⟩, some ⟨true, [.ints .u8 (X1.length + 40) (List.replicate (X1.length + 40) 2)]⟩, some ⟨true, [.one (.slice 1 0 0 X1.length (X1.length + 1)), .one (.gro 4 1 (X1.length + 40)), .one (.int .i64 ((2 : Nat) : Int))]⟩]) (X1.length + 40) ⟨0, by omega, rfl, rfl, rfl⟩ (wk hE [0, 1, 2, 3, 4, 5]) ?_
   rintro n_ T_ H_ ⟨k, hk, rfl, rfl, rfl⟩
   refine w_seq ?_
   refine w_seq ?_
   refine g_reg hP hn ?_
   refine s_op k_mv ?_
   refine s_op k_fa ?_
   refine s_op k_ld ?_
   refine s_op k_len ?_
   refine s_op k_lss ?_
   refine s_nil trivial ?_
   refine n_wp ?_
   refine w_if rfl (fun h_t34 => ?_) (fun h_t34 => ?_)
   · skip
     refine w_skip ?_
     refine n_wp ?_
     refine w_seq ?_
     refine w_block ?_
     refine w_seq ?_
     refine g_any hP hn ?_
     refine s_op k_fa ?_
     refine s_op k_ld ?_
     refine s_op k_mv ?_
     refine s_op k_ix ?_
     refine s_op k_ld ?_
     refine s_op k_fa ?_
     refine s_op k_ld ?_
     refine s_op (k_call [] (con := is_t 2 _ (by decide) (rep_g _ _ _ (by omega)))) ?_
     refine s_op k_not ?_
     refine s_op k_mv ?_
     refine s_on rfl rfl rfl k_mv ?_
     refine s_on rfl rfl rfl k_fa ?_
     refine s_on rfl rfl rfl k_ld ?_
     refine s_on rfl rfl rfl k_len ?_
     refine s_on rfl rfl rfl k_lss ?_
     refine s_on rfl rfl rfl k_mv ?_
     refine s_opt rfl rfl (fun hB => by rw [hB]; (try simp only [Bool.or_eq_true, Bool.or_eq_false_iff, Bool.and_eq_true, Bool.not_eq_true', Bool.not_eq_false', decide_eq_true_eq, decide_eq_false_iff_not] at hB); exact k_fa) ?_
     refine s_opt rfl rfl (fun hB => by rw [hB]; (try simp only [Bool.or_eq_true, Bool.or_eq_false_iff, Bool.and_eq_true, Bool.not_eq_true', Bool.not_eq_false', decide_eq_true_eq, decide_eq_false_iff_not] at hB); exact k_ld) ?_
     refine s_opt rfl rfl (fun hB => by rw [hB]; (try simp only [Bool.or_eq_true, Bool.or_eq_false_iff, Bool.and_eq_true, Bool.not_eq_true', Bool.not_eq_false', decide_eq_true_eq, decide_eq_false_iff_not] at hB); exact k_mv) ?_
     refine s_opt rfl rfl (fun hB => by rw [hB]; (try simp only [Bool.or_eq_true, Bool.or_eq_false_iff, Bool.and_eq_true, Bool.not_eq_true', Bool.not_eq_false', decide_eq_true_eq, decide_eq_false_iff_not] at hB); exact k_ix) ?_
     refine s_opt rfl rfl (fun hB => by rw [hB]; (try simp only [Bool.or_eq_true, Bool.or_eq_false_iff, Bool.and_eq_true, Bool.not_eq_true', Bool.not_eq_false', decide_eq_true_eq, decide_eq_false_iff_not] at hB); exact k_ld) ?_
     refine s_opt rfl rfl (fun hB => by rw [hB]; (try simp only [Bool.or_eq_true, Bool.or_eq_false_iff, Bool.and_eq_true, Bool.not_eq_true', Bool.not_eq_false', decide_eq_true_eq, decide_eq_false_iff_not] at hB); exact k_fa) ?_
     refine s_opt rfl rfl (fun hB => by rw [hB]; (try simp only [Bool.or_eq_true, Bool.or_eq_false_iff, Bool.and_eq_true, Bool.not_eq_true', Bool.not_eq_false', decide_eq_true_eq, decide_eq_false_iff_not] at hB); exact k_ld) ?_
     refine s_opt rfl rfl (fun hB => by rw [hB]; (try simp only [Bool.or_eq_true, Bool.or_eq_false_iff, Bool.and_eq_true, Bool.not_eq_true', Bool.not_eq_false', decide_eq_true_eq, decide_eq_false_iff_not] at hB); exact k_call [] (con := is_t 2 _ (by decide) (rep_g _ _ _ (by omega)))) ?_
     refine s_opt rfl rfl (fun hB => by rw [hB]; (try simp only [Bool.or_eq_true, Bool.or_eq_false_iff, Bool.and_eq_true, Bool.not_eq_true', Bool.not_eq_false', decide_eq_true_eq, decide_eq_false_iff_not] at hB); exact k_not) ?_
     refine s_on rfl rfl rfl k_pk ?_
     refine s_op k_pk ?_
     refine s_nil (by kernel_rfl) ?_
     refine n_wp ?_
     refine w_F rfl ?_ (by first | rfl | exact Bool.and_false _ | simp)
     refine w_skip ?_
     refine n_blo ?_
     refine n_wp ?_
     refine g_reg hP hn ?_
     refine s_op k_mv ?_
     refine s_op k_add ?_
     refine s_op k_as ?_
     refine s_nil trivial ?_
     exact n_round (X1.length + 40 - (k + 1)) (by omega) ⟨k + 1, by omega, rfl, rfl, rfl⟩ (wk hE [0, 1, 2, 3, 4, 5])
   · skip
     obtain rfl : k = X1.length + 40 := by omega
     refine w_exit ?_
     refine x_thn ?_
     refine x_thn ?_
     refine x_eq ?_
     refine n_blo ?_
     refine n_wp ?_
     refine g_reg hP hn ?_
     refine s_op k_mv ?_
     refine s_op k_add ?_
     refine s_op k_as ?_
     refine s_nil trivial ?_
     exact n_round 0 (by omega) (.inr (.inr (⟨rfl, rfl, rfl⟩))) (wk hE [0, 1, 2, 3, 4])
 · skip
   refine w_seq ?_
   refine w_seq ?_
   refine g_reg hP hn ?_
   refine s_op k_mv ?_
   refine s_op k_mv ?_
   refine s_op k_nc ?_
   refine s_op k_fa ?_
   refine s_op k_ld ?_
   refine s_op k_len ?_
   refine s_op k_lss ?_
   refine s_nil trivial ?_
   refine n_wp ?_
   refine w_F rfl ?_ 
   refine w_exit ?_
   refine x_thn ?_
   refine x_thn ?_
   refine x_eq ?_
   refine n_wp ?_
   refine w_seq ?_
   refine g_reg hP hn ?_
   refine s_op k_as ?_
   refine s_nil trivial ?_
   refine n_wp ?_
   refine w_ret ?_
   exact d_ret hP hn hE [0, 1, 2, 3, 4] (by first | exact r_tmp Tryz.results78 | exact r_tmpa Tryz.results78)

end Go.Proofs.X
end
