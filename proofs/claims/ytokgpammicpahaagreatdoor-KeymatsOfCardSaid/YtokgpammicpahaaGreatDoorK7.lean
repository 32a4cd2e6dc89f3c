/- A part of the proofs of this claim: BKmt1, BKmt2, BKmt3, BStrT, BStr3, BKmt4, BBok1. No conditions. -/
import Derived.Test.YtokgpammicpahaaGreatDoorK6
import Derived.Test.YtokgpammicpahaaGreatDoorK4
import Derived.Test.YtokgpammicpahaaGreatDoorK5
set_option linter.unusedVariables false
set_option linter.unusedSimpArgs false
section
open Go Go.Bx Go.Proofs
namespace Go.Proofs.X
set_option maxRecDepth 100000
set_option maxHeartbeats 4000000
theorem be_s (n v : Nat) : be (n + 1) v = be n (v / 256) ++ [((v % 256 : Nat) : Int)] := by
  refine eqI_n (n + 1) (be_len _ _) (by simp [be_len]) fun i hi => ?_
  rw [be_get _ _ _ hi, getD_app, be_len]
  by_cases h : i < n
  · rw [if_pos h, be_get _ _ _ h, Nat.div_div_eq_div_mul, show n + 1 - 1 - i = (n - 1 - i) + 1 by omega, Nat.pow_succ, Nat.mul_comm]
  · rw [if_neg h, show i - n = 0 by omega, show n + 1 - 1 - i = 0 by omega, Nat.pow_zero, Nat.div_one]; rfl
def plB (v : Nat) : Nat → List Int
  | 0 => []
  | i + 1 => be 8 ((wd v).getD i 0) ++ plB v i
theorem plB_len (v i : Nat) : (plB v i).length = 8 * i := by
  induction i with
  | zero => rfl
  | succ i ih => rw [plB, List.length_append, be_len, ih]; omega
theorem be8w (v q r : Nat) (hr : r < 8) (hq : q < 4) : (be 8 ((wd v).getD q 0)).getD r 0 = ((v / 256 ^ (8 * q + (7 - r)) % 256 : Nat) : Int) := by
  rw [be_get 8 _ r hr, wd_at _ _ hq]
  congr 1
  show v / 18446744073709551616 ^ q % 18446744073709551616 / 256 ^ (8 - 1 - r) % 256 = _
  have e1 : (18446744073709551616 : Nat) ^ q = 256 ^ (8 * q) := by rw [Nat.pow_mul]
  have e2 : (18446744073709551616 : Nat) = 256 ^ (7 - r) * (256 * 256 ^ r) := by
    rw [← Nat.mul_assoc, ← Nat.pow_succ, ← Nat.pow_add, show 7 - r + 1 + r = 8 by omega]
  rw [e1, show 8 - 1 - r = 7 - r by omega]
  generalize hx : v / 256 ^ (8 * q) = x
  rw [show x % 18446744073709551616 = x % (256 ^ (7 - r) * (256 * 256 ^ r)) by rw [← e2], Nat.mod_mul_right_div_self, Nat.mod_mul_right_mod, ← hx, Nat.div_div_eq_div_mul, ← Nat.pow_add]
theorem plB_eq (v : Nat) : plB v 4 = be 32 v := by
  refine eqI_n 32 (plB_len _ _) (be_len _ _) fun i hi => ?_
  rw [be_get 32 v i hi]
  have hg : ∀ (q : Nat) (R : List Int) (j : Nat), (be 8 ((wd v).getD q 0) ++ R).getD j 0 = if j < 8 then (be 8 ((wd v).getD q 0)).getD j 0 else R.getD (j - 8) 0 := fun q R j => by rw [getD_app, be_len]
  have e : plB v 4 = be 8 ((wd v).getD 3 0) ++ (be 8 ((wd v).getD 2 0) ++ (be 8 ((wd v).getD 1 0) ++ (be 8 ((wd v).getD 0 0) ++ []))) := rfl
  rw [e, hg, hg, hg, hg]
  by_cases h1 : i < 8
  · rw [if_pos h1, be8w _ _ _ h1 (by omega), show 8 * 3 + (7 - i) = 32 - 1 - i by omega]
  · rw [if_neg h1]
    by_cases h2 : i - 8 < 8
    · rw [if_pos h2, be8w _ _ _ h2 (by omega), show 8 * 2 + (7 - (i - 8)) = 32 - 1 - i by omega]
    · rw [if_neg h2]
      by_cases h3 : i - 8 - 8 < 8
      · rw [if_pos h3, be8w _ _ _ h3 (by omega), show 8 * 1 + (7 - (i - 8 - 8)) = 32 - 1 - i by omega]
      · rw [if_neg h3, if_pos (by omega), be8w _ _ _ (by omega) (by omega), show 8 * 0 + (7 - (i - 8 - 8 - 8)) = 32 - 1 - i by omega]
attribute [local irreducible] be wd
theorem rrow_0 (v : Nat) : Con Tryz.prog 158 [.s (.int .u64 ((v : Nat) : Int)), .s (.int .i64 ((0 : Nat) : Int))] [] (.s (.gro 0 1 0)) [some ⟨true, [.ints .u8 (0) (be 0 v)]⟩] := by
 refine con_in 17 Tryz.func158 rfl rfl (m := 0) rfl ?_
 intro E hP hn hE
 refine w_seq ?_
 refine g_reg hP hn ?_
 refine s_op k_as ?_
 refine s_nil trivial ?_
 refine n_wp ?_
 refine w_seq ?_
 refine w_seq ?_
 refine g_reg hP hn ?_
 refine s_op k_mv ?_
 refine s_op k_lss ?_
 refine s_nil trivial ?_
 refine n_wp ?_
 refine w_T rfl ?_ 
 refine w_seq ?_
 refine g_reg hP hn ?_
 refine s_op k_as ?_
 refine s_nil trivial ?_
 refine n_wp ?_
 refine w_weak (weak_gro 4 1 0 (segs := [.ints .u8 0 (be 0 v)]) rfl rfl rfl) ?_
 refine w_ret ?_
 refine r_thn ?_
 exact d_ret hP hn hE [0] (by first | exact r_tmp Tryz.results158 | exact r_tmpa Tryz.results158)

theorem rrow_s (n v : Nat) (hm : n < 8) (hv : v < 18446744073709551616) (ih : Con Tryz.prog 158 [.s (.int .u64 ((v / 256 : Nat) : Int)), .s (.int .i64 ((n : Nat) : Int))] [] (.s (.gro 0 1 n)) [some ⟨true, [.ints .u8 (n) (be n (v / 256))]⟩]) : Con Tryz.prog 158 [.s (.int .u64 ((v : Nat) : Int)), .s (.int .i64 ((n + 1 : Nat) : Int))] [] (.s (.gro 0 1 (n + 1))) [some ⟨true, [.ints .u8 (n + 1) (be (n + 1) v)]⟩] := by
 refine con_in 17 Tryz.func158 rfl rfl (m := 0) rfl ?_
 intro E hP hn hE
 refine w_seq ?_
 refine g_reg hP hn ?_
 refine s_op k_as ?_
 refine s_nil trivial ?_
 refine n_wp ?_
 refine w_seq ?_
 refine w_seq ?_
 refine g_reg hP hn ?_
 refine s_op k_mv ?_
 refine s_op k_lss ?_
 refine s_nil trivial ?_
 refine n_wp ?_
 refine w_F rfl ?_ (decide_eq_false (by omega))
 refine w_skip ?_
 refine n_wp ?_
 refine w_seq ?_
 refine g_reg hP hn ?_
 refine s_op k_mv ?_
 refine s_op k_quo ?_
 refine s_op k_mv ?_
 refine s_op (k_sub (by exact l_bin rfl rfl (b_sub (r := ((n : Nat) : Int)) (by rw [wrap_i64 (by omega)]; omega)))) ?_
 refine s_op (k_call [] (con := ih)) ?_
 refine s_op k_mv ?_
 refine s_op k_rem ?_
 refine s_op k_cv ?_
 refine s_op k_bsf ?_
 refine s_op (k_apg (c := n + 1) (l' := be (n + 1) v) (hc := by rfl) (hl' := by rw [List.take_of_length_le (Nat.le_of_eq (be_len _ _))]; exact (be_s n v).symm) (hq := by exact Nat.le_refl _) (hl := be_len _ _) (hbig := by show n + 1 ≤ 1000000; omega)) ?_
 refine s_op k_as ?_
 refine s_nil trivial ?_
 refine n_wp ?_
 refine w_ret ?_
 exact d_ret hP hn hE [2] (by first | exact r_tmp Tryz.results158 | exact r_tmpa Tryz.results158)

theorem rrow_c (n : Nat) : ∀ v : Nat, n ≤ 8 → v < 18446744073709551616 → Con Tryz.prog 158 [.s (.int .u64 ((v : Nat) : Int)), .s (.int .i64 ((n : Nat) : Int))] [] (.s (.gro 0 1 n)) [some ⟨true, [.ints .u8 (n) (be n v)]⟩] := by
  induction n with
  | zero => exact fun v _ _ => rrow_0 v
  | succ n ih => exact fun v h1 h2 => rrow_s n v (by omega) h2 (ih (v / 256) (by omega) (by omega))
theorem rrow8 (x : Int) (v : Nat) (hx : x = (v : Int)) (hv : v < 18446744073709551616) : Con Tryz.prog 158 [.s (.int .u64 x), .s (.int .i64 8)] [] (.s (.gro 0 1 8)) [some ⟨true, [.ints .u8 (8) (be 8 v)]⟩] := by
  subst hx; exact rrow_c 8 v (Nat.le_refl _) hv

theorem behind_m (B L : List Int) (hb : B.length + L.length ≤ 1000000) : Con Tryz.prog 157 [.s (.fzi .u8 B), .s (.fzi .u8 L)] [] (.s (.gro 0 1 (B.length + L.length))) [some ⟨true, [.ints .u8 (B.length + L.length) (B ++ L)]⟩] := by
 refine con_in 9 Tryz.func157 rfl rfl (m := 0) rfl ?_
 intro E hP hn hE
 refine w_seq ?_
 refine g_reg hP hn ?_
 refine s_op k_as ?_
 refine s_nil trivial ?_
 refine n_wp ?_
 refine w_seq ?_
 refine w_weak (H' := [some ⟨true, [.ints .u8 0 []]⟩]) (weak_new (segs := [.ints .u8 0 []]) rfl) ?_
 refine g_reg hP hn ?_
 refine s_op k_mv ?_
 refine s_op (k_apn 0) ?_
 refine s_op k_mv ?_
 refine s_op (k_apg (c := B.length + L.length) (l' := B ++ L) (hc := by rfl) (hl' := by rw [List.take_length]) (hq := by exact Nat.le_refl _) (hl := by rfl)) ?_
 refine s_op k_as ?_
 refine s_nil trivial ?_
 refine n_wp ?_
 refine w_ret ?_
 exact d_ret hP hn hE [2] (by first | exact r_tmp Tryz.results157 | exact r_tmpa Tryz.results157)

theorem rpl_c (v : Nat) : Con Tryz.prog 96 [.s (.fzi .u8 []), .agg [.ints .u64 4 (zs (wd v))]] [] (.s (.fzi .u8 (be 32 v))) [] := by
 refine con_in 20 Tryz.func96 rfl rfl (m := 0) rfl ?_
 intro E hP hn hE
 refine w_seq ?_
 refine g_reg hP hn ?_
 refine s_op k_bx ?_
 refine s_op k_as ?_
 refine s_nil trivial ?_
 refine n_wp ?_
 refine w_seq ?_
 refine g_reg hP hn ?_
 refine s_op k_as ?_
 refine s_nil trivial ?_
 refine n_wp ?_
 refine w_seq ?_
 refine w_seq ?_
 refine g_reg hP hn ?_
 refine s_op k_as ?_
 refine s_nil trivial ?_
 refine n_wp ?_
 refine w_block ?_
 refine c_loop (fun m_ T H => ∃ i : Nat, i ≤ 4 ∧ m_ = 4 - i ∧ T = [(0, .s (.fzi .u8 [])), (3, .s (.ptr 0 0 0)), (5, .s (.fzi .u8 (plB v i))), (6, .s (.int .i64 ((i : Nat) : Int)))] ∧ H = [some ⟨true, [.ints .u64 4 (zs (wd v))]⟩]) (4) ⟨0, by omega, rfl, rfl, rfl⟩ ((weak_conv 5 rfl (conv_nil (k := .u8))).trans (wk hE [0])) ?_
 rintro n_ T_ H_ ⟨i, hi, rfl, rfl, rfl⟩
 refine w_seq ?_
 refine w_seq ?_
 refine g_reg hP hn ?_
 refine s_op k_mv ?_
 refine s_op k_lss ?_
 refine s_nil trivial ?_
 refine n_wp ?_
 refine w_if rfl (fun h_t8 => ?_) (fun h_t8 => ?_)
 · skip
   refine w_skip ?_
   refine n_wp ?_
   refine w_seq ?_
   refine w_block ?_
   refine g_reg hP hn ?_
   refine s_op k_mv ?_
   refine s_op k_ix ?_
   refine s_op k_ld ?_
   refine s_op (k_call [] (con := rrow8 _ _ (zs_getD _ _) (wd_B64 v i))) ?_
   refine s_op k_mv ?_
   refine s_op (k_tmpN 1 [some ⟨true, [.ints .u8 ((be 8 ((wd v).getD i 0)).length + (plB v i).length) (be 8 ((wd v).getD i 0) ++ plB v i)]⟩] (h := k_call [] (con := behind_m (be 8 ((wd v).getD i 0)) (plB v i) (by rw [be_len, plB_len]; omega)) (hargs := by exact .cons rfl (conv_gro (id := 1) (n := 8) (kk := .u8) (l := be 8 ((wd v).getD i 0)) (k := ⟨false, [.ints .u8 8 (be 8 ((wd v).getD i 0))]⟩) (by rfl) rfl rfl (Nat.le_refl _) (be_len _ _) (List.take_of_length_le (Nat.le_of_eq (be_len _ _)))) (.cons rfl cv .nil)) (hH := by rfl))) ?_
   refine s_op k_as ?_
   refine s_nil trivial ?_
   refine n_blo ?_
   refine n_wp ?_
   refine w_weak (frz_gro 5 (l' := plB v (i + 1)) (hn := Nat.le_refl _) (hl := by rw [List.length_append]) (hl' := by rw [List.take_of_length_le (by rw [List.length_append]; exact Nat.le_refl _)]; rfl)) ?_
   refine g_reg hP hn ?_
   refine s_op k_mv ?_
   refine s_op k_add ?_
   refine s_op k_as ?_
   refine s_nil trivial ?_
   exact n_round (4 - (i + 1)) (by omega) ⟨i + 1, by omega, rfl, rfl, rfl⟩ (wk hE [0])
 · skip
   obtain rfl : i = 4 := by omega
   refine w_exit ?_
   refine x_thn ?_
   refine x_thn ?_
   refine x_eq ?_
   refine n_wp ?_
   refine w_seq ?_
   refine g_reg hP hn ?_
   refine s_op k_mv ?_
   refine s_op k_mv ?_
   refine s_op (k_call [] (con := behind_m [] (plB v 4) (by rw [plB_len]; exact Nat.le_of_ble_eq_true rfl))) ?_
   refine s_op k_as ?_
   refine s_nil trivial ?_
   refine n_wp ?_
   refine w_ret ?_
   exact d_retw hP hn (r_tmp Tryz.results96) ((frz_gro 0 (l' := be 32 v) (hn := Nat.le_refl _) (hl := by rw [List.length_append]) (hl' := by rw [List.take_of_length_le (by rw [List.length_append]; exact Nat.le_refl _), List.nil_append, plB_eq])).trans (wk hE []))

theorem row4_c (v : Nat) : Con Tryz.prog 155 [.s (.fzi .u8 []), .s (.int .i64 8), .s (.fzi .u64 [(zs (wd v)).getD 3 0, (zs (wd v)).getD 2 0, (zs (wd v)).getD 1 0, (zs (wd v)).getD 0 0])] [] (.s (.fzi .u8 (be 32 v))) [] := by
  have c := row_c [] [(zs (wd v)).getD 3 0, (zs (wd v)).getD 2 0, (zs (wd v)).getD 1 0, (zs (wd v)).getD 0 0] 8 32 rfl (by decide) (Nat.le_of_ble_eq_true rfl)
  have e := rowL_4 [] v
  have ez : zs [(wd v).getD 3 0, (wd v).getD 2 0, (wd v).getD 1 0, (wd v).getD 0 0] = [(zs (wd v)).getD 3 0, (zs (wd v)).getD 2 0, (zs (wd v)).getD 1 0, (zs (wd v)).getD 0 0] := by simp only [zs_getD]; rfl
  rw [ez] at e
  have e' : rowL 32 [] ([] : List Int).length 8 [(zs (wd v)).getD 3 0, (zs (wd v)).getD 2 0, (zs (wd v)).getD 1 0, (zs (wd v)).getD 0 0].length [(zs (wd v)).getD 3 0, (zs (wd v)).getD 2 0, (zs (wd v)).getD 1 0, (zs (wd v)).getD 0 0] = be 32 v := e
  rw [e'] at c
  exact c

theorem pl_c (v : Nat) : Con Tryz.prog 94 [.s (.fzi .u8 []), .agg [.ints .u64 4 (zs (wd v))]] [] (.s (.fzi .u8 (be 32 v))) [] := by
 refine con_in 16 Tryz.func94 rfl rfl (m := 0) rfl ?_
 intro E hP hn hE
 refine w_seq ?_
 refine g_reg hP hn ?_
 refine s_op k_bx ?_
 refine s_op k_as ?_
 refine s_nil trivial ?_
 refine n_wp ?_
 refine w_seq ?_
 refine g_reg hP hn ?_
 refine s_op k_mv ?_
 refine s_op k_ix ?_
 refine s_op k_ld ?_
 refine s_op k_ix ?_
 refine s_op k_ld ?_
 refine s_op k_ix ?_
 refine s_op k_ld ?_
 refine s_op k_ix ?_
 refine s_op k_ld ?_
 refine s_op k_bsf ?_
 refine s_op (k_call [] (con := row4_c v)) ?_
 refine s_op k_as ?_
 refine s_nil trivial ?_
 refine n_wp ?_
 refine w_ret ?_
 exact d_ret hP hn hE [] (by first | exact r_tmp Tryz.results94 | exact r_tmpa Tryz.results94)

end Go.Proofs.X
end

section
open Go Go.Bx Go.Proofs
namespace Go.Proofs.X
set_option maxRecDepth 100000
set_option maxHeartbeats 4000000
def laneR : List Int := [108, 97, 110, 101]
def kyR (K : List Int) : Nat → List Int
  | 0 => []
  | i + 1 => rmac K [kyR K i, laneR, [((i + 1 : Nat) : Int)]].flatten
def koR (K : List Int) : Nat → List Int
  | 0 => []
  | i + 1 => koR K i ++ kyR K (i + 1)
theorem rmac_len (K A : List Int) : (rmac K A).length = 32 := rsumL_len _
theorem kyR_len (K : List Int) (i : Nat) : (kyR K (i + 1)).length = 32 := rmac_len _ _
theorem kyR_le (K : List Int) (i : Nat) : (kyR K i).length ≤ 32 := by
  cases i with
  | zero => exact Nat.zero_le _
  | succ i => exact Nat.le_of_eq (kyR_len _ _)
theorem koR_len (K : List Int) (i : Nat) : (koR K i).length = 32 * i := by
  induction i with
  | zero => rfl
  | succ i ih => rw [koR, List.length_append, ih, kyR_len]; omega
theorem koR_s (K : List Int) (i : Nat) : koR K (i + 1) = koR K i ++ kyR K (i + 1) := rfl
theorem U8'_rmac (K A : List Int) : U8' (rmac K A) := U8'_rsum _
theorem U8'_kyR (K : List Int) (i : Nat) : U8' (kyR K i) := by
  cases i with
  | zero => exact fun i => (show 0 ≤ (0 : Int) ∧ (0 : Int) < 256 from by decide)
  | succ i => exact U8'_rmac _ _
theorem U8'_kf (K : List Int) (i : Nat) (h : i < 255) : U8' [kyR K i, laneR, [((i + 1 : Nat) : Int)]].flatten := by
  have e : [kyR K i, laneR, [((i + 1 : Nat) : Int)]].flatten = kyR K i ++ [108, 97, 110, 101, ((i + 1 : Nat) : Int)] := by simp [laneR]
  rw [e]
  refine U8'_app (U8'_kyR _ _) fun j => ?_
  match j with
  | 0 => exact (show 0 ≤ (108 : Int) ∧ (108 : Int) < 256 from by decide)
  | 1 => exact (show 0 ≤ (97 : Int) ∧ (97 : Int) < 256 from by decide)
  | 2 => exact (show 0 ≤ (110 : Int) ∧ (110 : Int) < 256 from by decide)
  | 3 => exact (show 0 ≤ (101 : Int) ∧ (101 : Int) < 256 from by decide)
  | 4 => show 0 ≤ ((i + 1 : Nat) : Int) ∧ ((i + 1 : Nat) : Int) < 256; omega
  | j + 5 => exact (show 0 ≤ (0 : Int) ∧ (0 : Int) < 256 from by decide)
theorem kf_len (K : List Int) (i : Nat) : [kyR K i, laneR, [((i + 1 : Nat) : Int)]].flatten.length = (kyR K i).length + 5 := by simp [laneR]
def kK (v : Nat) (ID : List Int) : List Int := rmac ID [be 32 v].flatten
theorem kK_len (v : Nat) (ID : List Int) : (kK v ID).length = 32 := rmac_len _ _
def kA (K : List Int) (n : Nat) : List Int := (koR K ((n + 31) / 32)).take n
theorem kA_len (K : List Int) (n : Nat) : (kA K n).length = n := by rw [kA, List.length_take, koR_len]; omega
theorem kA_of (K : List Int) (n j : Nat) (h1 : ¬ 32 * j < n) (h2 : 32 * j < n + 32) : (koR K j).take n = kA K n := by rw [kA, show (n + 31) / 32 = j by omega]
theorem mac_r (K : List Int) (L : List (List Int)) (hK0 : 0 < K.length) (hK : K.length ≤ 64) (hL : L.length ≤ 1000) (hl : L.flatten.length ≤ 800000) : Con Tryz.prog 93 [.s (.fzi .u8 K), .s (ROWS L)] [] (.agg [.ints .u8 32 (rmac K L.flatten)]) [] := by
  have c := mac_c K L hK0 hK (by omega) (by omega)
  rwa [← rmac_eq K L.flatten (by omega)] at c
theorem mac_1 (ID : List Int) (v : Nat) (hID : ID.length = 32) : Con Tryz.prog 93 [.s (.fzi .u8 ID), .s (ROWS [be 32 v])] [] (.agg [.ints .u8 32 (kK v ID)]) [] := mac_r ID [be 32 v] (by omega) (by omega) (Nat.le_of_ble_eq_true rfl) (by simp [be_len])
theorem rmac_1 (ID : List Int) (v : Nat) (hID : ID.length = 32) : Con Tryz.prog 95 [.s (.fzi .u8 ID), .s (ROWS [be 32 v])] [] (.agg [.ints .u8 32 (kK v ID)]) [] := rmac_c ID [be 32 v] (by omega) (Nat.le_of_ble_eq_true rfl) (by simp [be_len]) (by rw [show [be 32 v].flatten = be 32 v by simp]; exact U8'_be _ _)
theorem mac_k (K : List Int) (j : Nat) (hK : K.length = 32) : Con Tryz.prog 93 [.s (.fzi .u8 K), .s (ROWS [kyR K j, laneR, [((j + 1 : Nat) : Int)]])] [] (.agg [.ints .u8 32 (kyR K (j + 1))]) [] := by
  have h := kyR_le K j
  exact mac_r K [kyR K j, laneR, [((j + 1 : Nat) : Int)]] (by omega) (by omega) (Nat.le_of_ble_eq_true rfl) (by rw [kf_len]; omega)
theorem rmac_k (K : List Int) (j : Nat) (hK : K.length = 32) (hj : j < 255) : Con Tryz.prog 95 [.s (.fzi .u8 K), .s (ROWS [kyR K j, laneR, [((j + 1 : Nat) : Int)]])] [] (.agg [.ints .u8 32 (kyR K (j + 1))]) [] := by
  have h := kyR_le K j
  exact rmac_c K [kyR K j, laneR, [((j + 1 : Nat) : Int)]] (by omega) (Nat.le_of_ble_eq_true rfl) (by rw [kf_len]; omega) (U8'_kf K j hj)
attribute [local irreducible] be wd rmac kyR koR kK kA
theorem rkm_neg (v : Nat) (ID : List Int) (q : Int) (h : q < 0) : Con Tryz.prog 17 [.agg [.ints .u64 4 (zs (wd v))], .agg [.ints .u8 32 ID], .s (.int .i64 q)] [] (.tup [.s .nils, .s (.int .i64 1)]) [] := by
 refine con_in 45 Tryz.func17 rfl rfl (m := 0) rfl ?_
 intro E hP hn hE
 refine w_seq ?_
 refine g_reg hP hn ?_
 refine s_op k_bxf ?_
 refine s_op k_bxf ?_
 refine s_op k_as ?_
 refine s_op k_as ?_
 refine s_nil trivial ?_
 refine n_wp ?_
 refine w_seq ?_
 refine w_seq ?_
 refine g_reg hP hn ?_
 refine s_op k_mv ?_
 refine s_op k_lss ?_
 refine s_nil trivial ?_
 refine n_wp ?_
 refine w_T rfl ?_ (decide_eq_true h)
 refine w_seq ?_
 refine g_reg hP hn ?_
 refine s_op k_as ?_
 refine s_op k_as ?_
 refine s_nil trivial ?_
 refine n_wp ?_
 refine w_ret ?_
 refine r_thn ?_
 exact d_ret hP hn hE [] (ret2 Tryz.results17 (by first | exact ri_tmp rfl | exact ri_tmpa rfl) (by first | exact ri_tmp rfl | exact ri_tmpa rfl))

theorem rkm_big (v : Nat) (ID : List Int) (q : Int) (h : 8160 < q) : Con Tryz.prog 17 [.agg [.ints .u64 4 (zs (wd v))], .agg [.ints .u8 32 ID], .s (.int .i64 q)] [] (.tup [.s .nils, .s (.int .i64 3)]) [] := by
 refine con_in 45 Tryz.func17 rfl rfl (m := 0) rfl ?_
 intro E hP hn hE
 refine w_seq ?_
 refine g_reg hP hn ?_
 refine s_op k_bxf ?_
 refine s_op k_bxf ?_
 refine s_op k_as ?_
 refine s_op k_as ?_
 refine s_nil trivial ?_
 refine n_wp ?_
 refine w_seq ?_
 refine w_seq ?_
 refine g_reg hP hn ?_
 refine s_op k_mv ?_
 refine s_op k_lss ?_
 refine s_nil trivial ?_
 refine n_wp ?_
 refine w_F rfl ?_ (decide_eq_false (by omega))
 refine w_skip ?_
 refine n_wp ?_
 refine w_seq ?_
 refine w_seq ?_
 refine g_reg hP hn ?_
 refine s_op k_mv ?_
 refine s_op k_gtr ?_
 refine s_nil trivial ?_
 refine n_wp ?_
 refine w_T rfl ?_ (decide_eq_true h)
 refine w_seq ?_
 refine g_reg hP hn ?_
 refine s_op k_as ?_
 refine s_op k_as ?_
 refine s_nil trivial ?_
 refine n_wp ?_
 refine w_ret ?_
 refine r_thn ?_
 exact d_ret hP hn hE [] (ret2 Tryz.results17 (by first | exact ri_tmp rfl | exact ri_tmpa rfl) (by first | exact ri_tmp rfl | exact ri_tmpa rfl))

theorem km_neg (v : Nat) (ID : List Int) (q : Int) (h : q < 0) : Con Tryz.prog 16 [.agg [.ints .u64 4 (zs (wd v))], .agg [.ints .u8 32 ID], .s (.int .i64 q)] [] (.tup [.s .nils, .s (.int .i64 1)]) [] := by
 refine con_in 50 Tryz.func16 rfl rfl (m := 0) rfl ?_
 intro E hP hn hE
 refine w_seq ?_
 refine g_reg hP hn ?_
 refine s_op k_bxf ?_
 refine s_op k_bxf ?_
 refine s_op k_as ?_
 refine s_op k_as ?_
 refine s_nil trivial ?_
 refine n_wp ?_
 refine w_seq ?_
 refine w_block ?_
 refine w_seq ?_
 refine g_reg hP hn ?_
 refine s_op k_mv ?_
 refine s_op k_lss ?_
 refine s_op k_as ?_
 refine s_nil trivial ?_
 refine n_wp ?_
 refine w_T rfl ?_ (decide_eq_true h)
 refine w_seq ?_
 refine g_reg hP hn ?_
 refine s_op k_as ?_
 refine s_op k_as ?_
 refine s_nil trivial ?_
 refine n_wp ?_
 refine w_ret ?_
 refine r_blo ?_
 refine r_thn ?_
 exact d_ret hP hn hE [] (ret2 Tryz.results16 (by first | exact ri_tmp rfl | exact ri_tmpa rfl) (by first | exact ri_tmp rfl | exact ri_tmpa rfl))

theorem km_big (v : Nat) (ID : List Int) (q : Int) (h : 8160 < q) : Con Tryz.prog 16 [.agg [.ints .u64 4 (zs (wd v))], .agg [.ints .u8 32 ID], .s (.int .i64 q)] [] (.tup [.s .nils, .s (.int .i64 3)]) [] := by
 refine con_in 50 Tryz.func16 rfl rfl (m := 0) rfl ?_
 intro E hP hn hE
 refine w_seq ?_
 refine g_reg hP hn ?_
 refine s_op k_bxf ?_
 refine s_op k_bxf ?_
 refine s_op k_as ?_
 refine s_op k_as ?_
 refine s_nil trivial ?_
 refine n_wp ?_
 refine w_seq ?_
 refine w_block ?_
 refine w_seq ?_
 refine g_reg hP hn ?_
 refine s_op k_mv ?_
 refine s_op k_lss ?_
 refine s_op k_as ?_
 refine s_nil trivial ?_
 refine n_wp ?_
 refine w_F rfl ?_ (decide_eq_false (by omega))
 refine w_seq ?_
 refine g_reg hP hn ?_
 refine s_op k_mv ?_
 refine s_op k_gtr ?_
 refine s_op k_as ?_
 refine s_nil trivial ?_
 refine n_wp ?_
 refine w_T rfl ?_ (decide_eq_true h)
 refine w_seq ?_
 refine g_reg hP hn ?_
 refine s_op k_as ?_
 refine s_op k_as ?_
 refine s_nil trivial ?_
 refine n_wp ?_
 refine w_ret ?_
 refine r_blo ?_
 refine r_thn ?_
 exact d_ret hP hn hE [] (ret2 Tryz.results16 (by first | exact ri_tmp rfl | exact ri_tmpa rfl) (by first | exact ri_tmp rfl | exact ri_tmpa rfl))

theorem rkm_n (v : Nat) (ID : List Int) (hID : ID.length = 32) (n : Nat) (hm : n ≤ 8160) : Con Tryz.prog 17 [.agg [.ints .u64 4 (zs (wd v))], .agg [.ints .u8 32 ID], .s (.int .i64 ((n : Nat) : Int))] [] (.tup [.s (.fzi .u8 (kA (kK v ID) n)), .s (.int .i64 0)]) [] := by
 refine con_in 45 Tryz.func17 rfl rfl (m := 0) rfl ?_
 intro E hP hn hE
 refine w_seq ?_
 refine g_reg hP hn ?_
 refine s_op k_bxf ?_
 refine s_op k_bxf ?_
 refine s_op k_as ?_
 refine s_op k_as ?_
 refine s_nil trivial ?_
 refine n_wp ?_
 refine w_seq ?_
 refine w_seq ?_
 refine g_reg hP hn ?_
 refine s_op k_mv ?_
 refine s_op k_lss ?_
 refine s_nil trivial ?_
 refine n_wp ?_
 refine w_F rfl ?_ (decide_eq_false (by omega))
 refine w_skip ?_
 refine n_wp ?_
 refine w_seq ?_
 refine w_seq ?_
 refine g_reg hP hn ?_
 refine s_op k_mv ?_
 refine s_op k_gtr ?_
 refine s_nil trivial ?_
 refine n_wp ?_
 refine w_F rfl ?_ (decide_eq_false (by omega))
 refine w_skip ?_
 refine n_wp ?_
 refine w_seq ?_
 refine g_any hP hn ?_
 refine s_op (k_slf (hl := hID)) ?_
 refine s_op k_ld ?_
 refine s_op (k_call [] (con := rpl_c v)) ?_
 refine s_op (k_bsz [.fzi .u8 (be 32 v)]) ?_
 refine s_op (k_call [] (con := rmac_1 ID v hID)) ?_
 refine s_op k_al ?_
 refine s_st k_st ?_
 refine s_nil (by kernel_rfl) ?_
 refine n_wp ?_
 refine w_seq ?_
 refine w_weak (frz_ptr 8 32) ?_
 have hKl := kK_len v ID
 generalize kK v ID = K at *
 refine g_reg hP hn ?_
 refine s_op k_as ?_
 refine s_op k_as ?_
 refine s_nil trivial ?_
 refine n_wp ?_
 refine w_seq ?_
 refine w_seq ?_
 refine w_weak (T' := [(10, .s (.fzi .u8 [])), (9, .s (.gro 0 1 0)), (2, .s (.int .i64 ((n : Nat) : Int))), (8, .s (.fptr 32 (cellsF [.ints .u8 32 K]) 0 0))]) (H' := [some ⟨true, [.ints .u8 (0) ([])]⟩]) ((wk (T' := [(9, .s .nils), (10, .s .nils), (2, .s (.int .i64 ((n : Nat) : Int))), (8, .s (.fptr 32 (cellsF [.ints .u8 32 K]) 0 0))]) (H' := []) hE []).trans ((weak_gro 9 1 0 (segs := [.ints .u8 0 []]) rfl rfl rfl).trans ((weak_conv 10 rfl (conv_nil (k := .u8))).trans weak_tm))) ?_
 refine g_reg hP hn ?_
 refine s_op k_as ?_
 refine s_nil trivial ?_
 refine n_wp ?_
 refine w_block ?_
 refine c_loop (fun m_ T H => ∃ j : Nat, 32 * j < n + 32 ∧ m_ = n + 32 - 32 * j ∧ T = [(2, .s (.int .i64 ((n : Nat) : Int))), (8, .s (.fptr 32 (cellsF [.ints .u8 32 K]) 0 0)), (9, .s (.gro 0 1 (32 * j))), (10, .s (.fzi .u8 (kyR K j))), (11, .s (.int .i64 ((j + 1 : Nat) : Int)))] ∧ H = [some ⟨true, [.ints .u8 (32 * j) (koR K j)]⟩]) (n + 32) ⟨0, by omega, rfl, by rw [show kyR K 0 = [] by unfold kyR; rfl], by rw [show koR K 0 = [] by unfold koR; rfl]⟩ (wk hE [0]) ?_
 rintro n_ T_ H_ ⟨j, hj, rfl, rfl, rfl⟩
 refine w_seq ?_
 refine w_seq ?_
 refine g_reg hP hn ?_
 refine s_op k_mv ?_
 refine s_op k_len ?_
 refine s_op k_mv ?_
 refine s_op k_lss ?_
 refine s_nil trivial ?_
 refine n_wp ?_
 refine w_if rfl (fun h_t25 => ?_) (fun h_t25 => ?_)
 · skip
   have hj255 : j < 255 := by omega
   refine w_skip ?_
   refine n_wp ?_
   refine w_seq ?_
   refine w_block ?_
   refine w_seq ?_
   refine g_reg hP hn ?_
   refine s_op (k_slf (hl := hKl)) ?_
   refine s_op k_mv ?_
   refine s_op (k_bsK [108, 97, 110, 101]) ?_
   refine s_op k_mark ?_
   refine s_op k_mv ?_
   refine s_op k_cv ?_
   refine s_op k_bsf ?_
   refine s_op (k_bsz [.fzi .u8 (kyR K j), .fzi .u8 laneR, .fzi .u8 [((j + 1 : Nat) : Int)]]) ?_
   refine s_op (k_call [] (con := rmac_k K j hKl hj255)) ?_
   refine s_op k_al ?_
   refine s_st k_st ?_
   refine s_nil trivial ?_
   refine n_wp ?_
   refine w_seq ?_
   have hkl := kyR_len K j
   refine w_weak (T' := [(2, .s (.int .i64 ((n : Nat) : Int))), (8, .s (.fptr 32 (cellsF [.ints .u8 32 K]) 0 0)), (9, .s (.gro 0 1 (32 * j))), (11, .s (.int .i64 ((j + 1 : Nat) : Int))), (12, .s (.fptr 32 (cellsF [.ints .u8 32 (kyR K (j + 1))]) 0 0))]) (H' := [some ⟨true, [.ints .u8 (32 * j) (koR K j)]⟩, some ⟨true, [.ints .u8 0 []]⟩]) ((frz_ptr 12 32).trans ((wk (T' := [(2, .s (.int .i64 ((n : Nat) : Int))), (8, .s (.fptr 32 (cellsF [.ints .u8 32 K]) 0 0)), (9, .s (.gro 0 1 (32 * j))), (11, .s (.int .i64 ((j + 1 : Nat) : Int))), (12, .s (.fptr 32 (cellsF [.ints .u8 32 (kyR K (j + 1))]) 0 0))]) (H' := [some ⟨true, [.ints .u8 (32 * j) (koR K j)]⟩]) hE [0]).trans (weak_new rfl))) ?_
   refine g_reg hP hn ?_
   refine s_op (k_slf (hl := hkl)) ?_
   refine s_op (k_apn 1 (m := 32) (hm := hkl)) ?_
   refine s_op k_as ?_
   refine s_nil trivial ?_
   refine n_wp ?_
   refine w_weak (frz_gro 10 (l' := kyR K (j + 1)) (hn := Nat.le_refl _) (hl := hkl) (hl' := List.take_of_length_le (Nat.le_of_eq hkl))) ?_
   refine g_reg hP hn ?_
   refine s_op k_mv ?_
   refine s_op k_mv ?_
   refine s_op (k_apg (c := 32 * (j + 1)) (l' := koR K (j + 1)) (hl := koR_len K j) (hc := by rw [kyR_len]; omega) (hl' := by rw [List.take_of_length_le (by rw [koR_len]; exact Nat.le_refl _)]; exact (koR_s K j).symm) (hbig := by rw [kyR_len]; omega)) ?_
   refine s_op k_as ?_
   refine s_nil trivial ?_
   refine n_blo ?_
   refine n_wp ?_
   refine g_reg hP hn ?_
   refine s_op k_mv ?_
   refine s_op k_add ?_
   refine s_op k_as ?_
   refine s_nil trivial ?_
   exact n_round (n + 32 - 32 * (j + 1)) (by omega) ⟨j + 1, by omega, rfl, rfl, rfl⟩ (wk hE [3])
 · skip
   have hkA := kA_of K n j h_t25 hj
   have hol := koR_len K j
   refine w_exit ?_
   refine x_thn ?_
   refine x_thn ?_
   refine x_eq ?_
   refine n_wp ?_
   refine w_seq ?_
   refine g_reg hP hn ?_
   refine s_op k_mv ?_
   refine s_op k_mv ?_
   refine s_op (k_slg n) ?_
   refine s_op k_as ?_
   refine s_op k_as ?_
   refine s_nil trivial ?_
   refine n_wp ?_
   refine w_weak (frz_gro 6 (l' := kA K n) (hn := by omega) (hl := hol) (hl' := hkA)) ?_
   refine w_ret ?_
   exact d_ret hP hn hE [] (ret2 Tryz.results17 (by first | exact ri_tmp rfl | exact ri_tmpa rfl) (by first | exact ri_tmp rfl | exact ri_tmpa rfl))

theorem km_n (v : Nat) (ID : List Int) (hID : ID.length = 32) (n : Nat) (hm : n ≤ 8160) : Con Tryz.prog 16 [.agg [.ints .u64 4 (zs (wd v))], .agg [.ints .u8 32 ID], .s (.int .i64 ((n : Nat) : Int))] [] (.tup [.s (.slice 0 0 0 n n), .s (.int .i64 0)]) [some ⟨true, [.ints .u8 (n) (kA (kK v ID) n)]⟩] := by
 refine con_in 50 Tryz.func16 rfl rfl (m := 0) rfl ?_
 intro E hP hn hE
 refine w_seq ?_
 refine g_reg hP hn ?_
 refine s_op k_bxf ?_
 refine s_op k_bxf ?_
 refine s_op k_as ?_
 refine s_op k_as ?_
 refine s_nil trivial ?_
 refine n_wp ?_
 refine w_seq ?_
 refine w_block ?_
 refine w_seq ?_
 refine g_reg hP hn ?_
 refine s_op k_mv ?_
 refine s_op k_lss ?_
 refine s_op k_as ?_
 refine s_nil trivial ?_
 refine n_wp ?_
 refine w_F rfl ?_ (decide_eq_false (by omega))
 refine w_seq ?_
 refine g_reg hP hn ?_
 refine s_op k_mv ?_
 refine s_op k_gtr ?_
 refine s_op k_as ?_
 refine s_nil trivial ?_
 refine n_wp ?_
 refine w_F rfl ?_ (decide_eq_false (by omega))
 refine w_skip ?_
 refine n_blo ?_
 refine n_wp ?_
 refine w_seq ?_
 refine g_any hP hn ?_
 refine s_op (k_slf (hl := hID)) ?_
 refine s_op k_ld ?_
 refine s_op (k_call [] (con := pl_c v)) ?_
 refine s_op (k_bsz [.fzi .u8 (be 32 v)]) ?_
 refine s_op (k_call [] (con := mac_1 ID v hID)) ?_
 refine s_op k_al ?_
 refine s_st k_st ?_
 refine s_nil (by kernel_rfl) ?_
 refine n_wp ?_
 refine w_seq ?_
 refine w_weak (frz_ptr 8 32) ?_
 have hKl := kK_len v ID
 generalize kK v ID = K at *
 refine g_reg hP hn ?_
 refine s_op k_mv ?_
 refine s_op k_add ?_
 refine s_op k_mk ?_
 refine s_op k_as ?_
 refine s_nil trivial ?_
 refine n_wp ?_
 refine w_seq ?_
 refine g_reg hP hn ?_
 refine s_op k_as ?_
 refine s_nil trivial ?_
 refine n_wp ?_
 refine w_seq ?_
 refine w_seq ?_
 refine w_weak (weak_conv 10 rfl (conv_nil (k := .u8))) ?_
 refine g_reg hP hn ?_
 refine s_op k_as ?_
 refine s_nil trivial ?_
 refine n_wp ?_
 refine w_block ?_
 refine c_loop (fun m_ T H => ∃ j : Nat, 32 * j < n + 32 ∧ m_ = n + 32 - 32 * j ∧ T = [(2, .s (.int .i64 ((n : Nat) : Int))), (8, .s (.fptr 32 (cellsF [.ints .u8 32 K]) 0 0)), (9, .s (.slice 0 0 0 (32 * j) (n + 32))), (10, .s (.fzi .u8 (kyR K j))), (11, .s (.int .i64 ((j + 1 : Nat) : Int)))] ∧ H = [some ⟨true, [.ints .u8 (n + 32) (koR K j ++ List.replicate (n + 32 - 32 * j) 0)]⟩]) (n + 32) ⟨0, by omega, rfl, by rw [show kyR K 0 = [] by unfold kyR; rfl], by rw [show koR K 0 = [] by unfold koR; rfl, List.nil_append]⟩ (wk hE [4]) ?_
 rintro n_ T_ H_ ⟨j, hj, rfl, rfl, rfl⟩
 refine w_seq ?_
 refine w_seq ?_
 refine g_reg hP hn ?_
 refine s_op k_mv ?_
 refine s_op k_len ?_
 refine s_op k_mv ?_
 refine s_op k_lss ?_
 refine s_nil trivial ?_
 refine n_wp ?_
 refine w_if rfl (fun h_t30 => ?_) (fun h_t30 => ?_)
 · skip
   have hj255 : j < 255 := by omega
   refine w_skip ?_
   refine n_wp ?_
   refine w_seq ?_
   refine w_block ?_
   refine w_seq ?_
   refine g_reg hP hn ?_
   refine s_op (k_slf (hl := hKl)) ?_
   refine s_op k_mv ?_
   refine s_op (k_bsK [108, 97, 110, 101]) ?_
   refine s_op k_mark ?_
   refine s_op k_mv ?_
   refine s_op k_cv ?_
   refine s_op k_bsf ?_
   refine s_op (k_bsz [.fzi .u8 (kyR K j), .fzi .u8 laneR, .fzi .u8 [((j + 1 : Nat) : Int)]]) ?_
   refine s_op (k_call [] (con := mac_k K j hKl)) ?_
   refine s_op k_al ?_
   refine s_st k_st ?_
   refine s_nil trivial ?_
   refine n_wp ?_
   refine w_seq ?_
   have hkl := kyR_len K j
   refine w_weak (frz_ptr 12 32) ?_
   refine g_reg hP hn ?_
   refine s_op (k_slf (hl := hkl)) ?_
   refine s_op k_as ?_
   refine s_nil trivial ?_
   refine n_wp ?_
   have hput : spl (koR K j ++ List.replicate (n + 32 - 32 * j) 0) (kyR K (j + 1)) (32 * j) 32 (n + 32) = koR K (j + 1) ++ List.replicate (n + 32 - 32 * (j + 1)) 0 := by
     rw [spl_app _ _ _ _ _ _ (koR_len K j) hkl (by omega) (by rw [koR_len, List.length_replicate]; omega), List.drop_replicate, koR_s, show n + 32 - 32 * j - 32 = n + 32 - 32 * (j + 1) by omega]
   refine g_reg hP hn ?_
   refine s_op k_mv ?_
   refine s_op k_mv ?_
   refine s_op (k_apj (koR K (j + 1) ++ List.replicate (n + 32 - 32 * (j + 1)) 0) (n := 32 * j) (m := 32) (r := 32 * (j + 1)) (hm := hkl) (hl' := hput) (hr := by omega)) ?_
   refine s_op k_as ?_
   refine s_nil trivial ?_
   refine n_blo ?_
   refine n_wp ?_
   refine g_reg hP hn ?_
   refine s_op k_mv ?_
   refine s_op k_add ?_
   refine s_op k_as ?_
   refine s_nil trivial ?_
   exact n_round (n + 32 - 32 * (j + 1)) (by omega) ⟨j + 1, by omega, rfl, rfl, rfl⟩ (wk hE [0])
 · skip
   have hkA := kA_of K n j h_t30 hj
   have hol := koR_len K j
   refine w_exit ?_
   refine x_thn ?_
   refine x_thn ?_
   refine x_eq ?_
   refine n_wp ?_
   refine w_seq ?_
   refine g_reg hP hn ?_
   refine s_op k_mv ?_
   refine s_op k_mv ?_
   refine s_op k_mv ?_
   refine s_op k_sl ?_
   refine s_op k_as ?_
   refine s_op k_as ?_
   refine s_nil trivial ?_
   refine n_wp ?_
   refine w_weak (weak_row 0 (segs' := [.ints .u8 n (kA K n)]) (by rfl) (fun _ _ h => row_take (by rw [List.take_append_of_le_length (by omega)]; exact hkA) (by omega) h) rfl) ?_
   refine w_ret ?_
   exact d_ret hP hn hE [0] (ret2 Tryz.results16 (by first | exact ri_tmp rfl | exact ri_tmpa rfl) (by first | exact ri_tmp rfl | exact ri_tmpa rfl))

end Go.Proofs.X
end

section
open Go Go.Bx Go.Proofs
namespace Go.Proofs.X
set_option maxRecDepth 100000
set_option maxHeartbeats 4000000
def kM (B : List Int) (p : Nat) : List Int := (B.drop (48 * p)).take 32
def kC (B : List Int) (p : Nat) : List Int := (B.drop (48 * p + 32)).take 16
theorem kM_len {B : List Int} {p : Nat} (h : 48 * p + 48 ≤ B.length) : (kM B p).length = 32 := by rw [kM, List.length_take, List.length_drop]; omega
theorem kC_len {B : List Int} {p : Nat} (h : 48 * p + 48 ≤ B.length) : (kC B p).length = 16 := by rw [kC, List.length_take, List.length_drop]; omega
theorem kM_e (B : List Int) (p : Nat) : ((B.drop (48 * p)).take 48).take 32 = kM B p := by rw [List.take_take]; rfl
theorem kC_e (B : List Int) (p : Nat) : ((((B.drop (48 * p)).take 48).drop 32).take 16) = kC B p := by rw [List.drop_take, List.drop_drop, List.take_take]; rfl
def cwI (Z B : List Int) (o : Nat) : Nat → List Int
  | 0 => Z
  | i + 1 => (cwI Z B o i).set i (B.getD (o + i) 0)
theorem cwI_len (Z B : List Int) (o i : Nat) : (cwI Z B o i).length = Z.length := by
  induction i with
  | zero => rfl
  | succ i ih => rw [cwI, List.length_set, ih]
theorem cwI_get (Z B : List Int) (o i k : Nat) (hi : i ≤ Z.length) (hk : k < i) : (cwI Z B o i).getD k 0 = B.getD (o + k) 0 := by
  induction i with
  | zero => omega
  | succ i ih =>
    rw [cwI, setDI _ _ _ _ (by rw [cwI_len]; omega)]
    by_cases h : i = k
    · subst h; rw [if_pos rfl]
    · rw [if_neg h]; exact ih (by omega) (by omega)
theorem cwI_all (B : List Int) (o n : Nat) (h : o + n ≤ B.length) : cwI (z n) B o n = (B.drop o).take n := by
  refine eqI_n n (by rw [cwI_len, z_len]) (by rw [List.length_take, List.length_drop]; omega) fun i hi => ?_
  rw [cwI_get _ _ _ _ _ (by rw [z_len]; exact Nat.le_refl _) hi, getD_take' _ _ _ hi, getD_drop']
theorem cut_z2 {B : List Int} {p : Nat} (h : 48 * p + 48 ≤ B.length) : (List.take ((List.take 48 (List.drop (48 * p) B)).length - 32) (List.drop 32 (List.take 48 (List.drop (48 * p) B)))).take 16 = List.take 16 (List.drop 32 (List.take 48 (List.drop (48 * p) B))) := by
 have hz : (List.take 48 (List.drop (48 * p) B)).length = 48 := by simp; omega
 rw [hz, List.take_take]; rfl
theorem kM_cw {B : List Int} {p : Nat} (h : 48 * p + 48 ≤ B.length) : cwI (z 32) B (48 * p) 32 = kM B p := cwI_all B _ 32 (by omega)
theorem kC_cw {B : List Int} {p : Nat} (h : 48 * p + 48 ≤ B.length) : cwI (z 16) B (48 * p + 32) 16 = kC B p := cwI_all B _ 16 (by omega)
theorem cut_s2 {B : List Int} {n : Nat} (h : B.length = n) : spl (zs (List.replicate n 0)) B 0 n n = B := spl_alln _ _ _ h
attribute [local irreducible] kM kC
theorem cut_neg (B : List Int) (hB : B.length ≤ 100000) (q : Int) (h : q < 0) : Con Tryz.prog 18 [.s (.fzi .u8 B), .s (.int .i64 q)] [] (.tup [.agg [.ints .u8 32 (z 32), .ints .u8 16 (z 16)], .s (.int .i64 1)]) [] := by
 refine con_in 37 Tryz.func18 rfl rfl (m := 0) rfl ?_
 intro E hP hn hE
 refine w_seq ?_
 refine g_reg hP hn ?_
 refine s_op k_al ?_
 refine s_op k_as ?_
 refine s_nil trivial ?_
 refine n_wp ?_
 refine w_seq ?_
 refine w_block ?_
 refine w_seq ?_
 refine g_reg hP hn ?_
 refine s_op k_mv ?_
 refine s_op k_lss ?_
 refine s_op k_as ?_
 refine s_nil trivial ?_
 refine n_wp ?_
 refine w_T rfl ?_ (decide_eq_true h)
 refine w_seq ?_
 refine g_reg hP hn ?_
 refine s_op (k_ld (h := by exact a_load_whole rfl rfl (by kernel_rfl))) ?_
 refine s_st (k_st (h := by exact a_store_agg rfl rfl rfl (put_w (by kernel_rfl)) (by exact Nat.le_of_ble_eq_true rfl) (by kernel_rfl) (by repeat (first | exact hset_0 | apply hset_s)))) ?_
 refine s_op k_as ?_
 refine s_nil trivial ?_
 refine n_wp ?_
 refine w_ret ?_
 refine r_blo ?_
 refine r_thn ?_
 exact d_ret hP hn hE [] (ret2 Tryz.results18 r_cella (by first | exact ri_tmp rfl | exact ri_tmpa rfl))

theorem cut_far (B : List Int) (hB : B.length ≤ 100000) (p : Nat) (h : B.length / 48 ≤ p) : Con Tryz.prog 18 [.s (.fzi .u8 B), .s (.int .i64 ((p : Nat) : Int))] [] (.tup [.agg [.ints .u8 32 (z 32), .ints .u8 16 (z 16)], .s (.int .i64 5)]) [] := by
 refine con_in 37 Tryz.func18 rfl rfl (m := 0) rfl ?_
 intro E hP hn hE
 refine w_seq ?_
 refine g_reg hP hn ?_
 refine s_op k_al ?_
 refine s_op k_as ?_
 refine s_nil trivial ?_
 refine n_wp ?_
 refine w_seq ?_
 refine w_block ?_
 refine w_seq ?_
 refine g_reg hP hn ?_
 refine s_op k_mv ?_
 refine s_op k_lss ?_
 refine s_op k_as ?_
 refine s_nil trivial ?_
 refine n_wp ?_
 refine w_F rfl ?_ (decide_eq_false (by omega))
 refine w_seq ?_
 refine g_reg hP hn ?_
 refine s_op k_mv ?_
 refine s_op k_mv ?_
 refine s_op k_len ?_
 refine s_op k_quo ?_
 refine s_op k_geq ?_
 refine s_op k_as ?_
 refine s_nil trivial ?_
 refine n_wp ?_
 refine w_T rfl ?_ (decide_eq_true (by omega))
 refine w_seq ?_
 refine g_reg hP hn ?_
 refine s_op (k_ld (h := by exact a_load_whole rfl rfl (by kernel_rfl))) ?_
 refine s_st (k_st (h := by exact a_store_agg rfl rfl rfl (put_w (by kernel_rfl)) (by exact Nat.le_of_ble_eq_true rfl) (by kernel_rfl) (by repeat (first | exact hset_0 | apply hset_s)))) ?_
 refine s_op k_as ?_
 refine s_nil trivial ?_
 refine n_wp ?_
 refine w_ret ?_
 refine r_blo ?_
 refine r_thn ?_
 exact d_ret hP hn hE [] (ret2 Tryz.results18 r_cella (by first | exact ri_tmp rfl | exact ri_tmpa rfl))

theorem cut_ok (B : List Int) (hB : B.length ≤ 100000) (p : Nat) (h : 48 * p + 48 ≤ B.length) : Con Tryz.prog 18 [.s (.fzi .u8 B), .s (.int .i64 ((p : Nat) : Int))] [] (.tup [.agg [.ints .u8 32 (kM B p), .ints .u8 16 (kC B p)], .s (.int .i64 0)]) [] := by
 refine con_in 37 Tryz.func18 rfl rfl (m := 0) rfl ?_
 intro E hP hn hE
 refine w_seq ?_
 refine g_reg hP hn ?_
 refine s_op k_al ?_
 refine s_op k_as ?_
 refine s_nil trivial ?_
 refine n_wp ?_
 refine w_seq ?_
 refine w_block ?_
 refine w_seq ?_
 refine g_reg hP hn ?_
 refine s_op k_mv ?_
 refine s_op k_lss ?_
 refine s_op k_as ?_
 refine s_nil trivial ?_
 refine n_wp ?_
 refine w_F rfl ?_ (decide_eq_false (by omega))
 refine w_seq ?_
 refine g_reg hP hn ?_
 refine s_op k_mv ?_
 refine s_op k_mv ?_
 refine s_op k_len ?_
 refine s_op k_quo ?_
 refine s_op k_geq ?_
 refine s_op k_as ?_
 refine s_nil trivial ?_
 refine n_wp ?_
 refine w_F rfl ?_ (decide_eq_false (by omega))
 refine w_skip ?_
 refine n_blo ?_
 refine n_wp ?_
 refine w_seq ?_
 refine g_reg hP hn ?_
 refine s_op k_mv ?_
 refine s_op k_mv ?_
 refine s_op k_mul ?_
 refine s_op k_mv ?_
 refine s_op k_add ?_
 refine s_op k_mul ?_
 refine s_op k_mv ?_
 refine s_op k_add ?_
 refine s_op k_mul ?_
 refine s_op (l_sli (ys := (B.drop (48 * p)).take 48) (l := 48 * p) (h := 48 * (p + 1)) rfl ⟨_, _, rfl, rfl⟩ ⟨_, _, rfl, rfl⟩ (.inr ⟨48 * (p + 1), ⟨_, rfl, _, _, rfl, rfl⟩, Nat.le_refl _, (by omega)⟩) rfl Und.h Sz.h (by omega) (by omega) (by rw [show 48 * (p + 1) - 48 * p = 48 by omega])) ?_
 refine s_op k_as ?_
 refine s_nil trivial ?_
 refine n_wp ?_
 refine w_seq ?_
 refine g_reg hP hn ?_
 refine s_op k_fa ?_
 refine s_op k_sl ?_
 refine s_op k_mv ?_
 refine s_op (k_cpn 32) ?_
 refine s_nil trivial ?_
 refine n_wp ?_
 refine w_seq ?_
 have hz : (List.take 48 (List.drop (48 * p) B)).length = 48 := by simp; omega
 refine g_any hP hn ?_
 refine s_op k_fa ?_
 refine s_op k_sl ?_
 refine s_op k_mv ?_
 refine s_op k_sl ?_
 refine s_op (k_cpn 16 (hz := cut_z2 h)) ?_
 refine s_nil (by kernel_rfl) ?_
 refine n_wp ?_
 refine w_seq ?_
 rw [show spl (zs (List.replicate 32 0)) (List.take 32 (List.take 48 (List.drop (48 * p) B))) 0 32 32 = kM B p from (cut_s2 (by simp; omega)).trans (kM_e B p), show spl (zs (List.replicate 16 0)) (List.take 16 (List.drop 32 (List.take 48 (List.drop (48 * p) B)))) 0 16 16 = kC B p from (cut_s2 (by simp; omega)).trans (kC_e B p)]
 refine g_reg hP hn ?_
 refine s_op (k_ld (h := by exact a_load_whole rfl rfl (by kernel_rfl))) ?_
 refine s_st (k_st (h := by exact a_store_agg rfl rfl rfl (put_w (by kernel_rfl)) (by exact Nat.le_of_ble_eq_true rfl) (by kernel_rfl) (by repeat (first | exact hset_0 | apply hset_s)))) ?_
 refine s_op k_as ?_
 refine s_nil trivial ?_
 refine n_wp ?_
 refine w_ret ?_
 exact d_ret hP hn hE [] (ret2 Tryz.results18 r_cella (by first | exact ri_tmp rfl | exact ri_tmpa rfl))

theorem rcut_neg (B : List Int) (hB : B.length ≤ 100000) (q : Int) (h : q < 0) : Con Tryz.prog 19 [.s (.fzi .u8 B), .s (.int .i64 q)] [] (.tup [.agg [.ints .u8 32 (z 32), .ints .u8 16 (z 16)], .s (.int .i64 1)]) [] := by
 refine con_in 55 Tryz.func19 rfl rfl (m := 0) rfl ?_
 intro E hP hn hE
 refine w_seq ?_
 refine g_reg hP hn ?_
 refine s_op k_al ?_
 refine s_op k_as ?_
 refine s_nil trivial ?_
 refine n_wp ?_
 refine w_seq ?_
 refine w_seq ?_
 refine g_reg hP hn ?_
 refine s_op k_mv ?_
 refine s_op k_lss ?_
 refine s_nil trivial ?_
 refine n_wp ?_
 refine w_T rfl ?_ (decide_eq_true h)
 refine w_seq ?_
 refine g_reg hP hn ?_
 refine s_op (k_bdS [.ints .u8 32 (z 32), .ints .u8 16 (z 16)]) ?_
 refine s_st (k_st (h := by exact a_store_agg rfl rfl rfl (put_w (by kernel_rfl)) (by exact Nat.le_of_ble_eq_true rfl) (by kernel_rfl) (by repeat (first | exact hset_0 | apply hset_s)))) ?_
 refine s_op k_as ?_
 refine s_nil trivial ?_
 refine n_wp ?_
 refine w_ret ?_
 refine r_thn ?_
 exact d_ret hP hn hE [] (ret2 Tryz.results19 r_cella (by first | exact ri_tmp rfl | exact ri_tmpa rfl))

theorem rcut_far1 (B : List Int) (hB : B.length ≤ 100000) (q : Int) (h0 : 0 ≤ q) (h : (B.length : Int) < q) : Con Tryz.prog 19 [.s (.fzi .u8 B), .s (.int .i64 q)] [] (.tup [.agg [.ints .u8 32 (z 32), .ints .u8 16 (z 16)], .s (.int .i64 5)]) [] := by
 refine con_in 55 Tryz.func19 rfl rfl (m := 0) rfl ?_
 intro E hP hn hE
 refine w_seq ?_
 refine g_reg hP hn ?_
 refine s_op k_al ?_
 refine s_op k_as ?_
 refine s_nil trivial ?_
 refine n_wp ?_
 refine w_seq ?_
 refine w_seq ?_
 refine g_reg hP hn ?_
 refine s_op k_mv ?_
 refine s_op k_lss ?_
 refine s_nil trivial ?_
 refine n_wp ?_
 refine w_F rfl ?_ (decide_eq_false (by omega))
 refine w_skip ?_
 refine n_wp ?_
 refine w_seq ?_
 refine w_seq ?_
 refine g_reg hP hn ?_
 refine s_op k_mv ?_
 refine s_op k_mv ?_
 refine s_op k_len ?_
 refine s_op (l_bin rfl rfl (b_gtr (r := true) (decide_eq_true h))) ?_
 refine s_op k_mv ?_
 refine s_off rfl rfl rfl ?_
 refine s_off rfl rfl rfl ?_
 refine s_off rfl rfl rfl ?_
 refine s_off rfl rfl rfl ?_
 refine s_off rfl rfl rfl ?_
 refine s_off rfl rfl rfl ?_
 refine s_op k_pk ?_
 refine s_nil trivial ?_
 refine n_wp ?_
 refine w_T rfl ?_ 
 refine w_seq ?_
 refine g_reg hP hn ?_
 refine s_op (k_bdS [.ints .u8 32 (z 32), .ints .u8 16 (z 16)]) ?_
 refine s_st (k_st (h := by exact a_store_agg rfl rfl rfl (put_w (by kernel_rfl)) (by exact Nat.le_of_ble_eq_true rfl) (by kernel_rfl) (by repeat (first | exact hset_0 | apply hset_s)))) ?_
 refine s_op k_as ?_
 refine s_nil trivial ?_
 refine n_wp ?_
 refine w_ret ?_
 refine r_thn ?_
 exact d_ret hP hn hE [] (ret2 Tryz.results19 r_cella (by first | exact ri_tmp rfl | exact ri_tmpa rfl))

theorem rcut_far2 (B : List Int) (hB : B.length ≤ 100000) (p : Nat) (h0 : p ≤ B.length) (h : B.length < 48 * p + 48) : Con Tryz.prog 19 [.s (.fzi .u8 B), .s (.int .i64 ((p : Nat) : Int))] [] (.tup [.agg [.ints .u8 32 (z 32), .ints .u8 16 (z 16)], .s (.int .i64 5)]) [] := by
 refine con_in 55 Tryz.func19 rfl rfl (m := 0) rfl ?_
 intro E hP hn hE
 refine w_seq ?_
 refine g_reg hP hn ?_
 refine s_op k_al ?_
 refine s_op k_as ?_
 refine s_nil trivial ?_
 refine n_wp ?_
 refine w_seq ?_
 refine w_seq ?_
 refine g_reg hP hn ?_
 refine s_op k_mv ?_
 refine s_op k_lss ?_
 refine s_nil trivial ?_
 refine n_wp ?_
 refine w_F rfl ?_ (decide_eq_false (by omega))
 refine w_skip ?_
 refine n_wp ?_
 refine w_seq ?_
 refine w_seq ?_
 refine g_reg hP hn ?_
 refine s_op k_mv ?_
 refine s_op k_mv ?_
 refine s_op k_len ?_
 refine s_op (l_bin rfl rfl (b_gtr (r := false) (decide_eq_false (by omega)))) ?_
 refine s_op k_mv ?_
 refine s_on rfl rfl rfl k_mv ?_
 refine s_on rfl rfl rfl k_mul ?_
 refine s_on rfl rfl rfl k_add ?_
 refine s_on rfl rfl rfl k_mv ?_
 refine s_on rfl rfl rfl k_len ?_
 refine s_on rfl rfl rfl (l_bin rfl rfl (b_gtr (r := true) (decide_eq_true (by omega)))) ?_
 refine s_op k_pk ?_
 refine s_nil trivial ?_
 refine n_wp ?_
 refine w_T rfl ?_ 
 refine w_seq ?_
 refine g_reg hP hn ?_
 refine s_op (k_bdS [.ints .u8 32 (z 32), .ints .u8 16 (z 16)]) ?_
 refine s_st (k_st (h := by exact a_store_agg rfl rfl rfl (put_w (by kernel_rfl)) (by exact Nat.le_of_ble_eq_true rfl) (by kernel_rfl) (by repeat (first | exact hset_0 | apply hset_s)))) ?_
 refine s_op k_as ?_
 refine s_nil trivial ?_
 refine n_wp ?_
 refine w_ret ?_
 refine r_thn ?_
 exact d_ret hP hn hE [] (ret2 Tryz.results19 r_cella (by first | exact ri_tmp rfl | exact ri_tmpa rfl))

theorem rcut_ok (B : List Int) (hB : B.length ≤ 100000) (p : Nat) (h : 48 * p + 48 ≤ B.length) : Con Tryz.prog 19 [.s (.fzi .u8 B), .s (.int .i64 ((p : Nat) : Int))] [] (.tup [.agg [.ints .u8 32 (kM B p), .ints .u8 16 (kC B p)], .s (.int .i64 0)]) [] := by
 refine con_in 55 Tryz.func19 rfl rfl (m := 0) rfl ?_
 intro E hP hn hE
 refine w_seq ?_
 refine g_reg hP hn ?_
 refine s_op k_al ?_
 refine s_op k_as ?_
 refine s_nil trivial ?_
 refine n_wp ?_
 refine w_seq ?_
 refine w_seq ?_
 refine g_reg hP hn ?_
 refine s_op k_mv ?_
 refine s_op k_lss ?_
 refine s_nil trivial ?_
 refine n_wp ?_
 refine w_F rfl ?_ (decide_eq_false (by omega))
 refine w_skip ?_
 refine n_wp ?_
 refine w_seq ?_
 refine w_seq ?_
 refine g_reg hP hn ?_
 refine s_op k_mv ?_
 refine s_op k_mv ?_
 refine s_op k_len ?_
 refine s_op (l_bin rfl rfl (b_gtr (r := false) (decide_eq_false (by omega)))) ?_
 refine s_op k_mv ?_
 refine s_on rfl rfl rfl k_mv ?_
 refine s_on rfl rfl rfl k_mul ?_
 refine s_on rfl rfl rfl k_add ?_
 refine s_on rfl rfl rfl k_mv ?_
 refine s_on rfl rfl rfl k_len ?_
 refine s_on rfl rfl rfl (l_bin rfl rfl (b_gtr (r := false) (decide_eq_false (by omega)))) ?_
 refine s_op k_pk ?_
 refine s_nil trivial ?_
 refine n_wp ?_
 refine w_F rfl ?_ 
 refine w_skip ?_
 refine n_wp ?_
 refine w_seq ?_
 refine g_reg hP hn ?_
 refine s_op k_al ?_
 refine s_nil trivial ?_
 refine n_wp ?_
 refine w_seq ?_
 refine w_seq ?_
 refine g_reg hP hn ?_
 refine s_op k_as ?_
 refine s_nil trivial ?_
 refine n_wp ?_
 refine w_block ?_
 refine c_loop (fun m_ T H => ∃ i : Nat, i ≤ 32 ∧ m_ = 32 - i ∧ T = [(0, .s (.fzi .u8 B)), (1, .s (.int .i64 ((p : Nat) : Int))), (4, .s (.ptr 0 0 0)), (6, .s (.ptr 1 0 0)), (7, .s (.int .i64 ((i : Nat) : Int)))] ∧ H = [some ⟨true, [.ints .u8 32 (z 32), .ints .u8 16 (z 16)]⟩, some ⟨true, [.ints .u8 32 (cwI (z 32) B (48 * p) i), .ints .u8 16 (z 16)]⟩]) (32) ⟨0, by omega, rfl, rfl, rfl⟩ (wk hE [0, 1]) ?_
 rintro n_ T_ H_ ⟨i, hi, rfl, rfl, rfl⟩
 refine w_seq ?_
 refine w_seq ?_
 refine g_reg hP hn ?_
 refine s_op k_mv ?_
 refine s_op k_lss ?_
 refine s_nil trivial ?_
 refine n_wp ?_
 refine w_if rfl (fun h_t26 => ?_) (fun h_t26 => ?_)
 · skip
   have hcl := (cwI_len (z 32) B (48 * p) i).trans (z_len 32)
   refine w_skip ?_
   refine n_wp ?_
   refine w_seq ?_
   refine w_block ?_
   refine g_reg hP hn ?_
   refine s_op k_mv ?_
   refine s_op k_mv ?_
   refine s_op k_mv ?_
   refine s_op k_mul ?_
   refine s_op k_mv ?_
   refine s_op k_add ?_
   refine s_op k_ix ?_
   refine s_op k_ld ?_
   refine s_op k_fa ?_
   refine s_op k_ix ?_
   refine s_st k_st ?_
   refine s_nil trivial ?_
   refine n_blo ?_
   refine n_wp ?_
   refine g_reg hP hn ?_
   refine s_op k_mv ?_
   refine s_op k_add ?_
   refine s_op k_as ?_
   refine s_nil trivial ?_
   exact n_round (32 - (i + 1)) (by omega) ⟨i + 1, by omega, rfl, rfl, rfl⟩ (wk hE [0, 1])
 · skip
   obtain rfl : i = 32 := by omega
   rw [kM_cw (B := B) (p := p) (by omega)]
   refine w_exit ?_
   refine x_thn ?_
   refine x_thn ?_
   refine x_eq ?_
   refine n_wp ?_
   refine w_seq ?_
   refine w_seq ?_
   refine g_reg hP hn ?_
   refine s_op k_as ?_
   refine s_nil trivial ?_
   refine n_wp ?_
   refine w_block ?_
   refine c_loop (fun m_ T H => ∃ i : Nat, i ≤ 16 ∧ m_ = 16 - i ∧ T = [(0, .s (.fzi .u8 B)), (1, .s (.int .i64 ((p : Nat) : Int))), (4, .s (.ptr 0 0 0)), (6, .s (.ptr 1 0 0)), (8, .s (.int .i64 ((i : Nat) : Int)))] ∧ H = [some ⟨true, [.ints .u8 32 (z 32), .ints .u8 16 (z 16)]⟩, some ⟨true, [.ints .u8 32 (kM B p), .ints .u8 16 (cwI (z 16) B (48 * p + 32) i)]⟩]) (16) ⟨0, by omega, rfl, rfl, rfl⟩ (wk hE [0, 1]) ?_
   rintro n_ T_ H_ ⟨i, hi, rfl, rfl, rfl⟩
   refine w_seq ?_
   refine w_seq ?_
   refine g_reg hP hn ?_
   refine s_op k_mv ?_
   refine s_op k_lss ?_
   refine s_nil trivial ?_
   refine n_wp ?_
   refine w_if rfl (fun h_t40 => ?_) (fun h_t40 => ?_)
   · skip
     have hcl := (cwI_len (z 16) B (48 * p + 32) i).trans (z_len 16)
     refine w_skip ?_
     refine n_wp ?_
     refine w_seq ?_
     refine w_block ?_
     refine g_reg hP hn ?_
     refine s_op k_mv ?_
     refine s_op k_mv ?_
     refine s_op k_mv ?_
     refine s_op k_mul ?_
     refine s_op k_add ?_
     refine s_op k_mv ?_
     refine s_op k_add ?_
     refine s_op k_ix ?_
     refine s_op k_ld ?_
     refine s_op k_fa ?_
     refine s_op k_ix ?_
     refine s_st k_st ?_
     refine s_nil trivial ?_
     refine n_blo ?_
     refine n_wp ?_
     refine g_reg hP hn ?_
     refine s_op k_mv ?_
     refine s_op k_add ?_
     refine s_op k_as ?_
     refine s_nil trivial ?_
     exact n_round (16 - (i + 1)) (by omega) ⟨i + 1, by omega, rfl, rfl, rfl⟩ (wk hE [0, 1])
   · skip
     obtain rfl : i = 16 := by omega
     rw [kC_cw (B := B) (p := p) (by omega)]
     refine w_exit ?_
     refine x_thn ?_
     refine x_thn ?_
     refine x_eq ?_
     refine n_wp ?_
     refine w_seq ?_
     refine g_reg hP hn ?_
     refine s_op (k_ld (h := by exact a_load_whole rfl rfl (by kernel_rfl))) ?_
     refine s_st (k_st (h := by exact a_store_agg rfl rfl rfl (put_w (by kernel_rfl)) (by exact Nat.le_of_ble_eq_true rfl) (by kernel_rfl) (by repeat (first | exact hset_0 | apply hset_s)))) ?_
     refine s_op k_as ?_
     refine s_nil trivial ?_
     refine n_wp ?_
     refine w_ret ?_
     exact d_ret hP hn hE [] (ret2 Tryz.results19 r_cella (by first | exact ri_tmp rfl | exact ri_tmpa rfl))

end Go.Proofs.X
end

section
/- Types and functions of layer 9's law, as instances. -/
open Go Go.Bx Go.Proofs
namespace Go.Proofs.X
instance : Clb Tryz.prog 111 := ⟨_, Tryz.func111, by kernel_rfl, rfl⟩
instance : Clb Tryz.prog 42 := ⟨_, Tryz.func42, by kernel_rfl, rfl⟩
instance : Clb Tryz.prog 41 := ⟨_, Tryz.func41, by kernel_rfl, rfl⟩
instance : Clb Tryz.prog 7 := ⟨_, Tryz.func7, by kernel_rfl, rfl⟩
instance : Clb Tryz.prog 3 := ⟨_, Tryz.func3, by kernel_rfl, rfl⟩
instance : NoEq Tryz.prog 22 := ⟨by kernel_rfl⟩
end Go.Proofs.X
end

section
open Go Go.Bx Go.Proofs
namespace Go.Proofs.X
set_option maxRecDepth 100000
set_option maxHeartbeats 4000000
theorem same_n (A : List Int) (hA : A.length ≤ 1000000) : Con Tryz.prog 11 [.s (.fzi .u8 A), .s (.fzi .u8 A)] [] (.s (.bool true)) [] := by
 refine con_in 26 Tryz.func11 rfl rfl (m := 0) rfl ?_
 intro E hP hn hE
 refine w_seq ?_
 refine g_reg hP hn ?_
 refine s_op k_as ?_
 refine s_nil trivial ?_
 refine n_wp ?_
 refine w_seq ?_
 refine w_seq ?_
 refine g_reg hP hn ?_
 refine s_op k_mv ?_
 refine s_op k_len ?_
 refine s_op k_mv ?_
 refine s_op k_len ?_
 refine s_op (l_bin rfl rfl (b_neq (r := false) (decide_eq_false (fun h => h rfl)))) ?_
 refine s_nil trivial ?_
 refine n_wp ?_
 refine w_F rfl ?_ 
 refine w_skip ?_
 refine n_wp ?_
 refine w_seq ?_
 refine w_seq ?_
 refine g_reg hP hn ?_
 refine s_op k_as ?_
 refine s_nil trivial ?_
 refine n_wp ?_
 refine w_block ?_
 refine c_loop (fun m_ T H => ∃ i, i ≤ A.length ∧ m_ = A.length - i ∧ T = [(0, .s (.fzi .u8 A)), (1, .s (.fzi .u8 A)), (5, .s (.int .i64 ((i : Nat) : Int)))] ∧ H = []) (A.length) ⟨0, by omega, rfl, rfl, rfl⟩ (wk hE []) ?_
 rintro n_ T_ H_ ⟨i, hi, rfl, rfl, rfl⟩
 refine w_seq ?_
 refine w_seq ?_
 refine g_reg hP hn ?_
 refine s_op k_mv ?_
 refine s_op k_mv ?_
 refine s_op k_len ?_
 refine s_op k_lss ?_
 refine s_nil trivial ?_
 refine n_wp ?_
 refine w_if rfl (fun h_t14 => ?_) (fun h_t14 => ?_)
 · skip
   refine w_skip ?_
   refine n_wp ?_
   refine w_seq ?_
   refine w_block ?_
   refine w_seq ?_
   refine g_any hP hn ?_
   refine s_op k_mv ?_
   refine s_op k_mv ?_
   refine s_op k_ix ?_
   refine s_op k_ld ?_
   refine s_op k_mv ?_
   refine s_op k_mv ?_
   refine s_op k_ix ?_
   refine s_op k_ld ?_
   refine s_op (l_bin rfl rfl (b_neq (r := false) (decide_eq_false (fun h => h rfl)))) ?_
   refine s_nil (by kernel_rfl) ?_
   refine n_wp ?_
   refine w_F rfl ?_ 
   refine w_skip ?_
   refine n_blo ?_
   refine n_wp ?_
   refine g_reg hP hn ?_
   refine s_op k_mv ?_
   refine s_op k_add ?_
   refine s_op k_as ?_
   refine s_nil trivial ?_
   exact n_round (A.length - (i + 1)) (by omega) ⟨i + 1, by omega, rfl, rfl, rfl⟩ (wk hE [])
 · skip
   refine w_exit ?_
   refine x_thn ?_
   refine x_thn ?_
   refine x_eq ?_
   refine n_wp ?_
   refine w_seq ?_
   refine g_reg hP hn ?_
   refine s_op k_as ?_
   refine s_nil trivial ?_
   refine n_wp ?_
   refine w_ret ?_
   exact d_ret hP hn hE [] (by first | exact r_tmp Tryz.results11 | exact r_tmpa Tryz.results11)

theorem left_n (B : List Int) (hB : B.length ≤ 100000) : Con Tryz.prog 13 [.s (.slice 0 0 0 B.length (B.length + 1)), .s (.fzi .u8 B)] [some ⟨true, [.ints .u8 (B.length + 1) (B ++ [77])]⟩] (.s (.bool true)) [some ⟨true, [.ints .u8 (B.length + 1) (B ++ [77])]⟩] := by
 refine con_in 45 Tryz.func13 rfl rfl (m := 1) rfl ?_
 intro E hP hn hE
 refine w_seq ?_
 refine g_reg hP hn ?_
 refine s_op k_as ?_
 refine s_nil trivial ?_
 refine n_wp ?_
 refine w_seq ?_
 refine w_seq ?_
 refine g_reg hP hn ?_
 refine s_op k_mv ?_
 refine s_op k_len ?_
 refine s_op k_mv ?_
 refine s_op k_len ?_
 refine s_op (l_bin rfl rfl (b_neq (r := false) (decide_eq_false (fun h => h rfl)))) ?_
 refine s_op k_mv ?_
 refine s_on rfl rfl rfl k_mv ?_
 refine s_on rfl rfl rfl k_cap ?_
 refine s_on rfl rfl rfl k_mv ?_
 refine s_on rfl rfl rfl k_len ?_
 refine s_on rfl rfl rfl (l_bin rfl rfl (b_leq (r := false) (decide_eq_false (by omega)))) ?_
 refine s_op k_pk ?_
 refine s_nil trivial ?_
 refine n_wp ?_
 refine w_F rfl ?_ 
 refine w_skip ?_
 refine n_wp ?_
 refine w_seq ?_
 refine w_seq ?_
 refine g_reg hP hn ?_
 refine s_op k_as ?_
 refine s_nil trivial ?_
 refine n_wp ?_
 refine w_block ?_
 refine c_loop (fun m_ T H => ∃ i, i ≤ B.length ∧ m_ = B.length - i ∧ T = [(0, .s (.slice 0 0 0 B.length (B.length + 1))), (1, .s (.fzi .u8 B)), (5, .s (.int .i64 ((i : Nat) : Int)))] ∧ H = [some ⟨true, [.ints .u8 (B.length + 1) (B ++ [77])]⟩]) (B.length) ⟨0, by omega, rfl, rfl, rfl⟩ (wk hE [0]) ?_
 rintro n_ T_ H_ ⟨i, hi, rfl, rfl, rfl⟩
 refine w_seq ?_
 refine w_seq ?_
 refine g_reg hP hn ?_
 refine s_op k_mv ?_
 refine s_op k_mv ?_
 refine s_op k_len ?_
 refine s_op k_lss ?_
 refine s_nil trivial ?_
 refine n_wp ?_
 refine w_if rfl (fun h_t22 => ?_) (fun h_t22 => ?_)
 · skip
   refine w_skip ?_
   refine n_wp ?_
   refine w_seq ?_
   refine w_block ?_
   refine w_seq ?_
   have hget : (B ++ [77]).getD i 0 = B.getD i 0 := by rw [List.getD_eq_getElem?_getD, List.getD_eq_getElem?_getD, List.getElem?_append_left (by omega)]
   refine g_any hP hn ?_
   refine s_op k_mv ?_
   refine s_op k_mv ?_
   refine s_op k_ix ?_
   refine s_op k_ld ?_
   refine s_op k_mv ?_
   refine s_op k_mv ?_
   refine s_op k_ix ?_
   refine s_op k_ld ?_
   refine s_op (l_bin rfl rfl (b_neq (r := false) (decide_eq_false (fun h => h hget)))) ?_
   refine s_nil (by kernel_rfl) ?_
   refine n_wp ?_
   refine w_F rfl ?_ 
   refine w_skip ?_
   refine n_blo ?_
   refine n_wp ?_
   refine g_reg hP hn ?_
   refine s_op k_mv ?_
   refine s_op k_add ?_
   refine s_op k_as ?_
   refine s_nil trivial ?_
   exact n_round (B.length - (i + 1)) (by omega) ⟨i + 1, by omega, rfl, rfl, rfl⟩ (wk hE [0])
 · skip
   obtain rfl : i = B.length := by omega
   refine w_exit ?_
   refine x_thn ?_
   refine x_thn ?_
   refine x_eq ?_
   refine n_wp ?_
   refine w_seq ?_
   have hlast : (B ++ [77]).getD B.length 0 = 77 := by simp [List.getD_eq_getElem?_getD]
   refine g_reg hP hn ?_
   refine s_op k_mv ?_
   refine s_op k_mv ?_
   refine s_op k_len ?_
   refine s_op k_add ?_
   refine s_op k_sl ?_
   refine s_op k_mv ?_
   refine s_op k_len ?_
   refine s_op k_ix ?_
   refine s_op k_ld ?_
   refine s_op k_as ?_
   refine s_nil trivial ?_
   refine n_wp ?_
   refine w_seq ?_
   refine g_reg hP hn ?_
   refine s_op k_mv ?_
   refine s_op (l_bin rfl rfl (b_eql (r := true) (decide_eq_true hlast))) ?_
   refine s_op k_as ?_
   refine s_nil trivial ?_
   refine n_wp ?_
   refine w_ret ?_
   exact d_ret hP hn hE [0] (by first | exact r_tmp Tryz.results13 | exact r_tmpa Tryz.results13)

end Go.Proofs.X
end

section
open Go Go.Bx Go.Proofs
namespace Go.Proofs.X
set_option maxRecDepth 100000
set_option maxHeartbeats 4000000
theorem kA_32 (K : List Int) : kA K 32 = kyR K 1 := by
  rw [kA, show (32 + 31) / 32 = 0 + 1 from rfl, koR_s]
  show ([] ++ kyR K 1).take 32 = _
  rw [List.nil_append, List.take_of_length_le (Nat.le_of_eq (kyR_len K 0))]
theorem ky1_e (K : List Int) : rmac K [[108, 97, 110, 101, 1]].flatten = kyR K 1 := rfl
theorem wd5 : zs (wd 5) = [5, 0, 0, 0] := rfl
theorem wd0 : zs (wd 0) = [0, 0, 0, 0] := rfl
theorem mac_l (K : List Int) (hK : K.length = 32) : Con Tryz.prog 93 [.s (.fzi .u8 K), .s (ROWS [[108, 97, 110, 101, 1]])] [] (.agg [.ints .u8 32 (kyR K 1)]) [] := by
  have c := mac_r K [[108, 97, 110, 101, 1]] (by omega) (by omega) (Nat.le_of_ble_eq_true rfl) (Nat.le_of_ble_eq_true rfl)
  rwa [ky1_e] at c
theorem km_32 (v : Nat) : Con Tryz.prog 16 [.agg [.ints .u64 4 (zs (wd v))], .agg [.ints .u8 32 (z 32)], .s (.int .i64 32)] [] (.tup [.s (.slice 0 0 0 32 32), .s (.int .i64 0)]) [some ⟨true, [.ints .u8 32 (kyR (kK v (z 32)) 1)]⟩] := by
  have c := km_n v (z 32) (z_len 32) 32 (by decide)
  rwa [kA_32] at c
theorem km_5 : Con Tryz.prog 16 [.agg [.ints .u64 4 [5, 0, 0, 0]], .agg [.ints .u8 32 (z 32)], .s (.int .i64 32)] [] (.tup [.s (.slice 0 0 0 32 32), .s (.int .i64 0)]) [some ⟨true, [.ints .u8 32 (kyR (kK 5 (z 32)) 1)]⟩] := by
  have c := km_32 5
  rwa [wd5] at c
theorem km_0 : Con Tryz.prog 16 [.agg [.ints .u64 4 [0, 0, 0, 0]], .agg [.ints .u8 32 (z 32)], .s (.int .i64 8161)] [] (.tup [.s .nils, .s (.int .i64 3)]) [] := by
  have c := km_big 0 (z 32) 8161 (by decide)
  rwa [wd0] at c
theorem pl_5 : Con Tryz.prog 94 [.s (.fzi .u8 []), .agg [.ints .u64 4 [5, 0, 0, 0]]] [] (.s (.fzi .u8 (be 32 5))) [] := by
  have c := pl_c 5
  rwa [wd5] at c
attribute [local irreducible] kM kC kA kyR kK be rmac wd
theorem lives10_c : Con Tryz.prog 15 [] [] (.s (.bool true)) [] := by
 refine con_in 64 Tryz.func15 rfl rfl (m := 0) rfl ?_
 intro E hP hn hE
 refine w_seq ?_
 refine g_reg hP hn ?_
 refine s_op k_as ?_
 refine s_nil trivial ?_
 refine n_wp ?_
 refine w_seq ?_
 refine g_reg hP hn ?_
 refine s_op (k_bd (by exact a_buildK [5, 0, 0, 0] rfl rfl rfl)) ?_
 refine s_op (k_bd (by exact a_buildK (z 32) rfl rfl rfl)) ?_
 refine s_op (k_call [] (con := km_5) (H' := [some ⟨true, [.ints .u8 32 (kyR (kK 5 (z 32)) 1)]⟩]) (hH := by kernel_rfl)) ?_
 refine s_op k_mv ?_
 refine s_op k_ex ?_
 refine s_op k_ex ?_
 refine s_op k_as ?_
 refine s_op k_as ?_
 refine s_nil trivial ?_
 refine n_wp ?_
 refine w_seq ?_
 refine g_reg hP hn ?_
 refine s_op (k_bd (by exact a_buildK [0, 0, 0, 0] rfl rfl rfl)) ?_
 refine s_op (k_bd (by exact a_buildK (z 32) rfl rfl rfl)) ?_
 refine s_op (k_call [] (con := km_0)) ?_
 refine s_op k_mv ?_
 refine s_op k_ex ?_
 refine s_op k_ex ?_
 refine s_op k_as ?_
 refine s_op k_as ?_
 refine s_nil trivial ?_
 refine n_wp ?_
 refine w_seq ?_
 refine w_weak (T' := [(4, .s (.int .i64 3)), (1, .s (.slice 0 0 0 32 32)), (2, .s (.int .i64 0))]) (H' := [some ⟨true, [.ints .u8 32 (kyR (kK 5 (z 32)) 1)]⟩]) (wk hE [0]) ?_
 refine g_reg hP hn ?_
 refine s_op (k_mkF (c := 48)) ?_
 refine s_op (k_call [] (con := cut_far (List.replicate 48 0) (by decide) 1 (by decide))) ?_
 refine s_op k_mv ?_
 refine s_op k_ex ?_
 refine s_op k_ex ?_
 refine s_op k_al ?_
 refine s_st (k_st (h := by exact a_store_agg rfl rfl rfl (put_w (by kernel_rfl)) (by exact Nat.le_of_ble_eq_true rfl) (by kernel_rfl) (by repeat (first | exact hset_0 | apply hset_s)))) ?_
 refine s_op k_as ?_
 refine s_nil trivial ?_
 refine n_wp ?_
 refine w_seq ?_
 refine g_reg hP hn ?_
 refine s_op (k_mkF (c := 48)) ?_
 refine s_op (k_call [] (con := cut_ok (List.replicate 48 0) (by decide) 0 (by decide))) ?_
 refine s_op k_mv ?_
 refine s_op k_ex ?_
 refine s_op k_ex ?_
 refine s_op k_al ?_
 refine s_st (k_st (h := by exact a_store_agg rfl rfl rfl (put_w (by kernel_rfl)) (by exact Nat.le_of_ble_eq_true rfl) (by kernel_rfl) (by repeat (first | exact hset_0 | apply hset_s)))) ?_
 refine s_op k_as ?_
 refine s_nil trivial ?_
 refine n_wp ?_
 refine w_seq ?_
 refine g_reg hP hn ?_
 refine s_op (k_bd (by exact a_buildK (z 32) rfl rfl rfl)) ?_
 refine s_op k_al ?_
 refine s_st (k_st (h := by exact a_store_agg rfl rfl rfl (put_w (by kernel_rfl)) (by exact Nat.le_of_ble_eq_true rfl) (by kernel_rfl) (by repeat (first | exact hset_0 | apply hset_s)))) ?_
 refine s_nil trivial ?_
 refine n_wp ?_
 refine w_seq ?_
 refine w_weak (frz_ptr 9 32) ?_
 refine g_any hP hn ?_
 refine s_op (k_slf (hl := z_len 32)) ?_
 refine s_op (k_bd (by exact a_buildK [5, 0, 0, 0] rfl rfl rfl)) ?_
 refine s_op (k_call [] (con := pl_5)) ?_
 refine s_op (k_bsz [.fzi .u8 (be 32 5)]) ?_
 refine s_op (k_call [] (con := mac_1 (z 32) 5 (z_len 32))) ?_
 refine s_op k_al ?_
 refine s_st (k_st (h := by exact a_store_agg rfl rfl rfl (put_w (by kernel_rfl)) (by exact Nat.le_of_ble_eq_true rfl) (by kernel_rfl) (by repeat (first | exact hset_0 | apply hset_s)))) ?_
 refine s_nil (by kernel_rfl) ?_
 refine n_wp ?_
 refine w_seq ?_
 refine w_weak (frz_ptr 10 32) ?_
 have hKl := kK_len 5 (z 32)
 generalize kK 5 (z 32) = K at *
 refine g_reg hP hn ?_
 refine s_op (k_slf (hl := hKl)) ?_
 refine s_op (k_bsK [108, 97, 110, 101, 1]) ?_
 refine s_op k_mark ?_
 refine s_op (k_bsz [.fzi .u8 [108, 97, 110, 101, 1]]) ?_
 refine s_op (k_call [] (con := mac_l K hKl)) ?_
 refine s_op k_al ?_
 refine s_st (k_st (h := by exact a_store_agg rfl rfl rfl (put_w (by kernel_rfl)) (by exact Nat.le_of_ble_eq_true rfl) (by kernel_rfl) (by repeat (first | exact hset_0 | apply hset_s)))) ?_
 refine s_nil trivial ?_
 refine n_wp ?_
 refine w_seq ?_
 refine w_weak (frz_ptr 11 32) ?_
 have hyl := kyR_len K 0
 generalize kyR K 1 = Y at *
 refine g_reg hP hn ?_
 refine s_op k_mv ?_
 refine s_op k_eql ?_
 refine s_op k_mv ?_
 refine s_on rfl rfl rfl k_mv ?_
 refine s_on rfl rfl rfl (k_slf (hl := hyl)) ?_
 refine s_on rfl rfl rfl (k_tmp 0 (h := k_call [] (con := same_n Y (by omega)) (hargs := by exact .cons rfl (conv_sl (kk := .u8) (n := 32) (l := Y) (by rfl) rfl rfl (by omega) (by omega) hyl (by rw [List.drop_zero]; exact List.take_of_length_le (Nat.le_of_eq hyl))) (.cons rfl cv .nil)))) ?_
 refine s_op k_pk ?_
 refine s_op k_mv ?_
 refine s_on rfl rfl rfl k_mv ?_
 refine s_on rfl rfl rfl k_eql ?_
 refine s_op k_pk ?_
 refine s_op k_mv ?_
 refine s_on rfl rfl rfl k_mv ?_
 refine s_on rfl rfl rfl k_eql ?_
 refine s_op k_pk ?_
 refine s_op k_mv ?_
 refine s_on rfl rfl rfl k_mv ?_
 refine s_on rfl rfl rfl k_eql ?_
 refine s_op k_pk ?_
 refine s_op k_as ?_
 refine s_nil trivial ?_
 refine n_wp ?_
 refine w_ret ?_
 exact d_ret hP hn hE [] (by first | exact r_tmp Tryz.results15 | exact r_tmpa Tryz.results15)

end Go.Proofs.X
end

section
open Go Go.Bx Go.Proofs
namespace Go.Proofs.X
set_option maxRecDepth 100000
set_option maxHeartbeats 4000000
def twT (B : List Int) (i : Nat) : List Int := B.take i ++ List.replicate (B.length + 1 - i) 0
theorem twT_len (B : List Int) (i : Nat) (h : i ≤ B.length) : (twT B i).length = B.length + 1 := by
  rw [twT, List.length_append, List.length_take, List.length_replicate]; omega
theorem twT_s (B : List Int) (i : Nat) (h : i < B.length) : spl (twT B i) [B.getD i 0] i 1 (B.length + 1) = twT B (i + 1) := by
  have ht : (B.take i).length = i := by rw [List.length_take]; omega
  have e := spl_app (B.take i) [B.getD i 0] (List.replicate (B.length + 1 - i) 0) i 1 (B.length + 1) ht rfl (by omega) (by rw [ht, List.length_replicate]; omega)
  have h2 : B.take (i + 1) = B.take i ++ [B.getD i 0] := by rw [List.take_add_one, List.getD_eq_getElem?_getD, List.getElem?_eq_getElem h]; rfl
  rw [twT, e, twT, h2, List.drop_replicate]
  congr 2
theorem twT_e (B : List Int) : spl (twT B B.length) [77] B.length 1 (B.length + 1) = B ++ [77] := by
  have e := spl_app B [77] (List.replicate 1 0) B.length 1 (B.length + 1) rfl rfl (by omega) (by rw [List.length_replicate])
  rw [twT, List.take_length, show B.length + 1 - B.length = 1 by omega, e]
  simp

theorem twin_c (B : List Int) (hB : B.length ≤ 100000) : Con Tryz.prog 8 [.s (.fzi .u8 B)] [] (.s (.slice 0 0 0 B.length (B.length + 1))) [some ⟨true, [.ints .u8 (B.length + 1) (B ++ [77])]⟩] := by
 refine con_in 28 Tryz.func8 rfl rfl (m := 0) rfl ?_
 intro E hP hn hE
 refine w_seq ?_
 refine g_reg hP hn ?_
 refine s_op k_as ?_
 refine s_nil trivial ?_
 refine n_wp ?_
 refine w_seq ?_
 refine g_reg hP hn ?_
 refine s_op k_mv ?_
 refine s_op k_len ?_
 refine s_op k_add ?_
 refine s_op k_mk ?_
 refine s_op k_as ?_
 refine s_nil trivial ?_
 refine n_wp ?_
 refine w_seq ?_
 refine w_seq ?_
 refine g_reg hP hn ?_
 refine s_op k_as ?_
 refine s_nil trivial ?_
 refine n_wp ?_
 refine w_block ?_
 refine c_loop (fun m_ T H => ∃ i, i ≤ B.length ∧ m_ = B.length - i ∧ T = [(0, .s (.fzi .u8 B)), (3, .s (.slice 0 0 0 i (B.length + 1))), (4, .s (.int .i64 ((i : Nat) : Int)))] ∧ H = [some ⟨true, [.ints .u8 (B.length + 1) (twT B i)]⟩]) (B.length) ⟨0, by omega, rfl, rfl, rfl⟩ (wk hE [0]) ?_
 rintro n_ T_ H_ ⟨i, hi, rfl, rfl, rfl⟩
 have htl := twT_len B i hi
 refine w_seq ?_
 refine w_seq ?_
 refine g_reg hP hn ?_
 refine s_op k_mv ?_
 refine s_op k_mv ?_
 refine s_op k_len ?_
 refine s_op k_lss ?_
 refine s_nil trivial ?_
 refine n_wp ?_
 refine w_if rfl (fun h_t12 => ?_) (fun h_t12 => ?_)
 · skip
   refine w_skip ?_
   refine n_wp ?_
   refine w_seq ?_
   refine w_block ?_
   refine g_reg hP hn ?_
   refine s_op k_mv ?_
   refine s_op k_mv ?_
   refine s_op k_mv ?_
   refine s_op k_ix ?_
   refine s_op k_ld ?_
   refine s_op k_bsf ?_
   refine s_op (k_apj (twT B (i + 1)) (hl' := twT_s B i h_t12)) ?_
   refine s_op k_as ?_
   refine s_nil trivial ?_
   refine n_blo ?_
   refine n_wp ?_
   refine g_reg hP hn ?_
   refine s_op k_mv ?_
   refine s_op k_add ?_
   refine s_op k_as ?_
   refine s_nil trivial ?_
   exact n_round (B.length - (i + 1)) (by omega) ⟨i + 1, by omega, rfl, rfl, rfl⟩ (wk hE [0])
 · skip
   obtain rfl : i = B.length := by omega
   refine w_exit ?_
   refine x_thn ?_
   refine x_thn ?_
   refine x_eq ?_
   refine n_wp ?_
   refine w_seq ?_
   refine g_reg hP hn ?_
   refine s_op k_mv ?_
   refine s_op k_bsf ?_
   refine s_op (k_apj (B ++ [77]) (hl' := twT_e B)) ?_
   refine s_op k_mv ?_
   refine s_op k_len ?_
   refine s_op k_sl ?_
   refine s_op k_as ?_
   refine s_nil trivial ?_
   refine n_wp ?_
   refine w_ret ?_
   exact d_ret hP hn hE [0] (by first | exact r_tmp Tryz.results8 | exact r_tmpa Tryz.results8)

theorem fillInt_0 : Con Tryz.prog 49 [.s (.fptr 16 (fun k => if k = 2 then SV.nils else SV.junk) 0 0)] [] (.tup []) [] := by
 refine con_in 35 Tryz.func49 rfl rfl (m := 0) rfl ?_
 intro E hP hn hE
 refine w_seq ?_
 refine g_reg hP hn ?_
 refine s_op k_as ?_
 refine s_nil trivial ?_
 refine n_wp ?_
 refine w_block ?_
 refine c_loop (fun m_ T H => T = [(0, .s (.fptr 16 (fun k => if k = 2 then SV.nils else SV.junk) 0 0)), (2, .s (.int .i64 ((0 : Nat) : Int)))] ∧ H = []) (0) ⟨rfl, rfl⟩ (wk hE []) ?_
 rintro n_ T_ H_ ⟨rfl, rfl⟩
 refine w_seq ?_
 refine w_seq ?_
 refine g_reg hP hn ?_
 refine s_op k_mv ?_
 refine s_op k_mv ?_
 refine s_op k_nc ?_
 refine s_op k_fa ?_
 refine s_op (k_ld (by exact a_loadf (v := .nils) rfl (by decide) rfl)) ?_
 refine s_op k_len ?_
 refine s_op k_lss ?_
 refine s_nil trivial ?_
 refine n_wp ?_
 refine w_F rfl ?_ 
 refine w_exit ?_
 refine x_thn ?_
 refine x_thn ?_
 refine x_eq ?_
 exact d_ret hP hn hE [] (ret_none Tryz.results49)

theorem growInt_0 : Con Tryz.prog 64 [.s (.fptr 16 (fun k => if k = 2 then SV.nils else SV.junk) 0 0)] [] (.tup []) [] := by
 refine con_in 42 Tryz.func64 rfl rfl (m := 0) rfl ?_
 intro E hP hn hE
 refine w_seq ?_
 refine g_reg hP hn ?_
 refine s_op k_as ?_
 refine s_nil trivial ?_
 refine n_wp ?_
 refine w_block ?_
 refine c_loop (fun m_ T H => T = [(0, .s (.fptr 16 (fun k => if k = 2 then SV.nils else SV.junk) 0 0)), (2, .s (.int .i64 ((0 : Nat) : Int)))] ∧ H = []) (0) ⟨rfl, rfl⟩ (wk hE []) ?_
 rintro n_ T_ H_ ⟨rfl, rfl⟩
 refine w_seq ?_
 refine w_seq ?_
 refine g_reg hP hn ?_
 refine s_op k_mv ?_
 refine s_op k_mv ?_
 refine s_op k_nc ?_
 refine s_op k_fa ?_
 refine s_op (k_ld (by exact a_loadf (v := .nils) rfl (by decide) rfl)) ?_
 refine s_op k_len ?_
 refine s_op k_lss ?_
 refine s_nil trivial ?_
 refine n_wp ?_
 refine w_F rfl ?_ 
 refine w_exit ?_
 refine x_thn ?_
 refine x_thn ?_
 refine x_eq ?_
 exact d_ret hP hn hE [] (ret_none Tryz.results64)

theorem lookInt_0 : Con Tryz.prog 79 [.s (.fptr 16 (fun k => if k = 2 then SV.nils else SV.junk) 0 0)] [] (.s (.bool true)) [] := by
 refine con_in 64 Tryz.func79 rfl rfl (m := 0) rfl ?_
 intro E hP hn hE
 refine w_seq ?_
 refine g_reg hP hn ?_
 refine s_op k_as ?_
 refine s_nil trivial ?_
 refine n_wp ?_
 refine w_seq ?_
 refine w_seq ?_
 refine g_reg hP hn ?_
 refine s_op k_as ?_
 refine s_nil trivial ?_
 refine n_wp ?_
 refine w_block ?_
 refine c_loop (fun m_ T H => T = [(0, .s (.fptr 16 (fun k => if k = 2 then SV.nils else SV.junk) 0 0)), (3, .s (.int .i64 ((0 : Nat) : Int)))] ∧ H = []) (0) ⟨rfl, rfl⟩ (wk hE []) ?_
 rintro n_ T_ H_ ⟨rfl, rfl⟩
 refine w_seq ?_
 refine w_seq ?_
 refine g_reg hP hn ?_
 refine s_op k_mv ?_
 refine s_op k_mv ?_
 refine s_op k_nc ?_
 refine s_op k_fa ?_
 refine s_op (k_ld (by exact a_loadf (v := .nils) rfl (by decide) rfl)) ?_
 refine s_op k_len ?_
 refine s_op k_lss ?_
 refine s_nil trivial ?_
 refine n_wp ?_
 refine w_F rfl ?_ 
 refine w_exit ?_
 refine x_thn ?_
 refine x_thn ?_
 refine x_eq ?_
 refine n_wp ?_
 refine w_seq ?_
 refine g_reg hP hn ?_
 refine s_op k_as ?_
 refine s_nil trivial ?_
 refine n_wp ?_
 refine w_ret ?_
 exact d_ret hP hn hE [] (by first | exact r_tmp Tryz.results79 | exact r_tmpa Tryz.results79)

theorem fillText_0 : Con Tryz.prog 50 [.s (.fptr 16 (fun k => if k = 3 then SV.nils else SV.junk) 0 0)] [] (.tup []) [] := by
 refine con_in 35 Tryz.func50 rfl rfl (m := 0) rfl ?_
 intro E hP hn hE
 refine w_seq ?_
 refine g_reg hP hn ?_
 refine s_op k_as ?_
 refine s_nil trivial ?_
 refine n_wp ?_
 refine w_block ?_
 refine c_loop (fun m_ T H => T = [(0, .s (.fptr 16 (fun k => if k = 3 then SV.nils else SV.junk) 0 0)), (2, .s (.int .i64 ((0 : Nat) : Int)))] ∧ H = []) (0) ⟨rfl, rfl⟩ (wk hE []) ?_
 rintro n_ T_ H_ ⟨rfl, rfl⟩
 refine w_seq ?_
 refine w_seq ?_
 refine g_reg hP hn ?_
 refine s_op k_mv ?_
 refine s_op k_mv ?_
 refine s_op k_nc ?_
 refine s_op k_fa ?_
 refine s_op (k_ld (by exact a_loadf (v := .nils) rfl (by decide) rfl)) ?_
 refine s_op k_len ?_
 refine s_op k_lss ?_
 refine s_nil trivial ?_
 refine n_wp ?_
 refine w_F rfl ?_ 
 refine w_exit ?_
 refine x_thn ?_
 refine x_thn ?_
 refine x_eq ?_
 exact d_ret hP hn hE [] (ret_none Tryz.results50)

theorem growText_0 : Con Tryz.prog 65 [.s (.fptr 16 (fun k => if k = 3 then SV.nils else SV.junk) 0 0)] [] (.tup []) [] := by
 refine con_in 42 Tryz.func65 rfl rfl (m := 0) rfl ?_
 intro E hP hn hE
 refine w_seq ?_
 refine g_reg hP hn ?_
 refine s_op k_as ?_
 refine s_nil trivial ?_
 refine n_wp ?_
 refine w_block ?_
 refine c_loop (fun m_ T H => T = [(0, .s (.fptr 16 (fun k => if k = 3 then SV.nils else SV.junk) 0 0)), (2, .s (.int .i64 ((0 : Nat) : Int)))] ∧ H = []) (0) ⟨rfl, rfl⟩ (wk hE []) ?_
 rintro n_ T_ H_ ⟨rfl, rfl⟩
 refine w_seq ?_
 refine w_seq ?_
 refine g_reg hP hn ?_
 refine s_op k_mv ?_
 refine s_op k_mv ?_
 refine s_op k_nc ?_
 refine s_op k_fa ?_
 refine s_op (k_ld (by exact a_loadf (v := .nils) rfl (by decide) rfl)) ?_
 refine s_op k_len ?_
 refine s_op k_lss ?_
 refine s_nil trivial ?_
 refine n_wp ?_
 refine w_F rfl ?_ 
 refine w_exit ?_
 refine x_thn ?_
 refine x_thn ?_
 refine x_eq ?_
 exact d_ret hP hn hE [] (ret_none Tryz.results65)

theorem lookText_0 : Con Tryz.prog 80 [.s (.fptr 16 (fun k => if k = 3 then SV.nils else SV.junk) 0 0)] [] (.s (.bool true)) [] := by
 refine con_in 64 Tryz.func80 rfl rfl (m := 0) rfl ?_
 intro E hP hn hE
 refine w_seq ?_
 refine g_reg hP hn ?_
 refine s_op k_as ?_
 refine s_nil trivial ?_
 refine n_wp ?_
 refine w_seq ?_
 refine w_seq ?_
 refine g_reg hP hn ?_
 refine s_op k_as ?_
 refine s_nil trivial ?_
 refine n_wp ?_
 refine w_block ?_
 refine c_loop (fun m_ T H => T = [(0, .s (.fptr 16 (fun k => if k = 3 then SV.nils else SV.junk) 0 0)), (3, .s (.int .i64 ((0 : Nat) : Int)))] ∧ H = []) (0) ⟨rfl, rfl⟩ (wk hE []) ?_
 rintro n_ T_ H_ ⟨rfl, rfl⟩
 refine w_seq ?_
 refine w_seq ?_
 refine g_reg hP hn ?_
 refine s_op k_mv ?_
 refine s_op k_mv ?_
 refine s_op k_nc ?_
 refine s_op k_fa ?_
 refine s_op (k_ld (by exact a_loadf (v := .nils) rfl (by decide) rfl)) ?_
 refine s_op k_len ?_
 refine s_op k_lss ?_
 refine s_nil trivial ?_
 refine n_wp ?_
 refine w_F rfl ?_ 
 refine w_exit ?_
 refine x_thn ?_
 refine x_thn ?_
 refine x_eq ?_
 refine n_wp ?_
 refine w_seq ?_
 refine g_reg hP hn ?_
 refine s_op k_as ?_
 refine s_nil trivial ?_
 refine n_wp ?_
 refine w_ret ?_
 exact d_ret hP hn hE [] (by first | exact r_tmp Tryz.results80 | exact r_tmpa Tryz.results80)

theorem fillNum_0 : Con Tryz.prog 51 [.s (.fptr 16 (fun k => if k = 4 then SV.nils else SV.junk) 0 0)] [] (.tup []) [] := by
 refine con_in 35 Tryz.func51 rfl rfl (m := 0) rfl ?_
 intro E hP hn hE
 refine w_seq ?_
 refine g_reg hP hn ?_
 refine s_op k_as ?_
 refine s_nil trivial ?_
 refine n_wp ?_
 refine w_block ?_
 refine c_loop (fun m_ T H => T = [(0, .s (.fptr 16 (fun k => if k = 4 then SV.nils else SV.junk) 0 0)), (2, .s (.int .i64 ((0 : Nat) : Int)))] ∧ H = []) (0) ⟨rfl, rfl⟩ (wk hE []) ?_
 rintro n_ T_ H_ ⟨rfl, rfl⟩
 refine w_seq ?_
 refine w_seq ?_
 refine g_reg hP hn ?_
 refine s_op k_mv ?_
 refine s_op k_mv ?_
 refine s_op k_nc ?_
 refine s_op k_fa ?_
 refine s_op (k_ld (by exact a_loadf (v := .nils) rfl (by decide) rfl)) ?_
 refine s_op k_len ?_
 refine s_op k_lss ?_
 refine s_nil trivial ?_
 refine n_wp ?_
 refine w_F rfl ?_ 
 refine w_exit ?_
 refine x_thn ?_
 refine x_thn ?_
 refine x_eq ?_
 exact d_ret hP hn hE [] (ret_none Tryz.results51)

theorem growNum_0 : Con Tryz.prog 66 [.s (.fptr 16 (fun k => if k = 4 then SV.nils else SV.junk) 0 0)] [] (.tup []) [] := by
 refine con_in 42 Tryz.func66 rfl rfl (m := 0) rfl ?_
 intro E hP hn hE
 refine w_seq ?_
 refine g_reg hP hn ?_
 refine s_op k_as ?_
 refine s_nil trivial ?_
 refine n_wp ?_
 refine w_block ?_
 refine c_loop (fun m_ T H => T = [(0, .s (.fptr 16 (fun k => if k = 4 then SV.nils else SV.junk) 0 0)), (2, .s (.int .i64 ((0 : Nat) : Int)))] ∧ H = []) (0) ⟨rfl, rfl⟩ (wk hE []) ?_
 rintro n_ T_ H_ ⟨rfl, rfl⟩
 refine w_seq ?_
 refine w_seq ?_
 refine g_reg hP hn ?_
 refine s_op k_mv ?_
 refine s_op k_mv ?_
 refine s_op k_nc ?_
 refine s_op k_fa ?_
 refine s_op (k_ld (by exact a_loadf (v := .nils) rfl (by decide) rfl)) ?_
 refine s_op k_len ?_
 refine s_op k_lss ?_
 refine s_nil trivial ?_
 refine n_wp ?_
 refine w_F rfl ?_ 
 refine w_exit ?_
 refine x_thn ?_
 refine x_thn ?_
 refine x_eq ?_
 exact d_ret hP hn hE [] (ret_none Tryz.results66)

theorem lookNum_0 : Con Tryz.prog 81 [.s (.fptr 16 (fun k => if k = 4 then SV.nils else SV.junk) 0 0)] [] (.s (.bool true)) [] := by
 refine con_in 64 Tryz.func81 rfl rfl (m := 0) rfl ?_
 intro E hP hn hE
 refine w_seq ?_
 refine g_reg hP hn ?_
 refine s_op k_as ?_
 refine s_nil trivial ?_
 refine n_wp ?_
 refine w_seq ?_
 refine w_seq ?_
 refine g_reg hP hn ?_
 refine s_op k_as ?_
 refine s_nil trivial ?_
 refine n_wp ?_
 refine w_block ?_
 refine c_loop (fun m_ T H => T = [(0, .s (.fptr 16 (fun k => if k = 4 then SV.nils else SV.junk) 0 0)), (3, .s (.int .i64 ((0 : Nat) : Int)))] ∧ H = []) (0) ⟨rfl, rfl⟩ (wk hE []) ?_
 rintro n_ T_ H_ ⟨rfl, rfl⟩
 refine w_seq ?_
 refine w_seq ?_
 refine g_reg hP hn ?_
 refine s_op k_mv ?_
 refine s_op k_mv ?_
 refine s_op k_nc ?_
 refine s_op k_fa ?_
 refine s_op (k_ld (by exact a_loadf (v := .nils) rfl (by decide) rfl)) ?_
 refine s_op k_len ?_
 refine s_op k_lss ?_
 refine s_nil trivial ?_
 refine n_wp ?_
 refine w_F rfl ?_ 
 refine w_exit ?_
 refine x_thn ?_
 refine x_thn ?_
 refine x_eq ?_
 refine n_wp ?_
 refine w_seq ?_
 refine g_reg hP hn ?_
 refine s_op k_as ?_
 refine s_nil trivial ?_
 refine n_wp ?_
 refine w_ret ?_
 exact d_ret hP hn hE [] (by first | exact r_tmp Tryz.results81 | exact r_tmpa Tryz.results81)

theorem fillSum_0 : Con Tryz.prog 52 [.s (.fptr 16 (fun k => if k = 5 then SV.nils else SV.junk) 0 0)] [] (.tup []) [] := by
 refine con_in 35 Tryz.func52 rfl rfl (m := 0) rfl ?_
 intro E hP hn hE
 refine w_seq ?_
 refine g_reg hP hn ?_
 refine s_op k_as ?_
 refine s_nil trivial ?_
 refine n_wp ?_
 refine w_block ?_
 refine c_loop (fun m_ T H => T = [(0, .s (.fptr 16 (fun k => if k = 5 then SV.nils else SV.junk) 0 0)), (2, .s (.int .i64 ((0 : Nat) : Int)))] ∧ H = []) (0) ⟨rfl, rfl⟩ (wk hE []) ?_
 rintro n_ T_ H_ ⟨rfl, rfl⟩
 refine w_seq ?_
 refine w_seq ?_
 refine g_reg hP hn ?_
 refine s_op k_mv ?_
 refine s_op k_mv ?_
 refine s_op k_nc ?_
 refine s_op k_fa ?_
 refine s_op (k_ld (by exact a_loadf (v := .nils) rfl (by decide) rfl)) ?_
 refine s_op k_len ?_
 refine s_op k_lss ?_
 refine s_nil trivial ?_
 refine n_wp ?_
 refine w_F rfl ?_ 
 refine w_exit ?_
 refine x_thn ?_
 refine x_thn ?_
 refine x_eq ?_
 exact d_ret hP hn hE [] (ret_none Tryz.results52)

theorem growSum_0 : Con Tryz.prog 67 [.s (.fptr 16 (fun k => if k = 5 then SV.nils else SV.junk) 0 0)] [] (.tup []) [] := by
 refine con_in 42 Tryz.func67 rfl rfl (m := 0) rfl ?_
 intro E hP hn hE
 refine w_seq ?_
 refine g_reg hP hn ?_
 refine s_op k_as ?_
 refine s_nil trivial ?_
 refine n_wp ?_
 refine w_block ?_
 refine c_loop (fun m_ T H => T = [(0, .s (.fptr 16 (fun k => if k = 5 then SV.nils else SV.junk) 0 0)), (2, .s (.int .i64 ((0 : Nat) : Int)))] ∧ H = []) (0) ⟨rfl, rfl⟩ (wk hE []) ?_
 rintro n_ T_ H_ ⟨rfl, rfl⟩
 refine w_seq ?_
 refine w_seq ?_
 refine g_reg hP hn ?_
 refine s_op k_mv ?_
 refine s_op k_mv ?_
 refine s_op k_nc ?_
 refine s_op k_fa ?_
 refine s_op (k_ld (by exact a_loadf (v := .nils) rfl (by decide) rfl)) ?_
 refine s_op k_len ?_
 refine s_op k_lss ?_
 refine s_nil trivial ?_
 refine n_wp ?_
 refine w_F rfl ?_ 
 refine w_exit ?_
 refine x_thn ?_
 refine x_thn ?_
 refine x_eq ?_
 exact d_ret hP hn hE [] (ret_none Tryz.results67)

theorem lookSum_0 : Con Tryz.prog 82 [.s (.fptr 16 (fun k => if k = 5 then SV.nils else SV.junk) 0 0)] [] (.s (.bool true)) [] := by
 refine con_in 64 Tryz.func82 rfl rfl (m := 0) rfl ?_
 intro E hP hn hE
 refine w_seq ?_
 refine g_reg hP hn ?_
 refine s_op k_as ?_
 refine s_nil trivial ?_
 refine n_wp ?_
 refine w_seq ?_
 refine w_seq ?_
 refine g_reg hP hn ?_
 refine s_op k_as ?_
 refine s_nil trivial ?_
 refine n_wp ?_
 refine w_block ?_
 refine c_loop (fun m_ T H => T = [(0, .s (.fptr 16 (fun k => if k = 5 then SV.nils else SV.junk) 0 0)), (3, .s (.int .i64 ((0 : Nat) : Int)))] ∧ H = []) (0) ⟨rfl, rfl⟩ (wk hE []) ?_
 rintro n_ T_ H_ ⟨rfl, rfl⟩
 refine w_seq ?_
 refine w_seq ?_
 refine g_reg hP hn ?_
 refine s_op k_mv ?_
 refine s_op k_mv ?_
 refine s_op k_nc ?_
 refine s_op k_fa ?_
 refine s_op (k_ld (by exact a_loadf (v := .nils) rfl (by decide) rfl)) ?_
 refine s_op k_len ?_
 refine s_op k_lss ?_
 refine s_nil trivial ?_
 refine n_wp ?_
 refine w_F rfl ?_ 
 refine w_exit ?_
 refine x_thn ?_
 refine x_thn ?_
 refine x_eq ?_
 refine n_wp ?_
 refine w_seq ?_
 refine g_reg hP hn ?_
 refine s_op k_as ?_
 refine s_nil trivial ?_
 refine n_wp ?_
 refine w_ret ?_
 exact d_ret hP hn hE [] (by first | exact r_tmp Tryz.results82 | exact r_tmpa Tryz.results82)

theorem fillTag_0 : Con Tryz.prog 53 [.s (.fptr 16 (fun k => if k = 6 then SV.nils else SV.junk) 0 0)] [] (.tup []) [] := by
 refine con_in 35 Tryz.func53 rfl rfl (m := 0) rfl ?_
 intro E hP hn hE
 refine w_seq ?_
 refine g_reg hP hn ?_
 refine s_op k_as ?_
 refine s_nil trivial ?_
 refine n_wp ?_
 refine w_block ?_
 refine c_loop (fun m_ T H => T = [(0, .s (.fptr 16 (fun k => if k = 6 then SV.nils else SV.junk) 0 0)), (2, .s (.int .i64 ((0 : Nat) : Int)))] ∧ H = []) (0) ⟨rfl, rfl⟩ (wk hE []) ?_
 rintro n_ T_ H_ ⟨rfl, rfl⟩
 refine w_seq ?_
 refine w_seq ?_
 refine g_reg hP hn ?_
 refine s_op k_mv ?_
 refine s_op k_mv ?_
 refine s_op k_nc ?_
 refine s_op k_fa ?_
 refine s_op (k_ld (by exact a_loadf (v := .nils) rfl (by decide) rfl)) ?_
 refine s_op k_len ?_
 refine s_op k_lss ?_
 refine s_nil trivial ?_
 refine n_wp ?_
 refine w_F rfl ?_ 
 refine w_exit ?_
 refine x_thn ?_
 refine x_thn ?_
 refine x_eq ?_
 exact d_ret hP hn hE [] (ret_none Tryz.results53)

theorem growTag_0 : Con Tryz.prog 68 [.s (.fptr 16 (fun k => if k = 6 then SV.nils else SV.junk) 0 0)] [] (.tup []) [] := by
 refine con_in 42 Tryz.func68 rfl rfl (m := 0) rfl ?_
 intro E hP hn hE
 refine w_seq ?_
 refine g_reg hP hn ?_
 refine s_op k_as ?_
 refine s_nil trivial ?_
 refine n_wp ?_
 refine w_block ?_
 refine c_loop (fun m_ T H => T = [(0, .s (.fptr 16 (fun k => if k = 6 then SV.nils else SV.junk) 0 0)), (2, .s (.int .i64 ((0 : Nat) : Int)))] ∧ H = []) (0) ⟨rfl, rfl⟩ (wk hE []) ?_
 rintro n_ T_ H_ ⟨rfl, rfl⟩
 refine w_seq ?_
 refine w_seq ?_
 refine g_reg hP hn ?_
 refine s_op k_mv ?_
 refine s_op k_mv ?_
 refine s_op k_nc ?_
 refine s_op k_fa ?_
 refine s_op (k_ld (by exact a_loadf (v := .nils) rfl (by decide) rfl)) ?_
 refine s_op k_len ?_
 refine s_op k_lss ?_
 refine s_nil trivial ?_
 refine n_wp ?_
 refine w_F rfl ?_ 
 refine w_exit ?_
 refine x_thn ?_
 refine x_thn ?_
 refine x_eq ?_
 exact d_ret hP hn hE [] (ret_none Tryz.results68)

theorem lookTag_0 : Con Tryz.prog 83 [.s (.fptr 16 (fun k => if k = 6 then SV.nils else SV.junk) 0 0)] [] (.s (.bool true)) [] := by
 refine con_in 64 Tryz.func83 rfl rfl (m := 0) rfl ?_
 intro E hP hn hE
 refine w_seq ?_
 refine g_reg hP hn ?_
 refine s_op k_as ?_
 refine s_nil trivial ?_
 refine n_wp ?_
 refine w_seq ?_
 refine w_seq ?_
 refine g_reg hP hn ?_
 refine s_op k_as ?_
 refine s_nil trivial ?_
 refine n_wp ?_
 refine w_block ?_
 refine c_loop (fun m_ T H => T = [(0, .s (.fptr 16 (fun k => if k = 6 then SV.nils else SV.junk) 0 0)), (3, .s (.int .i64 ((0 : Nat) : Int)))] ∧ H = []) (0) ⟨rfl, rfl⟩ (wk hE []) ?_
 rintro n_ T_ H_ ⟨rfl, rfl⟩
 refine w_seq ?_
 refine w_seq ?_
 refine g_reg hP hn ?_
 refine s_op k_mv ?_
 refine s_op k_mv ?_
 refine s_op k_nc ?_
 refine s_op k_fa ?_
 refine s_op (k_ld (by exact a_loadf (v := .nils) rfl (by decide) rfl)) ?_
 refine s_op k_len ?_
 refine s_op k_lss ?_
 refine s_nil trivial ?_
 refine n_wp ?_
 refine w_F rfl ?_ 
 refine w_exit ?_
 refine x_thn ?_
 refine x_thn ?_
 refine x_eq ?_
 refine n_wp ?_
 refine w_seq ?_
 refine g_reg hP hn ?_
 refine s_op k_as ?_
 refine s_nil trivial ?_
 refine n_wp ?_
 refine w_ret ?_
 exact d_ret hP hn hE [] (by first | exact r_tmp Tryz.results83 | exact r_tmpa Tryz.results83)

theorem fillSpot_0 : Con Tryz.prog 54 [.s (.fptr 16 (fun k => if k = 7 then SV.nils else SV.junk) 0 0)] [] (.tup []) [] := by
 refine con_in 35 Tryz.func54 rfl rfl (m := 0) rfl ?_
 intro E hP hn hE
 refine w_seq ?_
 refine g_reg hP hn ?_
 refine s_op k_as ?_
 refine s_nil trivial ?_
 refine n_wp ?_
 refine w_block ?_
 refine c_loop (fun m_ T H => T = [(0, .s (.fptr 16 (fun k => if k = 7 then SV.nils else SV.junk) 0 0)), (2, .s (.int .i64 ((0 : Nat) : Int)))] ∧ H = []) (0) ⟨rfl, rfl⟩ (wk hE []) ?_
 rintro n_ T_ H_ ⟨rfl, rfl⟩
 refine w_seq ?_
 refine w_seq ?_
 refine g_reg hP hn ?_
 refine s_op k_mv ?_
 refine s_op k_mv ?_
 refine s_op k_nc ?_
 refine s_op k_fa ?_
 refine s_op (k_ld (by exact a_loadf (v := .nils) rfl (by decide) rfl)) ?_
 refine s_op k_len ?_
 refine s_op k_lss ?_
 refine s_nil trivial ?_
 refine n_wp ?_
 refine w_F rfl ?_ 
 refine w_exit ?_
 refine x_thn ?_
 refine x_thn ?_
 refine x_eq ?_
 exact d_ret hP hn hE [] (ret_none Tryz.results54)

theorem growSpot_0 : Con Tryz.prog 69 [.s (.fptr 16 (fun k => if k = 7 then SV.nils else SV.junk) 0 0)] [] (.tup []) [] := by
 refine con_in 42 Tryz.func69 rfl rfl (m := 0) rfl ?_
 intro E hP hn hE
 refine w_seq ?_
 refine g_reg hP hn ?_
 refine s_op k_as ?_
 refine s_nil trivial ?_
 refine n_wp ?_
 refine w_block ?_
 refine c_loop (fun m_ T H => T = [(0, .s (.fptr 16 (fun k => if k = 7 then SV.nils else SV.junk) 0 0)), (2, .s (.int .i64 ((0 : Nat) : Int)))] ∧ H = []) (0) ⟨rfl, rfl⟩ (wk hE []) ?_
 rintro n_ T_ H_ ⟨rfl, rfl⟩
 refine w_seq ?_
 refine w_seq ?_
 refine g_reg hP hn ?_
 refine s_op k_mv ?_
 refine s_op k_mv ?_
 refine s_op k_nc ?_
 refine s_op k_fa ?_
 refine s_op (k_ld (by exact a_loadf (v := .nils) rfl (by decide) rfl)) ?_
 refine s_op k_len ?_
 refine s_op k_lss ?_
 refine s_nil trivial ?_
 refine n_wp ?_
 refine w_F rfl ?_ 
 refine w_exit ?_
 refine x_thn ?_
 refine x_thn ?_
 refine x_eq ?_
 exact d_ret hP hn hE [] (ret_none Tryz.results69)

theorem lookSpot_0 : Con Tryz.prog 84 [.s (.fptr 16 (fun k => if k = 7 then SV.nils else SV.junk) 0 0)] [] (.s (.bool true)) [] := by
 refine con_in 64 Tryz.func84 rfl rfl (m := 0) rfl ?_
 intro E hP hn hE
 refine w_seq ?_
 refine g_reg hP hn ?_
 refine s_op k_as ?_
 refine s_nil trivial ?_
 refine n_wp ?_
 refine w_seq ?_
 refine w_seq ?_
 refine g_reg hP hn ?_
 refine s_op k_as ?_
 refine s_nil trivial ?_
 refine n_wp ?_
 refine w_block ?_
 refine c_loop (fun m_ T H => T = [(0, .s (.fptr 16 (fun k => if k = 7 then SV.nils else SV.junk) 0 0)), (3, .s (.int .i64 ((0 : Nat) : Int)))] ∧ H = []) (0) ⟨rfl, rfl⟩ (wk hE []) ?_
 rintro n_ T_ H_ ⟨rfl, rfl⟩
 refine w_seq ?_
 refine w_seq ?_
 refine g_reg hP hn ?_
 refine s_op k_mv ?_
 refine s_op k_mv ?_
 refine s_op k_nc ?_
 refine s_op k_fa ?_
 refine s_op (k_ld (by exact a_loadf (v := .nils) rfl (by decide) rfl)) ?_
 refine s_op k_len ?_
 refine s_op k_lss ?_
 refine s_nil trivial ?_
 refine n_wp ?_
 refine w_F rfl ?_ 
 refine w_exit ?_
 refine x_thn ?_
 refine x_thn ?_
 refine x_eq ?_
 refine n_wp ?_
 refine w_seq ?_
 refine g_reg hP hn ?_
 refine s_op k_as ?_
 refine s_nil trivial ?_
 refine n_wp ?_
 refine w_ret ?_
 exact d_ret hP hn hE [] (by first | exact r_tmp Tryz.results84 | exact r_tmpa Tryz.results84)

theorem fillGen_0 : Con Tryz.prog 55 [.s (.fptr 16 (fun k => if k = 8 then SV.nils else SV.junk) 0 0)] [] (.tup []) [] := by
 refine con_in 35 Tryz.func55 rfl rfl (m := 0) rfl ?_
 intro E hP hn hE
 refine w_seq ?_
 refine g_reg hP hn ?_
 refine s_op k_as ?_
 refine s_nil trivial ?_
 refine n_wp ?_
 refine w_block ?_
 refine c_loop (fun m_ T H => T = [(0, .s (.fptr 16 (fun k => if k = 8 then SV.nils else SV.junk) 0 0)), (2, .s (.int .i64 ((0 : Nat) : Int)))] ∧ H = []) (0) ⟨rfl, rfl⟩ (wk hE []) ?_
 rintro n_ T_ H_ ⟨rfl, rfl⟩
 refine w_seq ?_
 refine w_seq ?_
 refine g_reg hP hn ?_
 refine s_op k_mv ?_
 refine s_op k_mv ?_
 refine s_op k_nc ?_
 refine s_op k_fa ?_
 refine s_op (k_ld (by exact a_loadf (v := .nils) rfl (by decide) rfl)) ?_
 refine s_op k_len ?_
 refine s_op k_lss ?_
 refine s_nil trivial ?_
 refine n_wp ?_
 refine w_F rfl ?_ 
 refine w_exit ?_
 refine x_thn ?_
 refine x_thn ?_
 refine x_eq ?_
 exact d_ret hP hn hE [] (ret_none Tryz.results55)

theorem growGen_0 : Con Tryz.prog 70 [.s (.fptr 16 (fun k => if k = 8 then SV.nils else SV.junk) 0 0)] [] (.tup []) [] := by
 refine con_in 42 Tryz.func70 rfl rfl (m := 0) rfl ?_
 intro E hP hn hE
 refine w_seq ?_
 refine g_reg hP hn ?_
 refine s_op k_as ?_
 refine s_nil trivial ?_
 refine n_wp ?_
 refine w_block ?_
 refine c_loop (fun m_ T H => T = [(0, .s (.fptr 16 (fun k => if k = 8 then SV.nils else SV.junk) 0 0)), (2, .s (.int .i64 ((0 : Nat) : Int)))] ∧ H = []) (0) ⟨rfl, rfl⟩ (wk hE []) ?_
 rintro n_ T_ H_ ⟨rfl, rfl⟩
 refine w_seq ?_
 refine w_seq ?_
 refine g_reg hP hn ?_
 refine s_op k_mv ?_
 refine s_op k_mv ?_
 refine s_op k_nc ?_
 refine s_op k_fa ?_
 refine s_op (k_ld (by exact a_loadf (v := .nils) rfl (by decide) rfl)) ?_
 refine s_op k_len ?_
 refine s_op k_lss ?_
 refine s_nil trivial ?_
 refine n_wp ?_
 refine w_F rfl ?_ 
 refine w_exit ?_
 refine x_thn ?_
 refine x_thn ?_
 refine x_eq ?_
 exact d_ret hP hn hE [] (ret_none Tryz.results70)

theorem lookGen_0 : Con Tryz.prog 85 [.s (.fptr 16 (fun k => if k = 8 then SV.nils else SV.junk) 0 0)] [] (.s (.bool true)) [] := by
 refine con_in 64 Tryz.func85 rfl rfl (m := 0) rfl ?_
 intro E hP hn hE
 refine w_seq ?_
 refine g_reg hP hn ?_
 refine s_op k_as ?_
 refine s_nil trivial ?_
 refine n_wp ?_
 refine w_seq ?_
 refine w_seq ?_
 refine g_reg hP hn ?_
 refine s_op k_as ?_
 refine s_nil trivial ?_
 refine n_wp ?_
 refine w_block ?_
 refine c_loop (fun m_ T H => T = [(0, .s (.fptr 16 (fun k => if k = 8 then SV.nils else SV.junk) 0 0)), (3, .s (.int .i64 ((0 : Nat) : Int)))] ∧ H = []) (0) ⟨rfl, rfl⟩ (wk hE []) ?_
 rintro n_ T_ H_ ⟨rfl, rfl⟩
 refine w_seq ?_
 refine w_seq ?_
 refine g_reg hP hn ?_
 refine s_op k_mv ?_
 refine s_op k_mv ?_
 refine s_op k_nc ?_
 refine s_op k_fa ?_
 refine s_op (k_ld (by exact a_loadf (v := .nils) rfl (by decide) rfl)) ?_
 refine s_op k_len ?_
 refine s_op k_lss ?_
 refine s_nil trivial ?_
 refine n_wp ?_
 refine w_F rfl ?_ 
 refine w_exit ?_
 refine x_thn ?_
 refine x_thn ?_
 refine x_eq ?_
 refine n_wp ?_
 refine w_seq ?_
 refine g_reg hP hn ?_
 refine s_op k_as ?_
 refine s_nil trivial ?_
 refine n_wp ?_
 refine w_ret ?_
 exact d_ret hP hn hE [] (by first | exact r_tmp Tryz.results85 | exact r_tmpa Tryz.results85)

theorem fillLane_0 : Con Tryz.prog 56 [.s (.fptr 16 (fun k => if k = 9 then SV.nils else SV.junk) 0 0)] [] (.tup []) [] := by
 refine con_in 35 Tryz.func56 rfl rfl (m := 0) rfl ?_
 intro E hP hn hE
 refine w_seq ?_
 refine g_reg hP hn ?_
 refine s_op k_as ?_
 refine s_nil trivial ?_
 refine n_wp ?_
 refine w_block ?_
 refine c_loop (fun m_ T H => T = [(0, .s (.fptr 16 (fun k => if k = 9 then SV.nils else SV.junk) 0 0)), (2, .s (.int .i64 ((0 : Nat) : Int)))] ∧ H = []) (0) ⟨rfl, rfl⟩ (wk hE []) ?_
 rintro n_ T_ H_ ⟨rfl, rfl⟩
 refine w_seq ?_
 refine w_seq ?_
 refine g_reg hP hn ?_
 refine s_op k_mv ?_
 refine s_op k_mv ?_
 refine s_op k_nc ?_
 refine s_op k_fa ?_
 refine s_op (k_ld (by exact a_loadf (v := .nils) rfl (by decide) rfl)) ?_
 refine s_op k_len ?_
 refine s_op k_lss ?_
 refine s_nil trivial ?_
 refine n_wp ?_
 refine w_F rfl ?_ 
 refine w_exit ?_
 refine x_thn ?_
 refine x_thn ?_
 refine x_eq ?_
 exact d_ret hP hn hE [] (ret_none Tryz.results56)

theorem growLane_0 : Con Tryz.prog 71 [.s (.fptr 16 (fun k => if k = 9 then SV.nils else SV.junk) 0 0)] [] (.tup []) [] := by
 refine con_in 42 Tryz.func71 rfl rfl (m := 0) rfl ?_
 intro E hP hn hE
 refine w_seq ?_
 refine g_reg hP hn ?_
 refine s_op k_as ?_
 refine s_nil trivial ?_
 refine n_wp ?_
 refine w_block ?_
 refine c_loop (fun m_ T H => T = [(0, .s (.fptr 16 (fun k => if k = 9 then SV.nils else SV.junk) 0 0)), (2, .s (.int .i64 ((0 : Nat) : Int)))] ∧ H = []) (0) ⟨rfl, rfl⟩ (wk hE []) ?_
 rintro n_ T_ H_ ⟨rfl, rfl⟩
 refine w_seq ?_
 refine w_seq ?_
 refine g_reg hP hn ?_
 refine s_op k_mv ?_
 refine s_op k_mv ?_
 refine s_op k_nc ?_
 refine s_op k_fa ?_
 refine s_op (k_ld (by exact a_loadf (v := .nils) rfl (by decide) rfl)) ?_
 refine s_op k_len ?_
 refine s_op k_lss ?_
 refine s_nil trivial ?_
 refine n_wp ?_
 refine w_F rfl ?_ 
 refine w_exit ?_
 refine x_thn ?_
 refine x_thn ?_
 refine x_eq ?_
 exact d_ret hP hn hE [] (ret_none Tryz.results71)

theorem lookLane_0 : Con Tryz.prog 86 [.s (.fptr 16 (fun k => if k = 9 then SV.nils else SV.junk) 0 0)] [] (.s (.bool true)) [] := by
 refine con_in 64 Tryz.func86 rfl rfl (m := 0) rfl ?_
 intro E hP hn hE
 refine w_seq ?_
 refine g_reg hP hn ?_
 refine s_op k_as ?_
 refine s_nil trivial ?_
 refine n_wp ?_
 refine w_seq ?_
 refine w_seq ?_
 refine g_reg hP hn ?_
 refine s_op k_as ?_
 refine s_nil trivial ?_
 refine n_wp ?_
 refine w_block ?_
 refine c_loop (fun m_ T H => T = [(0, .s (.fptr 16 (fun k => if k = 9 then SV.nils else SV.junk) 0 0)), (3, .s (.int .i64 ((0 : Nat) : Int)))] ∧ H = []) (0) ⟨rfl, rfl⟩ (wk hE []) ?_
 rintro n_ T_ H_ ⟨rfl, rfl⟩
 refine w_seq ?_
 refine w_seq ?_
 refine g_reg hP hn ?_
 refine s_op k_mv ?_
 refine s_op k_mv ?_
 refine s_op k_nc ?_
 refine s_op k_fa ?_
 refine s_op (k_ld (by exact a_loadf (v := .nils) rfl (by decide) rfl)) ?_
 refine s_op k_len ?_
 refine s_op k_lss ?_
 refine s_nil trivial ?_
 refine n_wp ?_
 refine w_F rfl ?_ 
 refine w_exit ?_
 refine x_thn ?_
 refine x_thn ?_
 refine x_eq ?_
 refine n_wp ?_
 refine w_seq ?_
 refine g_reg hP hn ?_
 refine s_op k_as ?_
 refine s_nil trivial ?_
 refine n_wp ?_
 refine w_ret ?_
 exact d_ret hP hn hE [] (by first | exact r_tmp Tryz.results86 | exact r_tmpa Tryz.results86)

theorem fillParam_0 : Con Tryz.prog 57 [.s (.fptr 16 (fun k => if k = 10 then SV.nils else SV.junk) 0 0)] [] (.tup []) [] := by
 refine con_in 35 Tryz.func57 rfl rfl (m := 0) rfl ?_
 intro E hP hn hE
 refine w_seq ?_
 refine g_reg hP hn ?_
 refine s_op k_as ?_
 refine s_nil trivial ?_
 refine n_wp ?_
 refine w_block ?_
 refine c_loop (fun m_ T H => T = [(0, .s (.fptr 16 (fun k => if k = 10 then SV.nils else SV.junk) 0 0)), (2, .s (.int .i64 ((0 : Nat) : Int)))] ∧ H = []) (0) ⟨rfl, rfl⟩ (wk hE []) ?_
 rintro n_ T_ H_ ⟨rfl, rfl⟩
 refine w_seq ?_
 refine w_seq ?_
 refine g_reg hP hn ?_
 refine s_op k_mv ?_
 refine s_op k_mv ?_
 refine s_op k_nc ?_
 refine s_op k_fa ?_
 refine s_op (k_ld (by exact a_loadf (v := .nils) rfl (by decide) rfl)) ?_
 refine s_op k_len ?_
 refine s_op k_lss ?_
 refine s_nil trivial ?_
 refine n_wp ?_
 refine w_F rfl ?_ 
 refine w_exit ?_
 refine x_thn ?_
 refine x_thn ?_
 refine x_eq ?_
 exact d_ret hP hn hE [] (ret_none Tryz.results57)

theorem growParam_0 : Con Tryz.prog 72 [.s (.fptr 16 (fun k => if k = 10 then SV.nils else SV.junk) 0 0)] [] (.tup []) [] := by
 refine con_in 42 Tryz.func72 rfl rfl (m := 0) rfl ?_
 intro E hP hn hE
 refine w_seq ?_
 refine g_reg hP hn ?_
 refine s_op k_as ?_
 refine s_nil trivial ?_
 refine n_wp ?_
 refine w_block ?_
 refine c_loop (fun m_ T H => T = [(0, .s (.fptr 16 (fun k => if k = 10 then SV.nils else SV.junk) 0 0)), (2, .s (.int .i64 ((0 : Nat) : Int)))] ∧ H = []) (0) ⟨rfl, rfl⟩ (wk hE []) ?_
 rintro n_ T_ H_ ⟨rfl, rfl⟩
 refine w_seq ?_
 refine w_seq ?_
 refine g_reg hP hn ?_
 refine s_op k_mv ?_
 refine s_op k_mv ?_
 refine s_op k_nc ?_
 refine s_op k_fa ?_
 refine s_op (k_ld (by exact a_loadf (v := .nils) rfl (by decide) rfl)) ?_
 refine s_op k_len ?_
 refine s_op k_lss ?_
 refine s_nil trivial ?_
 refine n_wp ?_
 refine w_F rfl ?_ 
 refine w_exit ?_
 refine x_thn ?_
 refine x_thn ?_
 refine x_eq ?_
 exact d_ret hP hn hE [] (ret_none Tryz.results72)

theorem lookParam_0 : Con Tryz.prog 87 [.s (.fptr 16 (fun k => if k = 10 then SV.nils else SV.junk) 0 0)] [] (.s (.bool true)) [] := by
 refine con_in 64 Tryz.func87 rfl rfl (m := 0) rfl ?_
 intro E hP hn hE
 refine w_seq ?_
 refine g_reg hP hn ?_
 refine s_op k_as ?_
 refine s_nil trivial ?_
 refine n_wp ?_
 refine w_seq ?_
 refine w_seq ?_
 refine g_reg hP hn ?_
 refine s_op k_as ?_
 refine s_nil trivial ?_
 refine n_wp ?_
 refine w_block ?_
 refine c_loop (fun m_ T H => T = [(0, .s (.fptr 16 (fun k => if k = 10 then SV.nils else SV.junk) 0 0)), (3, .s (.int .i64 ((0 : Nat) : Int)))] ∧ H = []) (0) ⟨rfl, rfl⟩ (wk hE []) ?_
 rintro n_ T_ H_ ⟨rfl, rfl⟩
 refine w_seq ?_
 refine w_seq ?_
 refine g_reg hP hn ?_
 refine s_op k_mv ?_
 refine s_op k_mv ?_
 refine s_op k_nc ?_
 refine s_op k_fa ?_
 refine s_op (k_ld (by exact a_loadf (v := .nils) rfl (by decide) rfl)) ?_
 refine s_op k_len ?_
 refine s_op k_lss ?_
 refine s_nil trivial ?_
 refine n_wp ?_
 refine w_F rfl ?_ 
 refine w_exit ?_
 refine x_thn ?_
 refine x_thn ?_
 refine x_eq ?_
 refine n_wp ?_
 refine w_seq ?_
 refine g_reg hP hn ?_
 refine s_op k_as ?_
 refine s_nil trivial ?_
 refine n_wp ?_
 refine w_ret ?_
 exact d_ret hP hn hE [] (by first | exact r_tmp Tryz.results87 | exact r_tmpa Tryz.results87)

theorem fillPacket_0 : Con Tryz.prog 58 [.s (.fptr 16 (fun k => if k = 11 then SV.nils else SV.junk) 0 0)] [] (.tup []) [] := by
 refine con_in 35 Tryz.func58 rfl rfl (m := 0) rfl ?_
 intro E hP hn hE
 refine w_seq ?_
 refine g_reg hP hn ?_
 refine s_op k_as ?_
 refine s_nil trivial ?_
 refine n_wp ?_
 refine w_block ?_
 refine c_loop (fun m_ T H => T = [(0, .s (.fptr 16 (fun k => if k = 11 then SV.nils else SV.junk) 0 0)), (2, .s (.int .i64 ((0 : Nat) : Int)))] ∧ H = []) (0) ⟨rfl, rfl⟩ (wk hE []) ?_
 rintro n_ T_ H_ ⟨rfl, rfl⟩
 refine w_seq ?_
 refine w_seq ?_
 refine g_reg hP hn ?_
 refine s_op k_mv ?_
 refine s_op k_mv ?_
 refine s_op k_nc ?_
 refine s_op k_fa ?_
 refine s_op (k_ld (by exact a_loadf (v := .nils) rfl (by decide) rfl)) ?_
 refine s_op k_len ?_
 refine s_op k_lss ?_
 refine s_nil trivial ?_
 refine n_wp ?_
 refine w_F rfl ?_ 
 refine w_exit ?_
 refine x_thn ?_
 refine x_thn ?_
 refine x_eq ?_
 exact d_ret hP hn hE [] (ret_none Tryz.results58)

theorem growPacket_0 : Con Tryz.prog 73 [.s (.fptr 16 (fun k => if k = 11 then SV.nils else SV.junk) 0 0)] [] (.tup []) [] := by
 refine con_in 42 Tryz.func73 rfl rfl (m := 0) rfl ?_
 intro E hP hn hE
 refine w_seq ?_
 refine g_reg hP hn ?_
 refine s_op k_as ?_
 refine s_nil trivial ?_
 refine n_wp ?_
 refine w_block ?_
 refine c_loop (fun m_ T H => T = [(0, .s (.fptr 16 (fun k => if k = 11 then SV.nils else SV.junk) 0 0)), (2, .s (.int .i64 ((0 : Nat) : Int)))] ∧ H = []) (0) ⟨rfl, rfl⟩ (wk hE []) ?_
 rintro n_ T_ H_ ⟨rfl, rfl⟩
 refine w_seq ?_
 refine w_seq ?_
 refine g_reg hP hn ?_
 refine s_op k_mv ?_
 refine s_op k_mv ?_
 refine s_op k_nc ?_
 refine s_op k_fa ?_
 refine s_op (k_ld (by exact a_loadf (v := .nils) rfl (by decide) rfl)) ?_
 refine s_op k_len ?_
 refine s_op k_lss ?_
 refine s_nil trivial ?_
 refine n_wp ?_
 refine w_F rfl ?_ 
 refine w_exit ?_
 refine x_thn ?_
 refine x_thn ?_
 refine x_eq ?_
 exact d_ret hP hn hE [] (ret_none Tryz.results73)

theorem lookPacket_0 : Con Tryz.prog 88 [.s (.fptr 16 (fun k => if k = 11 then SV.nils else SV.junk) 0 0)] [] (.s (.bool true)) [] := by
 refine con_in 64 Tryz.func88 rfl rfl (m := 0) rfl ?_
 intro E hP hn hE
 refine w_seq ?_
 refine g_reg hP hn ?_
 refine s_op k_as ?_
 refine s_nil trivial ?_
 refine n_wp ?_
 refine w_seq ?_
 refine w_seq ?_
 refine g_reg hP hn ?_
 refine s_op k_as ?_
 refine s_nil trivial ?_
 refine n_wp ?_
 refine w_block ?_
 refine c_loop (fun m_ T H => T = [(0, .s (.fptr 16 (fun k => if k = 11 then SV.nils else SV.junk) 0 0)), (3, .s (.int .i64 ((0 : Nat) : Int)))] ∧ H = []) (0) ⟨rfl, rfl⟩ (wk hE []) ?_
 rintro n_ T_ H_ ⟨rfl, rfl⟩
 refine w_seq ?_
 refine w_seq ?_
 refine g_reg hP hn ?_
 refine s_op k_mv ?_
 refine s_op k_mv ?_
 refine s_op k_nc ?_
 refine s_op k_fa ?_
 refine s_op (k_ld (by exact a_loadf (v := .nils) rfl (by decide) rfl)) ?_
 refine s_op k_len ?_
 refine s_op k_lss ?_
 refine s_nil trivial ?_
 refine n_wp ?_
 refine w_F rfl ?_ 
 refine w_exit ?_
 refine x_thn ?_
 refine x_thn ?_
 refine x_eq ?_
 refine n_wp ?_
 refine w_seq ?_
 refine g_reg hP hn ?_
 refine s_op k_as ?_
 refine s_nil trivial ?_
 refine n_wp ?_
 refine w_ret ?_
 exact d_ret hP hn hE [] (by first | exact r_tmp Tryz.results88 | exact r_tmpa Tryz.results88)

theorem fillFrame_0 : Con Tryz.prog 59 [.s (.fptr 16 (fun k => if k = 12 then SV.nils else SV.junk) 0 0)] [] (.tup []) [] := by
 refine con_in 35 Tryz.func59 rfl rfl (m := 0) rfl ?_
 intro E hP hn hE
 refine w_seq ?_
 refine g_reg hP hn ?_
 refine s_op k_as ?_
 refine s_nil trivial ?_
 refine n_wp ?_
 refine w_block ?_
 refine c_loop (fun m_ T H => T = [(0, .s (.fptr 16 (fun k => if k = 12 then SV.nils else SV.junk) 0 0)), (2, .s (.int .i64 ((0 : Nat) : Int)))] ∧ H = []) (0) ⟨rfl, rfl⟩ (wk hE []) ?_
 rintro n_ T_ H_ ⟨rfl, rfl⟩
 refine w_seq ?_
 refine w_seq ?_
 refine g_reg hP hn ?_
 refine s_op k_mv ?_
 refine s_op k_mv ?_
 refine s_op k_nc ?_
 refine s_op k_fa ?_
 refine s_op (k_ld (by exact a_loadf (v := .nils) rfl (by decide) rfl)) ?_
 refine s_op k_len ?_
 refine s_op k_lss ?_
 refine s_nil trivial ?_
 refine n_wp ?_
 refine w_F rfl ?_ 
 refine w_exit ?_
 refine x_thn ?_
 refine x_thn ?_
 refine x_eq ?_
 exact d_ret hP hn hE [] (ret_none Tryz.results59)

theorem growFrame_0 : Con Tryz.prog 74 [.s (.fptr 16 (fun k => if k = 12 then SV.nils else SV.junk) 0 0)] [] (.tup []) [] := by
 refine con_in 42 Tryz.func74 rfl rfl (m := 0) rfl ?_
 intro E hP hn hE
 refine w_seq ?_
 refine g_reg hP hn ?_
 refine s_op k_as ?_
 refine s_nil trivial ?_
 refine n_wp ?_
 refine w_block ?_
 refine c_loop (fun m_ T H => T = [(0, .s (.fptr 16 (fun k => if k = 12 then SV.nils else SV.junk) 0 0)), (2, .s (.int .i64 ((0 : Nat) : Int)))] ∧ H = []) (0) ⟨rfl, rfl⟩ (wk hE []) ?_
 rintro n_ T_ H_ ⟨rfl, rfl⟩
 refine w_seq ?_
 refine w_seq ?_
 refine g_reg hP hn ?_
 refine s_op k_mv ?_
 refine s_op k_mv ?_
 refine s_op k_nc ?_
 refine s_op k_fa ?_
 refine s_op (k_ld (by exact a_loadf (v := .nils) rfl (by decide) rfl)) ?_
 refine s_op k_len ?_
 refine s_op k_lss ?_
 refine s_nil trivial ?_
 refine n_wp ?_
 refine w_F rfl ?_ 
 refine w_exit ?_
 refine x_thn ?_
 refine x_thn ?_
 refine x_eq ?_
 exact d_ret hP hn hE [] (ret_none Tryz.results74)

theorem lookFrame_0 : Con Tryz.prog 89 [.s (.fptr 16 (fun k => if k = 12 then SV.nils else SV.junk) 0 0)] [] (.s (.bool true)) [] := by
 refine con_in 64 Tryz.func89 rfl rfl (m := 0) rfl ?_
 intro E hP hn hE
 refine w_seq ?_
 refine g_reg hP hn ?_
 refine s_op k_as ?_
 refine s_nil trivial ?_
 refine n_wp ?_
 refine w_seq ?_
 refine w_seq ?_
 refine g_reg hP hn ?_
 refine s_op k_as ?_
 refine s_nil trivial ?_
 refine n_wp ?_
 refine w_block ?_
 refine c_loop (fun m_ T H => T = [(0, .s (.fptr 16 (fun k => if k = 12 then SV.nils else SV.junk) 0 0)), (3, .s (.int .i64 ((0 : Nat) : Int)))] ∧ H = []) (0) ⟨rfl, rfl⟩ (wk hE []) ?_
 rintro n_ T_ H_ ⟨rfl, rfl⟩
 refine w_seq ?_
 refine w_seq ?_
 refine g_reg hP hn ?_
 refine s_op k_mv ?_
 refine s_op k_mv ?_
 refine s_op k_nc ?_
 refine s_op k_fa ?_
 refine s_op (k_ld (by exact a_loadf (v := .nils) rfl (by decide) rfl)) ?_
 refine s_op k_len ?_
 refine s_op k_lss ?_
 refine s_nil trivial ?_
 refine n_wp ?_
 refine w_F rfl ?_ 
 refine w_exit ?_
 refine x_thn ?_
 refine x_thn ?_
 refine x_eq ?_
 refine n_wp ?_
 refine w_seq ?_
 refine g_reg hP hn ?_
 refine s_op k_as ?_
 refine s_nil trivial ?_
 refine n_wp ?_
 refine w_ret ?_
 exact d_ret hP hn hE [] (by first | exact r_tmp Tryz.results89 | exact r_tmpa Tryz.results89)

theorem fillMail_0 : Con Tryz.prog 60 [.s (.fptr 16 (fun k => if k = 13 then SV.nils else SV.junk) 0 0)] [] (.tup []) [] := by
 refine con_in 35 Tryz.func60 rfl rfl (m := 0) rfl ?_
 intro E hP hn hE
 refine w_seq ?_
 refine g_reg hP hn ?_
 refine s_op k_as ?_
 refine s_nil trivial ?_
 refine n_wp ?_
 refine w_block ?_
 refine c_loop (fun m_ T H => T = [(0, .s (.fptr 16 (fun k => if k = 13 then SV.nils else SV.junk) 0 0)), (2, .s (.int .i64 ((0 : Nat) : Int)))] ∧ H = []) (0) ⟨rfl, rfl⟩ (wk hE []) ?_
 rintro n_ T_ H_ ⟨rfl, rfl⟩
 refine w_seq ?_
 refine w_seq ?_
 refine g_reg hP hn ?_
 refine s_op k_mv ?_
 refine s_op k_mv ?_
 refine s_op k_nc ?_
 refine s_op k_fa ?_
 refine s_op (k_ld (by exact a_loadf (v := .nils) rfl (by decide) rfl)) ?_
 refine s_op k_len ?_
 refine s_op k_lss ?_
 refine s_nil trivial ?_
 refine n_wp ?_
 refine w_F rfl ?_ 
 refine w_exit ?_
 refine x_thn ?_
 refine x_thn ?_
 refine x_eq ?_
 exact d_ret hP hn hE [] (ret_none Tryz.results60)

theorem growMail_0 : Con Tryz.prog 75 [.s (.fptr 16 (fun k => if k = 13 then SV.nils else SV.junk) 0 0)] [] (.tup []) [] := by
 refine con_in 42 Tryz.func75 rfl rfl (m := 0) rfl ?_
 intro E hP hn hE
 refine w_seq ?_
 refine g_reg hP hn ?_
 refine s_op k_as ?_
 refine s_nil trivial ?_
 refine n_wp ?_
 refine w_block ?_
 refine c_loop (fun m_ T H => T = [(0, .s (.fptr 16 (fun k => if k = 13 then SV.nils else SV.junk) 0 0)), (2, .s (.int .i64 ((0 : Nat) : Int)))] ∧ H = []) (0) ⟨rfl, rfl⟩ (wk hE []) ?_
 rintro n_ T_ H_ ⟨rfl, rfl⟩
 refine w_seq ?_
 refine w_seq ?_
 refine g_reg hP hn ?_
 refine s_op k_mv ?_
 refine s_op k_mv ?_
 refine s_op k_nc ?_
 refine s_op k_fa ?_
 refine s_op (k_ld (by exact a_loadf (v := .nils) rfl (by decide) rfl)) ?_
 refine s_op k_len ?_
 refine s_op k_lss ?_
 refine s_nil trivial ?_
 refine n_wp ?_
 refine w_F rfl ?_ 
 refine w_exit ?_
 refine x_thn ?_
 refine x_thn ?_
 refine x_eq ?_
 exact d_ret hP hn hE [] (ret_none Tryz.results75)

theorem lookMail_0 : Con Tryz.prog 90 [.s (.fptr 16 (fun k => if k = 13 then SV.nils else SV.junk) 0 0)] [] (.s (.bool true)) [] := by
 refine con_in 64 Tryz.func90 rfl rfl (m := 0) rfl ?_
 intro E hP hn hE
 refine w_seq ?_
 refine g_reg hP hn ?_
 refine s_op k_as ?_
 refine s_nil trivial ?_
 refine n_wp ?_
 refine w_seq ?_
 refine w_seq ?_
 refine g_reg hP hn ?_
 refine s_op k_as ?_
 refine s_nil trivial ?_
 refine n_wp ?_
 refine w_block ?_
 refine c_loop (fun m_ T H => T = [(0, .s (.fptr 16 (fun k => if k = 13 then SV.nils else SV.junk) 0 0)), (3, .s (.int .i64 ((0 : Nat) : Int)))] ∧ H = []) (0) ⟨rfl, rfl⟩ (wk hE []) ?_
 rintro n_ T_ H_ ⟨rfl, rfl⟩
 refine w_seq ?_
 refine w_seq ?_
 refine g_reg hP hn ?_
 refine s_op k_mv ?_
 refine s_op k_mv ?_
 refine s_op k_nc ?_
 refine s_op k_fa ?_
 refine s_op (k_ld (by exact a_loadf (v := .nils) rfl (by decide) rfl)) ?_
 refine s_op k_len ?_
 refine s_op k_lss ?_
 refine s_nil trivial ?_
 refine n_wp ?_
 refine w_F rfl ?_ 
 refine w_exit ?_
 refine x_thn ?_
 refine x_thn ?_
 refine x_eq ?_
 refine n_wp ?_
 refine w_seq ?_
 refine g_reg hP hn ?_
 refine s_op k_as ?_
 refine s_nil trivial ?_
 refine n_wp ?_
 refine w_ret ?_
 exact d_ret hP hn hE [] (by first | exact r_tmp Tryz.results90 | exact r_tmpa Tryz.results90)

theorem fillSession_0 : Con Tryz.prog 61 [.s (.fptr 16 (fun k => if k = 14 then SV.nils else SV.junk) 0 0)] [] (.tup []) [] := by
 refine con_in 35 Tryz.func61 rfl rfl (m := 0) rfl ?_
 intro E hP hn hE
 refine w_seq ?_
 refine g_reg hP hn ?_
 refine s_op k_as ?_
 refine s_nil trivial ?_
 refine n_wp ?_
 refine w_block ?_
 refine c_loop (fun m_ T H => T = [(0, .s (.fptr 16 (fun k => if k = 14 then SV.nils else SV.junk) 0 0)), (2, .s (.int .i64 ((0 : Nat) : Int)))] ∧ H = []) (0) ⟨rfl, rfl⟩ (wk hE []) ?_
 rintro n_ T_ H_ ⟨rfl, rfl⟩
 refine w_seq ?_
 refine w_seq ?_
 refine g_reg hP hn ?_
 refine s_op k_mv ?_
 refine s_op k_mv ?_
 refine s_op k_nc ?_
 refine s_op k_fa ?_
 refine s_op (k_ld (by exact a_loadf (v := .nils) rfl (by decide) rfl)) ?_
 refine s_op k_len ?_
 refine s_op k_lss ?_
 refine s_nil trivial ?_
 refine n_wp ?_
 refine w_F rfl ?_ 
 refine w_exit ?_
 refine x_thn ?_
 refine x_thn ?_
 refine x_eq ?_
 exact d_ret hP hn hE [] (ret_none Tryz.results61)

theorem growSession_0 : Con Tryz.prog 76 [.s (.fptr 16 (fun k => if k = 14 then SV.nils else SV.junk) 0 0)] [] (.tup []) [] := by
 refine con_in 42 Tryz.func76 rfl rfl (m := 0) rfl ?_
 intro E hP hn hE
 refine w_seq ?_
 refine g_reg hP hn ?_
 refine s_op k_as ?_
 refine s_nil trivial ?_
 refine n_wp ?_
 refine w_block ?_
 refine c_loop (fun m_ T H => T = [(0, .s (.fptr 16 (fun k => if k = 14 then SV.nils else SV.junk) 0 0)), (2, .s (.int .i64 ((0 : Nat) : Int)))] ∧ H = []) (0) ⟨rfl, rfl⟩ (wk hE []) ?_
 rintro n_ T_ H_ ⟨rfl, rfl⟩
 refine w_seq ?_
 refine w_seq ?_
 refine g_reg hP hn ?_
 refine s_op k_mv ?_
 refine s_op k_mv ?_
 refine s_op k_nc ?_
 refine s_op k_fa ?_
 refine s_op (k_ld (by exact a_loadf (v := .nils) rfl (by decide) rfl)) ?_
 refine s_op k_len ?_
 refine s_op k_lss ?_
 refine s_nil trivial ?_
 refine n_wp ?_
 refine w_F rfl ?_ 
 refine w_exit ?_
 refine x_thn ?_
 refine x_thn ?_
 refine x_eq ?_
 exact d_ret hP hn hE [] (ret_none Tryz.results76)

theorem lookSession_0 : Con Tryz.prog 91 [.s (.fptr 16 (fun k => if k = 14 then SV.nils else SV.junk) 0 0)] [] (.s (.bool true)) [] := by
 refine con_in 64 Tryz.func91 rfl rfl (m := 0) rfl ?_
 intro E hP hn hE
 refine w_seq ?_
 refine g_reg hP hn ?_
 refine s_op k_as ?_
 refine s_nil trivial ?_
 refine n_wp ?_
 refine w_seq ?_
 refine w_seq ?_
 refine g_reg hP hn ?_
 refine s_op k_as ?_
 refine s_nil trivial ?_
 refine n_wp ?_
 refine w_block ?_
 refine c_loop (fun m_ T H => T = [(0, .s (.fptr 16 (fun k => if k = 14 then SV.nils else SV.junk) 0 0)), (3, .s (.int .i64 ((0 : Nat) : Int)))] ∧ H = []) (0) ⟨rfl, rfl⟩ (wk hE []) ?_
 rintro n_ T_ H_ ⟨rfl, rfl⟩
 refine w_seq ?_
 refine w_seq ?_
 refine g_reg hP hn ?_
 refine s_op k_mv ?_
 refine s_op k_mv ?_
 refine s_op k_nc ?_
 refine s_op k_fa ?_
 refine s_op (k_ld (by exact a_loadf (v := .nils) rfl (by decide) rfl)) ?_
 refine s_op k_len ?_
 refine s_op k_lss ?_
 refine s_nil trivial ?_
 refine n_wp ?_
 refine w_F rfl ?_ 
 refine w_exit ?_
 refine x_thn ?_
 refine x_thn ?_
 refine x_eq ?_
 refine n_wp ?_
 refine w_seq ?_
 refine g_reg hP hn ?_
 refine s_op k_as ?_
 refine s_nil trivial ?_
 refine n_wp ?_
 refine w_ret ?_
 exact d_ret hP hn hE [] (by first | exact r_tmp Tryz.results91 | exact r_tmpa Tryz.results91)

theorem fillRecord_0 : Con Tryz.prog 62 [.s (.fptr 16 (fun k => if k = 15 then SV.nils else SV.junk) 0 0)] [] (.tup []) [] := by
 refine con_in 35 Tryz.func62 rfl rfl (m := 0) rfl ?_
 intro E hP hn hE
 refine w_seq ?_
 refine g_reg hP hn ?_
 refine s_op k_as ?_
 refine s_nil trivial ?_
 refine n_wp ?_
 refine w_block ?_
 refine c_loop (fun m_ T H => T = [(0, .s (.fptr 16 (fun k => if k = 15 then SV.nils else SV.junk) 0 0)), (2, .s (.int .i64 ((0 : Nat) : Int)))] ∧ H = []) (0) ⟨rfl, rfl⟩ (wk hE []) ?_
 rintro n_ T_ H_ ⟨rfl, rfl⟩
 refine w_seq ?_
 refine w_seq ?_
 refine g_reg hP hn ?_
 refine s_op k_mv ?_
 refine s_op k_mv ?_
 refine s_op k_nc ?_
 refine s_op k_fa ?_
 refine s_op (k_ld (by exact a_loadf (v := .nils) rfl (by decide) rfl)) ?_
 refine s_op k_len ?_
 refine s_op k_lss ?_
 refine s_nil trivial ?_
 refine n_wp ?_
 refine w_F rfl ?_ 
 refine w_exit ?_
 refine x_thn ?_
 refine x_thn ?_
 refine x_eq ?_
 exact d_ret hP hn hE [] (ret_none Tryz.results62)

theorem growRecord_0 : Con Tryz.prog 77 [.s (.fptr 16 (fun k => if k = 15 then SV.nils else SV.junk) 0 0)] [] (.tup []) [] := by
 refine con_in 42 Tryz.func77 rfl rfl (m := 0) rfl ?_
 intro E hP hn hE
 refine w_seq ?_
 refine g_reg hP hn ?_
 refine s_op k_as ?_
 refine s_nil trivial ?_
 refine n_wp ?_
 refine w_block ?_
 refine c_loop (fun m_ T H => T = [(0, .s (.fptr 16 (fun k => if k = 15 then SV.nils else SV.junk) 0 0)), (2, .s (.int .i64 ((0 : Nat) : Int)))] ∧ H = []) (0) ⟨rfl, rfl⟩ (wk hE []) ?_
 rintro n_ T_ H_ ⟨rfl, rfl⟩
 refine w_seq ?_
 refine w_seq ?_
 refine g_reg hP hn ?_
 refine s_op k_mv ?_
 refine s_op k_mv ?_
 refine s_op k_nc ?_
 refine s_op k_fa ?_
 refine s_op (k_ld (by exact a_loadf (v := .nils) rfl (by decide) rfl)) ?_
 refine s_op k_len ?_
 refine s_op k_lss ?_
 refine s_nil trivial ?_
 refine n_wp ?_
 refine w_F rfl ?_ 
 refine w_exit ?_
 refine x_thn ?_
 refine x_thn ?_
 refine x_eq ?_
 exact d_ret hP hn hE [] (ret_none Tryz.results77)

theorem lookRecord_0 : Con Tryz.prog 92 [.s (.fptr 16 (fun k => if k = 15 then SV.nils else SV.junk) 0 0)] [] (.s (.bool true)) [] := by
 refine con_in 64 Tryz.func92 rfl rfl (m := 0) rfl ?_
 intro E hP hn hE
 refine w_seq ?_
 refine g_reg hP hn ?_
 refine s_op k_as ?_
 refine s_nil trivial ?_
 refine n_wp ?_
 refine w_seq ?_
 refine w_seq ?_
 refine g_reg hP hn ?_
 refine s_op k_as ?_
 refine s_nil trivial ?_
 refine n_wp ?_
 refine w_block ?_
 refine c_loop (fun m_ T H => T = [(0, .s (.fptr 16 (fun k => if k = 15 then SV.nils else SV.junk) 0 0)), (3, .s (.int .i64 ((0 : Nat) : Int)))] ∧ H = []) (0) ⟨rfl, rfl⟩ (wk hE []) ?_
 rintro n_ T_ H_ ⟨rfl, rfl⟩
 refine w_seq ?_
 refine w_seq ?_
 refine g_reg hP hn ?_
 refine s_op k_mv ?_
 refine s_op k_mv ?_
 refine s_op k_nc ?_
 refine s_op k_fa ?_
 refine s_op (k_ld (by exact a_loadf (v := .nils) rfl (by decide) rfl)) ?_
 refine s_op k_len ?_
 refine s_op k_lss ?_
 refine s_nil trivial ?_
 refine n_wp ?_
 refine w_F rfl ?_ 
 refine w_exit ?_
 refine x_thn ?_
 refine x_thn ?_
 refine x_eq ?_
 refine n_wp ?_
 refine w_seq ?_
 refine g_reg hP hn ?_
 refine s_op k_as ?_
 refine s_nil trivial ?_
 refine n_wp ?_
 refine w_ret ?_
 exact d_ret hP hn hE [] (by first | exact r_tmp Tryz.results92 | exact r_tmpa Tryz.results92)

end Go.Proofs.X
end
