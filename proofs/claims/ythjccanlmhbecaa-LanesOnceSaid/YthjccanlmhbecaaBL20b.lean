/- A part of the proofs of this claim: BL20b (BL20b). No conditions. -/
import Derived.Test.YthjccanlmhbecaaBL20a
set_option linter.unusedVariables false
set_option linter.unusedSimpArgs false
open Go Go.Bx Go.Proofs
namespace Go.Proofs.X
attribute [local irreducible] hmB streamI seal1 sealB ahB be fiB hmO tk laneB numB bodyB gN
set_option maxRecDepth 100000 in
set_option maxHeartbeats 4000000 in
theorem bsize_c (A : List Int) : Con Try.prog 14 [.s (.fzi .u8 A)] [] (.s (.int .i64 ((A.length : Nat) : Int))) [] := by
 refine con_in 5 Try.func14 rfl rfl (m := 0) rfl ?_
 intro E hP hn hE
 refine w_seq ?_
 refine g_reg hP hn ?_
 refine s_op k_as ?_
 refine s_nil trivial ?_
 refine n_wp ?_
 refine w_seq ?_
 refine g_reg hP hn ?_
 refine s_op k_mv ?_
 refine s_op k_len ?_
 refine s_op k_as ?_
 refine s_nil trivial ?_
 refine n_wp ?_
 refine w_ret ?_
 exact d_ret hP hn hE [] (by first | exact r_tmp Try.results14 | exact r_tmpa Try.results14)

set_option maxRecDepth 100000 in
set_option maxHeartbeats 4000000 in
theorem rsize_i (L : List (List Int)) (i0 : Nat) (hi0 : i0 ≤ L.length) (hp : recP L i0) (hmin : ∀ j, j < i0 → ¬ recP L j) (hLb : L.length ≤ 140737488355000) : Con Try.prog 5 [.s (ROWS L)] [] (.s (.int .i64 (recS L i0))) [] := by
 refine con_in 25 Try.func5 rfl rfl (m := 0) rfl ?_
 intro E hP hn hE
 refine w_seq ?_
 refine g_reg hP hn ?_
 refine s_op k_as ?_
 refine s_nil trivial ?_
 refine n_wp ?_
 refine w_seq ?_
 refine g_reg hP hn ?_
 refine s_op k_mv ?_
 refine s_op k_len ?_
 refine s_op k_as ?_
 refine s_nil trivial ?_
 refine n_wp ?_
 refine w_seq ?_
 refine w_seq ?_
 refine g_reg hP hn ?_
 refine s_op k_as ?_
 refine s_nil trivial ?_
 refine n_wp ?_
 refine w_block ?_
 refine c_loop (fun m T H => ∃ i, i ≤ i0 ∧ m = i0 - i ∧ T = [(0, .s (ROWS L)), (3, .s (.int .i64 (recS L i))), (4, .s (.int .i64 ((i : Nat) : Int)))] ∧ H = []) (i0) ⟨0, by omega, rfl, rfl, rfl⟩ (wk hE []) ?_
 rintro n_ T_ H_ ⟨i, hi, rfl, rfl, rfl⟩
 refine w_seq ?_
 refine w_seq ?_
 refine g_reg hP hn ?_
 refine s_op k_mv ?_
 refine s_op k_mv ?_
 refine s_op k_len ?_
 refine s_op k_lss ?_
 refine s_op k_mv ?_
 first | refine s_on rfl rfl rfl k_mv ?_ | refine s_off rfl rfl rfl ?_ | refine s_opt rfl rfl (fun hB => by rw [hB]; try simp only [Bool.or_eq_true, Bool.or_eq_false_iff, Bool.and_eq_true, Bool.not_eq_true', Bool.not_eq_false', decide_eq_true_eq, decide_eq_false_iff_not] at hB; exact k_mv) ?_
 first | refine s_on rfl rfl rfl (k_leq (by exact l_bin rfl rfl (b_leq rfl))) ?_ | refine s_off rfl rfl rfl ?_ | refine s_opt rfl rfl (fun hB => by rw [hB]; try simp only [Bool.or_eq_true, Bool.or_eq_false_iff, Bool.and_eq_true, Bool.not_eq_true', Bool.not_eq_false', decide_eq_true_eq, decide_eq_false_iff_not] at hB; exact k_leq (by exact l_bin rfl rfl (b_leq rfl))) ?_
 refine s_op k_pk ?_
 refine s_nil trivial ?_
 refine n_wp ?_
 refine w_cond rfl (fun h_t14 => ?_) (fun h_t14 => ?_)
 · skip
   simp only [Bool.and_eq_true, decide_eq_true_eq] at h_t14
   have hlt : i < i0 := by
     rcases Nat.lt_or_ge i i0 with h | h
     · exact h
     · exact absurd h_t14 (by rw [show i = i0 by omega]; exact hp)
   refine w_skip ?_
   refine n_wp ?_
   refine w_seq ?_
   refine w_block ?_
   refine g_reg hP hn ?_
   refine s_op k_mv ?_
   refine s_op k_mv ?_
   refine s_op k_mv ?_
   refine s_op k_ix ?_
   refine s_op (k_ld (by exact a_loadf (v := .fzi .u8 (L.getD i [])) rfl (by omega) (rows_at L h_t14.1))) ?_
   refine s_op (k_call [] (con := bsize_c _)) ?_
   refine s_op (k_add (by exact l_bin rfl rfl (b_add rfl))) ?_
   refine s_op k_as ?_
   refine s_nil trivial ?_
   refine n_blo ?_
   refine n_wp ?_
   refine g_reg hP hn ?_
   refine s_op k_mv ?_
   refine s_op k_add ?_
   refine s_op k_as ?_
   refine s_nil trivial ?_
   exact n_round (i0 - (i + 1)) (by omega) ⟨i + 1, by omega, rfl, rfl, rfl⟩ (wk hE [])
 · skip
   have hnp : recP L i := fun h => by simp [h.1, h.2] at h_t14
   have hi2 : i = i0 := by
     rcases Nat.lt_or_ge i i0 with h | h
     · exact absurd hnp (hmin i h)
     · omega
   subst hi2
   refine w_exit ?_
   refine x_thn ?_
   refine x_thn ?_
   refine x_eq ?_
   refine n_wp ?_
   refine w_seq ?_
   refine g_reg hP hn ?_
   refine s_op k_mv ?_
   refine s_op k_as ?_
   refine s_nil trivial ?_
   refine n_wp ?_
   refine w_ret ?_
   exact d_ret hP hn hE [] (by first | exact r_tmp Try.results5 | exact r_tmpa Try.results5)

theorem rsize_c (L : List (List Int)) (hLb : L.length ≤ 140737488355000) : ∃ r : Int, Con Try.prog 5 [.s (ROWS L)] [] (.s (.int .i64 r)) [] := by
 obtain ⟨i, h1, h2, h3⟩ := rec_least L
 exact ⟨_, rsize_i L i h1 h2 h3 hLb⟩
theorem sameb_self (A : List Int) (hA : A.length ≤ 140737488355000) : Con Try.prog 10 [.s (.fzi .u8 A), .s (.fzi .u8 A)] [] (.s (.bool true)) [] := by
 have h := sameb_c A A hA
 rwa [show decide (A = A) = true from decide_eq_true rfl] at h
theorem once_there (M C : List Int) (hM : M.length = 32) (hC : C.length = 16) (hC8 : U8 C) (B : List Int) (hB : B.length ≤ 2019) (x : Nat) (hx : x < 64) (c q : List Nat) (h n : Nat) (w : Cw c q h n) (hc : c.getD x 0 = 1) : Con Try.prog 9 [.s (.ptr 0 0 0), .s (.fzi .u8 (sealB M C 9 (x + 1) B))] [some ⟨true, INL M C 9 1⟩, some ⟨true, WIN q h n⟩] (.tup [.s (.int .u64 0), .s .nils, .s (.int .i64 8)]) [some ⟨true, INL M C 9 1⟩, some ⟨true, WIN q h n⟩] := by
 have hn : numB (sealB M C 9 (x + 1) B) = x + 1 := num_seal _ _ _ _ _ (by omega)
 have hf := cw_there w hx hc
 have t := take_bad_c M C (sealB M C 9 (x + 1) B) 9 q h n (opens_seal _ _ _ _ _ hB) (lane_seal _ _ _ _ _ (by omega)) hM hC hC8 w.ql (by have := w.h; omega) (by rw [hn, hf]; omega)
 rw [hn, hf] at t
 exact t
theorem once_new (M C : List Int) (hM : M.length = 32) (hC : C.length = 16) (hC8 : U8 C) (B : List Int) (hB : B.length ≤ 2019) (hU : U8' B) (x : Nat) (hx : x < 64) (c q : List Nat) (h n : Nat) (w : Cw c q h n) (hn64 : n + 1 < 18446744073709551616) (hc : c.getD x 0 ≠ 1) : Con Try.prog 9 [.s (.ptr 0 0 0), .s (.fzi .u8 (sealB M C 9 (x + 1) B))] [some ⟨true, INL M C 9 1⟩, some ⟨true, WIN q h n⟩] (.tup [.s (.int .u64 ((x + 1 : Nat) : Int)), .s (.fzi .u8 B), .s (.int .i64 0)]) [some ⟨true, INL M C 9 1⟩, some ⟨true, WIN (q.set ((x + 1) % 64) (x + 1)) (max h (x + 1)) (n + 1)⟩] := by
 have hn : numB (sealB M C 9 (x + 1) B) = x + 1 := num_seal _ _ _ _ _ (by omega)
 have hf := cw_new w hx hc
 have t := take_ok_c M C (sealB M C 9 (x + 1) B) 9 q h n (opens_seal _ _ _ _ _ hB) (lane_seal _ _ _ _ _ (by omega)) hM hC hC8 w.ql (by have := w.h; omega) hn64 (by rw [hn, hf])
 rw [hn, open_seal _ _ _ _ _ hU] at t
 exact t
theorem sum_le (c : List Nat) (h : ∀ x, c.getD x 0 ≤ 1) : c.sum ≤ c.length := by
 induction c with
 | nil => simp
 | cons a c ih => have h0 := h 0; simp at h0; have := ih (fun x => by simpa using h (x + 1)); simp; omega
theorem cw_n {c q : List Nat} {h n : Nat} (w : Cw c q h n) : n ≤ 64 := by
 rw [w.n]
 have := sum_le c (fun x => by
  by_cases hx : x < 64
  · exact (w.at_ x hx).1
  · rw [List.getD_eq_getElem?_getD, List.getElem?_eq_none (by rw [w.cl]; omega)]; simp)
 rw [w.cl] at this
 exact this

set_option maxRecDepth 100000 in
set_option maxHeartbeats 4000000 in
theorem once_c (M C : List Int) (L : List (List Int)) (O : List Nat) (hM : M.length = 32) (hC : C.length = 16) (hC8 : U8 C) (hU : ∀ k, U8' (L.getD k [])) (hO : ∀ k, O.getD k 0 < 256) (hLb : L.length ≤ 140737488355000) (hOb : O.length ≤ 140737488355000) : Con Try.prog 3 [.agg [.ints .u8 32 M, .ints .u8 16 C], .s (ROWS L), .s (.fzi .u8 (zs O))] [] (.s (.bool true)) [] := by
 refine con_in 158 Try.func3 rfl rfl (m := 0) rfl ?_
 intro E hP hn hE
 obtain ⟨r, hrec⟩ := rsize_c L hLb
 have hzo := zs_len O
 refine w_seq ?_
 refine g_reg hP hn ?_
 refine s_op k_bxf ?_
 refine s_op k_as ?_
 refine s_nil trivial ?_
 refine n_wp ?_
 refine w_seq ?_
 refine w_seq ?_
 refine g_reg hP hn ?_
 refine s_op (k_call [] (con := alive20_c)) ?_
 refine s_op k_not ?_
 refine s_op k_mv ?_
 first | refine s_on rfl rfl rfl k_mv ?_ | refine s_off rfl rfl rfl ?_ | refine s_opf rfl rfl (fun hB => by rw [hB]; try simp only [Bool.or_eq_true, Bool.or_eq_false_iff, Bool.and_eq_true, Bool.not_eq_true', Bool.not_eq_false', decide_eq_true_eq, decide_eq_false_iff_not] at hB; exact k_mv) ?_
 first | refine s_on rfl rfl rfl k_len ?_ | refine s_off rfl rfl rfl ?_ | refine s_opf rfl rfl (fun hB => by rw [hB]; try simp only [Bool.or_eq_true, Bool.or_eq_false_iff, Bool.and_eq_true, Bool.not_eq_true', Bool.not_eq_false', decide_eq_true_eq, decide_eq_false_iff_not] at hB; exact k_len) ?_
 first | refine s_on rfl rfl rfl k_gtr ?_ | refine s_off rfl rfl rfl ?_ | refine s_opf rfl rfl (fun hB => by rw [hB]; try simp only [Bool.or_eq_true, Bool.or_eq_false_iff, Bool.and_eq_true, Bool.not_eq_true', Bool.not_eq_false', decide_eq_true_eq, decide_eq_false_iff_not] at hB; exact k_gtr) ?_
 refine s_op k_pk ?_
 refine s_op k_mv ?_
 first | refine s_on rfl rfl rfl k_mv ?_ | refine s_off rfl rfl rfl ?_ | refine s_opf rfl rfl (fun hB => by rw [hB]; try simp only [Bool.or_eq_true, Bool.or_eq_false_iff, Bool.and_eq_true, Bool.not_eq_true', Bool.not_eq_false', decide_eq_true_eq, decide_eq_false_iff_not] at hB; exact k_mv) ?_
 first | refine s_on rfl rfl rfl k_len ?_ | refine s_off rfl rfl rfl ?_ | refine s_opf rfl rfl (fun hB => by rw [hB]; try simp only [Bool.or_eq_true, Bool.or_eq_false_iff, Bool.and_eq_true, Bool.not_eq_true', Bool.not_eq_false', decide_eq_true_eq, decide_eq_false_iff_not] at hB; exact k_len) ?_
 first | refine s_on rfl rfl rfl k_gtr ?_ | refine s_off rfl rfl rfl ?_ | refine s_opf rfl rfl (fun hB => by rw [hB]; try simp only [Bool.or_eq_true, Bool.or_eq_false_iff, Bool.and_eq_true, Bool.not_eq_true', Bool.not_eq_false', decide_eq_true_eq, decide_eq_false_iff_not] at hB; exact k_gtr) ?_
 refine s_op k_pk ?_
 refine s_op k_mv ?_
 first | refine s_on rfl rfl rfl k_mv ?_ | refine s_off rfl rfl rfl ?_ | refine s_opf rfl rfl (fun hB => by rw [hB]; try simp only [Bool.or_eq_true, Bool.or_eq_false_iff, Bool.and_eq_true, Bool.not_eq_true', Bool.not_eq_false', decide_eq_true_eq, decide_eq_false_iff_not] at hB; exact k_mv) ?_
 first | refine s_on rfl rfl rfl (k_call [] (con := hrec)) ?_ | refine s_off rfl rfl rfl ?_ | refine s_opf rfl rfl (fun hB => by rw [hB]; try simp only [Bool.or_eq_true, Bool.or_eq_false_iff, Bool.and_eq_true, Bool.not_eq_true', Bool.not_eq_false', decide_eq_true_eq, decide_eq_false_iff_not] at hB; exact k_call [] (con := hrec)) ?_
 first | refine s_on rfl rfl rfl (k_gtr (by exact l_bin rfl rfl (b_gtr rfl))) ?_ | refine s_off rfl rfl rfl ?_ | refine s_opf rfl rfl (fun hB => by rw [hB]; try simp only [Bool.or_eq_true, Bool.or_eq_false_iff, Bool.and_eq_true, Bool.not_eq_true', Bool.not_eq_false', decide_eq_true_eq, decide_eq_false_iff_not] at hB; exact k_gtr (by exact l_bin rfl rfl (b_gtr rfl))) ?_
 refine s_op k_pk ?_
 refine s_nil trivial ?_
 refine n_wp ?_
 refine w_cond rfl (fun h_t36 => ?_) (fun h_t36 => ?_)
 · skip
   refine w_seq ?_
   refine g_reg hP hn ?_
   refine s_op (k_call [] (con := alive20_c)) ?_
   refine s_op k_as ?_
   refine s_nil trivial ?_
   refine n_wp ?_
   refine w_ret ?_
   refine r_thn ?_
   exact d_ret hP hn hE [] (by first | exact r_tmp Try.results3 | exact r_tmpa Try.results3)
 · skip
   simp only [Bool.or_eq_false_iff, decide_eq_false_iff_not] at h_t36
   obtain ⟨⟨h64, h300⟩, _⟩ := h_t36
   refine w_skip ?_
   refine n_wp ?_
   refine w_seq ?_
   refine g_reg hP hn ?_
   refine s_op k_ld ?_
   refine s_op (k_call [] (con := newout_c M C 9) (v := .s (.ptr 1 0 0)) (hv := rfl) (H' := [none, some ⟨true, OUTL M C 9 0⟩]) (hH := rfl)) ?_
   refine s_op k_as ?_
   refine s_nil trivial ?_
   refine n_wp ?_
   refine w_seq ?_
   refine g_reg hP hn ?_
   refine s_op k_ld ?_
   refine s_op (k_call [] (con := newin_c M C 9) (v := .s (.ptr 2 0 0)) (hv := rfl) (H' := [none, some ⟨true, OUTL M C 9 0⟩, some ⟨true, INL M C 9 3⟩, some ⟨true, WIN (List.replicate 64 0) 0 0⟩]) (hH := rfl)) ?_
   refine s_op k_as ?_
   refine s_nil trivial ?_
   refine n_wp ?_
   refine w_seq ?_
   refine g_reg hP hn ?_
   refine s_op k_as ?_
   refine s_nil trivial ?_
   refine n_wp ?_
   refine w_seq ?_
   refine g_reg hP hn ?_
   refine s_op k_al ?_
   refine s_nil trivial ?_
   refine n_wp ?_
   refine w_seq ?_
   refine w_seq ?_
   refine g_reg hP hn ?_
   refine s_op k_as ?_
   refine s_nil trivial ?_
   refine n_wp ?_
   refine w_block ?_
   refine c_loop (fun m T H => ∃ i, i ≤ L.length ∧ m = L.length - i ∧ (∀ k, k < i → (L.getD k []).length ≤ 2019) ∧ T = [(1, .s (ROWS L)), (2, .s (.fzi .u8 (zs O))), (7, .s (.ptr 1 0 0)), (8, .s (.ptr 2 0 0)), (10, .s (.ptr 4 0 0)), (9, .s (.gro 5 1 i)), (11, .s (.int .i64 ((i : Nat) : Int)))] ∧ H = [none, some ⟨true, OUTL M C 9 i⟩, some ⟨true, INL M C 9 3⟩, some ⟨true, WIN (List.replicate 64 0) 0 0⟩, some ⟨true, [.ints .i64 64 (zs (List.replicate 64 0))]⟩, some ⟨true, [.rows i 1 (SG M C L)]⟩]) (L.length) ⟨0, by omega, rfl, fun k hk => absurd hk (Nat.not_lt_zero k), rfl, rfl⟩ ((weak_gro (segs := [.rows 0 1 (SG M C L)]) 9 1 5 rfl rfl rfl).trans (wk hE [])) ?_
   rintro n_ T_ H_ ⟨i, hi, rfl, hlen, rfl, rfl⟩
   refine w_seq ?_
   refine w_seq ?_
   refine g_reg hP hn ?_
   refine s_op k_mv ?_
   refine s_op k_mv ?_
   refine s_op k_len ?_
   refine s_op k_lss ?_
   refine s_nil trivial ?_
   refine n_wp ?_
   refine w_if rfl (fun h_t45 => ?_) (fun h_t45 => ?_)
   · skip
     refine w_skip ?_
     refine n_wp ?_
     refine w_seq ?_
     refine w_block ?_
     refine w_seq ?_
     by_cases hB : (L.getD i []).length ≤ 2019
     · skip
       refine g_reg hP hn ?_
       refine s_op k_mv ?_
       refine s_op k_mv ?_
       refine s_op k_mv ?_
       refine s_op k_ix ?_
       refine s_op (k_ld (by exact a_loadf (v := .fzi .u8 (L.getD i [])) rfl (by omega) (rows_at L h_t45))) ?_
       refine s_op (k_call [1] (con := put_ok_c M C (L.getD i []) 9 i (by omega) hB hM hC hC8 (by omega)) (H' := [none, some ⟨true, OUTL M C 9 (i + 1)⟩, some ⟨true, INL M C 9 3⟩, some ⟨true, WIN (List.replicate 64 0) 0 0⟩, some ⟨true, [.ints .i64 64 (zs (List.replicate 64 0))]⟩, some ⟨true, [.rows i 1 (SG M C L)]⟩]) (hH := rfl)) ?_
       refine s_op k_mv ?_
       refine s_op k_ex ?_
       refine s_op k_ex ?_
       refine s_op k_ex ?_
       refine s_op k_as ?_
       refine s_op k_as ?_
       refine s_op k_as ?_
       refine s_nil trivial ?_
       refine n_wp ?_
       refine w_seq ?_
       refine w_seq ?_
       refine g_reg hP hn ?_
       refine s_op k_mv ?_
       refine s_op k_neq ?_
       refine s_op k_mv ?_
       first | refine s_on rfl rfl rfl k_mv ?_ | refine s_off rfl rfl rfl ?_ | refine s_opf rfl rfl (fun hB => by rw [hB]; try simp only [Bool.or_eq_true, Bool.or_eq_false_iff, Bool.and_eq_true, Bool.not_eq_true', Bool.not_eq_false', decide_eq_true_eq, decide_eq_false_iff_not] at hB; exact k_mv) ?_
       first | refine s_on rfl rfl rfl k_mv ?_ | refine s_off rfl rfl rfl ?_ | refine s_opf rfl rfl (fun hB => by rw [hB]; try simp only [Bool.or_eq_true, Bool.or_eq_false_iff, Bool.and_eq_true, Bool.not_eq_true', Bool.not_eq_false', decide_eq_true_eq, decide_eq_false_iff_not] at hB; exact k_mv) ?_
       first | refine s_on rfl rfl rfl k_add ?_ | refine s_off rfl rfl rfl ?_ | refine s_opf rfl rfl (fun hB => by rw [hB]; try simp only [Bool.or_eq_true, Bool.or_eq_false_iff, Bool.and_eq_true, Bool.not_eq_true', Bool.not_eq_false', decide_eq_true_eq, decide_eq_false_iff_not] at hB; exact k_add) ?_
       first | refine s_on rfl rfl rfl k_cv ?_ | refine s_off rfl rfl rfl ?_ | refine s_opf rfl rfl (fun hB => by rw [hB]; try simp only [Bool.or_eq_true, Bool.or_eq_false_iff, Bool.and_eq_true, Bool.not_eq_true', Bool.not_eq_false', decide_eq_true_eq, decide_eq_false_iff_not] at hB; exact k_cv) ?_
       first | refine s_on rfl rfl rfl k_neq ?_ | refine s_off rfl rfl rfl ?_ | refine s_opf rfl rfl (fun hB => by rw [hB]; try simp only [Bool.or_eq_true, Bool.or_eq_false_iff, Bool.and_eq_true, Bool.not_eq_true', Bool.not_eq_false', decide_eq_true_eq, decide_eq_false_iff_not] at hB; exact k_neq) ?_
       refine s_op k_pk ?_
       refine s_nil trivial ?_
       refine n_wp ?_
       refine w_F rfl ?_ (by simp)
       refine w_skip ?_
       refine n_wp ?_
       refine g_reg hP hn ?_
       refine s_op k_mv ?_
       refine s_op k_mv ?_
       refine s_op (k_bsz [.fzi .u8 (sealB M C 9 (i + 1) (L.getD i []))]) ?_
       refine s_op (k_apr (SG M C L) (hgn := by exact fun a b ha hb => match a, ha with | 0, _ => rfl)) ?_
       refine s_op k_as ?_
       refine s_nil trivial ?_
       refine n_blo ?_
       refine n_wp ?_
       refine g_reg hP hn ?_
       refine s_op k_mv ?_
       refine s_op k_add ?_
       refine s_op k_as ?_
       refine s_nil trivial ?_
       exact n_round (L.length - (i + 1)) (by omega) ⟨i + 1, by omega, rfl, fun k hk => (Nat.lt_succ_iff_lt_or_eq.1 hk).elim (fun h => hlen k h) (fun h => h ▸ hB), rfl, rfl⟩ (wk hE [0, 1, 2, 3, 4, 7])
     · skip
       refine g_reg hP hn ?_
       refine s_op k_mv ?_
       refine s_op k_mv ?_
       refine s_op k_mv ?_
       refine s_op k_ix ?_
       refine s_op (k_ld (by exact a_loadf (v := .fzi .u8 (L.getD i [])) rfl (by omega) (rows_at L h_t45))) ?_
       refine s_op (k_call [1] (con := put_long_c M C (L.getD i []) 9 i (by omega) (by omega)) (H' := [none, some ⟨true, OUTL M C 9 i⟩, some ⟨true, INL M C 9 3⟩, some ⟨true, WIN (List.replicate 64 0) 0 0⟩, some ⟨true, [.ints .i64 64 (zs (List.replicate 64 0))]⟩, some ⟨true, [.rows i 1 (SG M C L)]⟩]) (hH := rfl)) ?_
       refine s_op k_mv ?_
       refine s_op k_ex ?_
       refine s_op k_ex ?_
       refine s_op k_ex ?_
       refine s_op k_as ?_
       refine s_op k_as ?_
       refine s_op k_as ?_
       refine s_nil trivial ?_
       refine n_wp ?_
       refine w_seq ?_
       refine w_seq ?_
       refine g_reg hP hn ?_
       refine s_op k_mv ?_
       refine s_op k_neq ?_
       refine s_op k_mv ?_
       first | refine s_on rfl rfl rfl k_mv ?_ | refine s_off rfl rfl rfl ?_ | refine s_opf rfl rfl (fun hB => by rw [hB]; try simp only [Bool.or_eq_true, Bool.or_eq_false_iff, Bool.and_eq_true, Bool.not_eq_true', Bool.not_eq_false', decide_eq_true_eq, decide_eq_false_iff_not] at hB; exact k_mv) ?_
       first | refine s_on rfl rfl rfl k_mv ?_ | refine s_off rfl rfl rfl ?_ | refine s_opf rfl rfl (fun hB => by rw [hB]; try simp only [Bool.or_eq_true, Bool.or_eq_false_iff, Bool.and_eq_true, Bool.not_eq_true', Bool.not_eq_false', decide_eq_true_eq, decide_eq_false_iff_not] at hB; exact k_mv) ?_
       first | refine s_on rfl rfl rfl k_add ?_ | refine s_off rfl rfl rfl ?_ | refine s_opf rfl rfl (fun hB => by rw [hB]; try simp only [Bool.or_eq_true, Bool.or_eq_false_iff, Bool.and_eq_true, Bool.not_eq_true', Bool.not_eq_false', decide_eq_true_eq, decide_eq_false_iff_not] at hB; exact k_add) ?_
       first | refine s_on rfl rfl rfl k_cv ?_ | refine s_off rfl rfl rfl ?_ | refine s_opf rfl rfl (fun hB => by rw [hB]; try simp only [Bool.or_eq_true, Bool.or_eq_false_iff, Bool.and_eq_true, Bool.not_eq_true', Bool.not_eq_false', decide_eq_true_eq, decide_eq_false_iff_not] at hB; exact k_cv) ?_
       first | refine s_on rfl rfl rfl k_neq ?_ | refine s_off rfl rfl rfl ?_ | refine s_opf rfl rfl (fun hB => by rw [hB]; try simp only [Bool.or_eq_true, Bool.or_eq_false_iff, Bool.and_eq_true, Bool.not_eq_true', Bool.not_eq_false', decide_eq_true_eq, decide_eq_false_iff_not] at hB; exact k_neq) ?_
       refine s_op k_pk ?_
       refine s_nil trivial ?_
       refine n_wp ?_
       refine w_T rfl ?_ 
       refine w_seq ?_
       refine g_reg hP hn ?_
       refine s_op k_mv ?_
       refine s_op k_eql ?_
       refine s_op k_mv ?_
       first | refine s_on rfl rfl rfl k_mv ?_ | refine s_off rfl rfl rfl ?_ | refine s_opt rfl rfl (fun hB => by rw [hB]; try simp only [Bool.or_eq_true, Bool.or_eq_false_iff, Bool.and_eq_true, Bool.not_eq_true', Bool.not_eq_false', decide_eq_true_eq, decide_eq_false_iff_not] at hB; exact k_mv) ?_
       first | refine s_on rfl rfl rfl k_mv ?_ | refine s_off rfl rfl rfl ?_ | refine s_opt rfl rfl (fun hB => by rw [hB]; try simp only [Bool.or_eq_true, Bool.or_eq_false_iff, Bool.and_eq_true, Bool.not_eq_true', Bool.not_eq_false', decide_eq_true_eq, decide_eq_false_iff_not] at hB; exact k_mv) ?_
       first | refine s_on rfl rfl rfl k_ix ?_ | refine s_off rfl rfl rfl ?_ | refine s_opt rfl rfl (fun hB => by rw [hB]; try simp only [Bool.or_eq_true, Bool.or_eq_false_iff, Bool.and_eq_true, Bool.not_eq_true', Bool.not_eq_false', decide_eq_true_eq, decide_eq_false_iff_not] at hB; exact k_ix) ?_
       first | refine s_on rfl rfl rfl (k_ld (by exact a_loadf (v := .fzi .u8 (L.getD i [])) rfl (by omega) (rows_at L h_t45))) ?_ | refine s_off rfl rfl rfl ?_ | refine s_opt rfl rfl (fun hB => by rw [hB]; try simp only [Bool.or_eq_true, Bool.or_eq_false_iff, Bool.and_eq_true, Bool.not_eq_true', Bool.not_eq_false', decide_eq_true_eq, decide_eq_false_iff_not] at hB; exact k_ld (by exact a_loadf (v := .fzi .u8 (L.getD i [])) rfl (by omega) (rows_at L h_t45))) ?_
       first | refine s_on rfl rfl rfl k_len ?_ | refine s_off rfl rfl rfl ?_ | refine s_opt rfl rfl (fun hB => by rw [hB]; try simp only [Bool.or_eq_true, Bool.or_eq_false_iff, Bool.and_eq_true, Bool.not_eq_true', Bool.not_eq_false', decide_eq_true_eq, decide_eq_false_iff_not] at hB; exact k_len) ?_
       first | refine s_on rfl rfl rfl (k_gtr (by exact l_bin rfl rfl (b_gtr (decide_eq_true (by omega))))) ?_ | refine s_off rfl rfl rfl ?_ | refine s_opt rfl rfl (fun hB => by rw [hB]; try simp only [Bool.or_eq_true, Bool.or_eq_false_iff, Bool.and_eq_true, Bool.not_eq_true', Bool.not_eq_false', decide_eq_true_eq, decide_eq_false_iff_not] at hB; exact k_gtr (by exact l_bin rfl rfl (b_gtr (decide_eq_true (by omega))))) ?_
       refine s_op k_pk ?_
       refine s_op k_as ?_
       refine s_nil trivial ?_
       refine n_wp ?_
       refine w_ret ?_
       refine r_thn ?_
       refine r_blo ?_
       refine r_thn ?_
       refine r_thn ?_
       refine r_blo ?_
       refine r_thn ?_
       exact d_ret hP hn hE [] (by first | exact r_tmp Try.results3 | exact r_tmpa Try.results3)
   · skip
     have hi2 : i = L.length := by omega
     subst hi2
     refine w_exit ?_
     refine x_thn ?_
     refine x_thn ?_
     refine x_eq ?_
     refine n_wp ?_
     refine w_seq ?_
     refine w_seq ?_
     refine g_reg hP hn ?_
     refine s_op k_as ?_
     refine s_nil trivial ?_
     refine n_wp ?_
     refine w_block ?_
     refine c_loop (fun m T H => ∃ i c q h n, i ≤ O.length + L.length ∧ m = O.length + L.length - i ∧ Cw c q h n ∧ Cl c L.length (i - O.length) ∧ T = [(1, .s (ROWS L)), (2, .s (.fzi .u8 (zs O))), (7, .s (.ptr 1 0 0)), (8, .s (.ptr 2 0 0)), (10, .s (.ptr 4 0 0)), (9, .s (.fz L.length 1 (SG M C L))), (15, .s (.int .i64 ((i : Nat) : Int)))] ∧ H = [none, some ⟨true, OUTL M C 9 L.length⟩, some ⟨true, INL M C 9 3⟩, some ⟨true, WIN q h n⟩, some ⟨true, [.ints .i64 64 (zs c)]⟩, none]) ((O.length + L.length)) ⟨0, List.replicate 64 0, List.replicate 64 0, 0, 0, by omega, rfl, cw_0, by rw [Nat.zero_sub]; exact cl_0 _, rfl, rfl⟩ ((frz_grz 9).trans (wk hE [])) ?_
     rintro n_ T_ H_ ⟨i, c, q, h, n, hi, rfl, w, wl, rfl, rfl⟩
     refine w_seq ?_
     refine w_seq ?_
     refine g_reg hP hn ?_
     refine s_op k_mv ?_
     refine s_op k_mv ?_
     refine s_op k_len ?_
     refine s_op k_mv ?_
     refine s_op k_len ?_
     refine s_op k_add ?_
     refine s_op k_lss ?_
     refine s_nil trivial ?_
     refine n_wp ?_
     refine w_if rfl (fun h_t87 => ?_) (fun h_t87 => ?_)
     · skip
       refine w_skip ?_
       refine n_wp ?_
       refine w_seq ?_
       refine w_block ?_
       refine w_seq ?_
       refine g_reg hP hn ?_
       refine s_op k_mv ?_
       refine s_op k_mv ?_
       refine s_op k_len ?_
       refine s_op (k_sub (by exact l_bin rfl rfl (b_sub (wrap_i64 (by omega))))) ?_
       refine s_op k_as ?_
       refine s_nil trivial ?_
       refine n_wp ?_
       refine w_seq ?_
       refine w_seq ?_
       refine g_reg hP hn ?_
       refine s_op k_mv ?_
       refine s_op k_mv ?_
       refine s_op k_len ?_
       refine s_op k_lss ?_
       refine s_nil trivial ?_
       refine n_wp ?_
       refine w_cut (fun T H => ∃ x, x < L.length ∧ (O.length ≤ i → x = i - O.length) ∧ T = [(1, .s (ROWS L)), (2, .s (.fzi .u8 (zs O))), (7, .s (.ptr 1 0 0)), (8, .s (.ptr 2 0 0)), (10, .s (.ptr 4 0 0)), (9, .s (.fz L.length 1 (SG M C L))), (15, .s (.int .i64 ((i : Nat) : Int))), (16, .s (.int .i64 ((x : Nat) : Int)))] ∧ H = [none, some ⟨true, OUTL M C 9 L.length⟩, some ⟨true, INL M C 9 3⟩, some ⟨true, WIN q h n⟩, some ⟨true, [.ints .i64 64 (zs c)]⟩, none]) ?_ ?_
       · skip
         refine w_if rfl (fun h_t97 => ?_) (fun h_t97 => ?_)
         · skip
           have ho := hO i
           refine w_seq ?_
           refine w_seq ?_
           refine g_reg hP hn ?_
           refine s_op k_mv ?_
           refine s_op k_len ?_
           refine s_op k_eql ?_
           refine s_nil trivial ?_
           refine n_wp ?_
           refine w_if rfl (fun h_t100 => ?_) (fun h_t100 => ?_)
           · skip
             refine w_exit ?_
             refine x_thn ?_
             refine x_thn ?_
             refine x_eq ?_
             refine n_wp ?_
             refine g_reg hP hn ?_
             refine s_op k_mv ?_
             refine s_op k_add ?_
             refine s_op k_as ?_
             refine s_nil trivial ?_
             exact n_round (O.length + L.length - (i + 1)) (by omega) ⟨i + 1, c, q, h, n, by omega, rfl, w, by rw [show i + 1 - O.length = i - O.length by omega]; exact wl, rfl, rfl⟩ (wk hE [])
           · skip
             refine w_skip ?_
             refine n_wp ?_
             refine g_reg hP hn ?_
             refine s_op k_mv ?_
             refine s_op k_mv ?_
             refine s_op k_ix ?_
             refine s_op k_ld ?_
             refine s_op k_cv ?_
             refine s_op k_mv ?_
             refine s_op k_len ?_
             refine s_op k_rem ?_
             refine s_op k_as ?_
             refine s_nil trivial ?_
             exact n_cut ⟨O.getD i 0 % L.length, Nat.mod_lt _ (by omega), fun ho => by omega, rfl, rfl⟩ (wk hE [])
         · skip
           refine w_skip ?_
           rw [show ((i : Nat) : Int) - (((zs O).length : Nat) : Int) = ((i - O.length : Nat) : Int) by omega]
           exact n_cut ⟨i - O.length, by omega, fun _ => rfl, rfl, rfl⟩ (wk hE [])
       rintro T H ⟨x, hx, hxo, rfl, rfl⟩
       have hx64 : x < 64 := by omega
       have hcl := w.cl
       refine w_seq ?_
       by_cases hc : c.getD x 0 = 1
       · skip
         have wl' : Cl c L.length (i + 1 - O.length) := by
           by_cases ho : O.length ≤ i
           · rw [show i + 1 - O.length = (i - O.length) + 1 by omega]; exact wl.up (by rw [← hxo ho]; exact hc)
           · rw [show i + 1 - O.length = i - O.length by omega]; exact wl
         refine g_reg hP hn ?_
         refine s_op k_mv ?_
         refine s_op k_mv ?_
         refine s_op k_mv ?_
         refine s_op k_ix ?_
         refine s_op (k_ld (by exact a_loadf (v := .fzi .u8 (sealB M C 9 (x + 1) (L.getD x []))) rfl (by omega) rfl)) ?_
         refine s_op (k_call [2, 3] (con := once_there M C hM hC hC8 (L.getD x []) (hlen x hx) x hx64 c q h n w hc) (H' := [none, some ⟨true, OUTL M C 9 L.length⟩, some ⟨true, INL M C 9 3⟩, some ⟨true, WIN q h n⟩, some ⟨true, [.ints .i64 64 (zs c)]⟩, none]) (hH := rfl)) ?_
         refine s_op k_mv ?_
         refine s_op k_ex ?_
         refine s_op k_ex ?_
         refine s_op k_ex ?_
         refine s_op k_as ?_
         refine s_op k_as ?_
         refine s_op k_as ?_
         refine s_nil trivial ?_
         refine n_wp ?_
         refine w_seq ?_
         refine w_seq ?_
         refine g_reg hP hn ?_
         refine s_op k_mv ?_
         refine s_op k_ix ?_
         refine s_op k_ld ?_
         refine s_op k_eql ?_
         refine s_nil trivial ?_
         refine n_wp ?_
         refine w_T rfl ?_ (decide_eq_true hc)
         refine w_seq ?_
         refine w_seq ?_
         refine g_reg hP hn ?_
         refine s_op k_mv ?_
         refine s_op k_neq ?_
         refine s_nil trivial ?_
         refine n_wp ?_
         refine w_F rfl ?_ 
         refine w_skip ?_
         refine n_wp ?_
         refine w_exit ?_
         refine x_thn ?_
         refine x_eq ?_
         refine n_wp ?_
         refine g_reg hP hn ?_
         refine s_op k_mv ?_
         refine s_op k_add ?_
         refine s_op k_as ?_
         refine s_nil trivial ?_
         exact n_round (O.length + L.length - (i + 1)) (by omega) ⟨i + 1, c, q, h, n, by omega, rfl, w, wl', rfl, rfl⟩ (wk hE [])
       · skip
         have w' := cw_set w hx64 hc
         have wl' : Cl (c.set x 1) L.length (i + 1 - O.length) := by
           have wl1 := wl.set hx (by rw [w.cl]; exact hx64)
           by_cases ho : O.length ≤ i
           · rw [show i + 1 - O.length = (i - O.length) + 1 by omega]; exact wl1.up (by rw [← hxo ho, setD _ _ _ _ (by rw [w.cl]; exact hx64), if_pos rfl])
           · rw [show i + 1 - O.length = i - O.length by omega]; exact wl1
         refine g_reg hP hn ?_
         refine s_op k_mv ?_
         refine s_op k_mv ?_
         refine s_op k_mv ?_
         refine s_op k_ix ?_
         refine s_op (k_ld (by exact a_loadf (v := .fzi .u8 (sealB M C 9 (x + 1) (L.getD x []))) rfl (by omega) rfl)) ?_
         refine s_op (k_call [2, 3] (con := once_new M C hM hC hC8 (L.getD x []) (hlen x hx) (hU x) x hx64 c q h n w (by have := cw_n w; omega) hc) (H' := [none, some ⟨true, OUTL M C 9 L.length⟩, some ⟨true, INL M C 9 3⟩, some ⟨true, WIN (q.set ((x + 1) % 64) (x + 1)) (max h (x + 1)) (n + 1)⟩, some ⟨true, [.ints .i64 64 (zs c)]⟩, none]) (hH := rfl)) ?_
         refine s_op k_mv ?_
         refine s_op k_ex ?_
         refine s_op k_ex ?_
         refine s_op k_ex ?_
         refine s_op k_as ?_
         refine s_op k_as ?_
         refine s_op k_as ?_
         refine s_nil trivial ?_
         refine n_wp ?_
         refine w_seq ?_
         refine w_seq ?_
         refine g_reg hP hn ?_
         refine s_op k_mv ?_
         refine s_op k_ix ?_
         refine s_op k_ld ?_
         refine s_op k_eql ?_
         refine s_nil trivial ?_
         refine n_wp ?_
         refine w_F rfl ?_ (decide_eq_false hc)
         refine w_skip ?_
         refine n_wp ?_
         refine w_seq ?_
         refine g_reg hP hn ?_
         refine s_op k_mv ?_
         refine s_op k_ix ?_
         refine s_st k_st ?_
         refine s_nil trivial ?_
         refine n_wp ?_
         refine w_seq ?_
         refine g_reg hP hn ?_
         refine s_op k_mv ?_
         refine s_op k_neq ?_
         refine s_op k_mv ?_
         first | refine s_on rfl rfl rfl k_mv ?_ | refine s_off rfl rfl rfl ?_ | refine s_opf rfl rfl (fun hB => by rw [hB]; try simp only [Bool.or_eq_true, Bool.or_eq_false_iff, Bool.and_eq_true, Bool.not_eq_true', Bool.not_eq_false', decide_eq_true_eq, decide_eq_false_iff_not] at hB; exact k_mv) ?_
         first | refine s_on rfl rfl rfl k_mv ?_ | refine s_off rfl rfl rfl ?_ | refine s_opf rfl rfl (fun hB => by rw [hB]; try simp only [Bool.or_eq_true, Bool.or_eq_false_iff, Bool.and_eq_true, Bool.not_eq_true', Bool.not_eq_false', decide_eq_true_eq, decide_eq_false_iff_not] at hB; exact k_mv) ?_
         first | refine s_on rfl rfl rfl k_add ?_ | refine s_off rfl rfl rfl ?_ | refine s_opf rfl rfl (fun hB => by rw [hB]; try simp only [Bool.or_eq_true, Bool.or_eq_false_iff, Bool.and_eq_true, Bool.not_eq_true', Bool.not_eq_false', decide_eq_true_eq, decide_eq_false_iff_not] at hB; exact k_add) ?_
         first | refine s_on rfl rfl rfl k_cv ?_ | refine s_off rfl rfl rfl ?_ | refine s_opf rfl rfl (fun hB => by rw [hB]; try simp only [Bool.or_eq_true, Bool.or_eq_false_iff, Bool.and_eq_true, Bool.not_eq_true', Bool.not_eq_false', decide_eq_true_eq, decide_eq_false_iff_not] at hB; exact k_cv) ?_
         first | refine s_on rfl rfl rfl k_neq ?_ | refine s_off rfl rfl rfl ?_ | refine s_opf rfl rfl (fun hB => by rw [hB]; try simp only [Bool.or_eq_true, Bool.or_eq_false_iff, Bool.and_eq_true, Bool.not_eq_true', Bool.not_eq_false', decide_eq_true_eq, decide_eq_false_iff_not] at hB; exact k_neq) ?_
         refine s_op k_pk ?_
         refine s_op k_mv ?_
         first | refine s_on rfl rfl rfl k_mv ?_ | refine s_off rfl rfl rfl ?_ | refine s_opf rfl rfl (fun hB => by rw [hB]; try simp only [Bool.or_eq_true, Bool.or_eq_false_iff, Bool.and_eq_true, Bool.not_eq_true', Bool.not_eq_false', decide_eq_true_eq, decide_eq_false_iff_not] at hB; exact k_mv) ?_
         first | refine s_on rfl rfl rfl k_mv ?_ | refine s_off rfl rfl rfl ?_ | refine s_opf rfl rfl (fun hB => by rw [hB]; try simp only [Bool.or_eq_true, Bool.or_eq_false_iff, Bool.and_eq_true, Bool.not_eq_true', Bool.not_eq_false', decide_eq_true_eq, decide_eq_false_iff_not] at hB; exact k_mv) ?_
         first | refine s_on rfl rfl rfl k_mv ?_ | refine s_off rfl rfl rfl ?_ | refine s_opf rfl rfl (fun hB => by rw [hB]; try simp only [Bool.or_eq_true, Bool.or_eq_false_iff, Bool.and_eq_true, Bool.not_eq_true', Bool.not_eq_false', decide_eq_true_eq, decide_eq_false_iff_not] at hB; exact k_mv) ?_
         first | refine s_on rfl rfl rfl k_ix ?_ | refine s_off rfl rfl rfl ?_ | refine s_opf rfl rfl (fun hB => by rw [hB]; try simp only [Bool.or_eq_true, Bool.or_eq_false_iff, Bool.and_eq_true, Bool.not_eq_true', Bool.not_eq_false', decide_eq_true_eq, decide_eq_false_iff_not] at hB; exact k_ix) ?_
         first | refine s_on rfl rfl rfl (k_ld (by exact a_loadf (v := .fzi .u8 (L.getD x [])) rfl (by omega) (rows_at L hx))) ?_ | refine s_off rfl rfl rfl ?_ | refine s_opf rfl rfl (fun hB => by rw [hB]; try simp only [Bool.or_eq_true, Bool.or_eq_false_iff, Bool.and_eq_true, Bool.not_eq_true', Bool.not_eq_false', decide_eq_true_eq, decide_eq_false_iff_not] at hB; exact k_ld (by exact a_loadf (v := .fzi .u8 (L.getD x [])) rfl (by omega) (rows_at L hx))) ?_
         first | refine s_on rfl rfl rfl (k_call [] (con := sameb_self (L.getD x []) (by have := hlen x hx; omega))) ?_ | refine s_off rfl rfl rfl ?_ | refine s_opf rfl rfl (fun hB => by rw [hB]; try simp only [Bool.or_eq_true, Bool.or_eq_false_iff, Bool.and_eq_true, Bool.not_eq_true', Bool.not_eq_false', decide_eq_true_eq, decide_eq_false_iff_not] at hB; exact k_call [] (con := sameb_self (L.getD x []) (by have := hlen x hx; omega))) ?_
         first | refine s_on rfl rfl rfl k_not ?_ | refine s_off rfl rfl rfl ?_ | refine s_opf rfl rfl (fun hB => by rw [hB]; try simp only [Bool.or_eq_true, Bool.or_eq_false_iff, Bool.and_eq_true, Bool.not_eq_true', Bool.not_eq_false', decide_eq_true_eq, decide_eq_false_iff_not] at hB; exact k_not) ?_
         refine s_op k_pk ?_
         refine s_nil trivial ?_
         refine n_wp ?_
         refine w_F rfl ?_ (by simp)
         refine w_skip ?_
         refine n_blo ?_
         refine n_wp ?_
         refine g_reg hP hn ?_
         refine s_op k_mv ?_
         refine s_op k_add ?_
         refine s_op k_as ?_
         refine s_nil trivial ?_
         exact n_round (O.length + L.length - (i + 1)) (by omega) ⟨i + 1, c.set x 1, q.set ((x + 1) % 64) (x + 1), max h (x + 1), n + 1, by omega, rfl, w', wl', rfl, rfl⟩ (wk hE [])
     · skip
       have hi2 : i = O.length + L.length := by omega
       subst hi2
       rw [Nat.add_sub_cancel_left] at wl
       have hn : n = L.length := by rw [w.n]; exact sum_all c L.length (by rw [w.cl]; omega) wl.in_ wl.out
       subst hn
       refine w_exit ?_
       refine x_thn ?_
       refine x_thn ?_
       refine x_eq ?_
       refine n_wp ?_
       refine w_seq ?_
       refine g_reg hP hn ?_
       refine s_op k_mv ?_
       refine s_op (k_call [2, 3] (con := came_c M C 9 q h L.length) (H' := [none, some ⟨true, OUTL M C 9 L.length⟩, some ⟨true, INL M C 9 3⟩, some ⟨true, WIN q h L.length⟩, some ⟨true, [.ints .i64 64 (zs c)]⟩, none]) (hH := rfl)) ?_
       refine s_op k_mv ?_
       refine s_op k_len ?_
       refine s_op k_cv ?_
       refine s_op (k_eql (by exact l_bin rfl rfl (b_eql (decide_eq_true rfl)))) ?_
       refine s_op k_mv ?_
       first | refine s_on rfl rfl rfl k_mv ?_ | refine s_off rfl rfl rfl ?_ | refine s_opt rfl rfl (fun hB => by rw [hB]; try simp only [Bool.or_eq_true, Bool.or_eq_false_iff, Bool.and_eq_true, Bool.not_eq_true', Bool.not_eq_false', decide_eq_true_eq, decide_eq_false_iff_not] at hB; exact k_mv) ?_
       first | refine s_on rfl rfl rfl (k_call [1] (con := used_c M C 9 L.length) (H' := [none, some ⟨true, OUTL M C 9 L.length⟩, some ⟨true, INL M C 9 3⟩, some ⟨true, WIN q h L.length⟩, some ⟨true, [.ints .i64 64 (zs c)]⟩, none]) (hH := rfl)) ?_ | refine s_off rfl rfl rfl ?_ | refine s_opt rfl rfl (fun hB => by rw [hB]; try simp only [Bool.or_eq_true, Bool.or_eq_false_iff, Bool.and_eq_true, Bool.not_eq_true', Bool.not_eq_false', decide_eq_true_eq, decide_eq_false_iff_not] at hB; exact k_call [1] (con := used_c M C 9 L.length) (H' := [none, some ⟨true, OUTL M C 9 L.length⟩, some ⟨true, INL M C 9 3⟩, some ⟨true, WIN q h L.length⟩, some ⟨true, [.ints .i64 64 (zs c)]⟩, none]) (hH := rfl)) ?_
       first | refine s_on rfl rfl rfl k_mv ?_ | refine s_off rfl rfl rfl ?_ | refine s_opt rfl rfl (fun hB => by rw [hB]; try simp only [Bool.or_eq_true, Bool.or_eq_false_iff, Bool.and_eq_true, Bool.not_eq_true', Bool.not_eq_false', decide_eq_true_eq, decide_eq_false_iff_not] at hB; exact k_mv) ?_
       first | refine s_on rfl rfl rfl k_len ?_ | refine s_off rfl rfl rfl ?_ | refine s_opt rfl rfl (fun hB => by rw [hB]; try simp only [Bool.or_eq_true, Bool.or_eq_false_iff, Bool.and_eq_true, Bool.not_eq_true', Bool.not_eq_false', decide_eq_true_eq, decide_eq_false_iff_not] at hB; exact k_len) ?_
       first | refine s_on rfl rfl rfl (k_eql (by exact l_bin rfl rfl (b_eql (decide_eq_true rfl)))) ?_ | refine s_off rfl rfl rfl ?_ | refine s_opt rfl rfl (fun hB => by rw [hB]; try simp only [Bool.or_eq_true, Bool.or_eq_false_iff, Bool.and_eq_true, Bool.not_eq_true', Bool.not_eq_false', decide_eq_true_eq, decide_eq_false_iff_not] at hB; exact k_eql (by exact l_bin rfl rfl (b_eql (decide_eq_true rfl)))) ?_
       refine s_op k_pk ?_
       refine s_op k_as ?_
       refine s_nil trivial ?_
       refine n_wp ?_
       refine w_ret ?_
       exact d_ret hP hn hE [] (by first | exact r_tmp Try.results3 | exact r_tmpa Try.results3)

end Go.Proofs.X
