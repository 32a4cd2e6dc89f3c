/- A part of the proofs of this claim: BRow1 (BRow1). No conditions. -/
import Derived.Test.YthjccanlmhbecaaBRowT
set_option linter.unusedVariables false
set_option linter.unusedSimpArgs false
open Go Go.Bx Go.Proofs
namespace Go.Proofs.X
set_option maxRecDepth 100000 in
set_option maxHeartbeats 4000000 in
theorem backward_c (ws : List Int) : Con Try.prog 37 [.s (.fzi .u64 ws)] [] (.s (.clo 44 1 (capF [.ptr 0 0 0]))) [some ⟨true, [.one (.fzi .u64 ws)]⟩] := by
 refine con_in 4 Try.func37 rfl rfl (m := 0) rfl ?_
 intro E hP hn hE
 refine w_seq ?_
 refine g_reg hP hn ?_
 refine s_op k_bx ?_
 refine s_op k_as ?_
 refine s_nil trivial ?_
 refine n_wp ?_
 refine w_seq ?_
 refine g_reg hP hn ?_
 refine s_op (k_fn [.ptr 0 0 0]) ?_
 refine s_op k_as ?_
 refine s_nil trivial ?_
 refine n_wp ?_
 refine w_ret ?_
 exact d_ret hP hn hE [] (by first | exact r_tmp Try.results37 | exact r_tmpa Try.results37)

set_option maxRecDepth 100000 in
set_option maxHeartbeats 4000000 in
theorem back_iter {E : Env} (hPE : E.P = Try.prog) {n : Nat} (hnE : E.n = n) (bx : Nat) (ws : List Int) (a b : Nat) (ha : a < n) (hb : b < n) (assign body : Code) (T : Tm) (Hs : Nat → Heap) (hws : ws.length ≤ 1000000) (hbx : ∀ k, k ≤ ws.length → hget (Hs k) bx = some ⟨true, [.one (.fzi .u64 ws)]⟩)
    (hY : ∀ k, k < ws.length → YRound Try.prog n assign body (roundT [a, b] [.s (.int .i64 ((ws.length : Int) - 1 - k)), .s (.int .u64 (ws.getD (ws.length - 1 - k) 0))] T) (Hs k) (Hs (k + 1))) : Iter E 44 1 (capF [.ptr bx 0 0]) #[a, b] assign body T (Hs 0) (Hs ws.length) := by
 intro l D ρ W tm w1 fn vs hH hd hT htm hW hl hvs
 rw [hPE]
 have hps : ∀ p ∈ (#[a, b] : Array Tmp).toList, p < n := by
  intro p hp
  simp at hp
  rcases hp with rfl | rfl <;> assumption
 refine calls_none (args := [.s (.val (.func (.yield l) #[] #[])), .s (.ptr bx 0 0)]) 19 Try.func44 rfl rfl Try.results44 (Nat.le_of_ble_eq_true rfl) hH hd hW ⟨by simp [hvs.1], fun i x hx => ?_⟩ (fun E2 hP hn hE hw0 hρ0 => ?_)
 · match i, hx with
   | 0, hx =>
    simp at hx; subst hx
    refine ⟨?_, rfl⟩
    rw [Array.getD_eq_getD_getElem?, Array.getElem?_append_left (by simp)]; rfl
   | 1, hx =>
    simp at hx; subst hx
    obtain ⟨u, e1, e2⟩ := hvs.2 0 (by omega)
    have : (#[Value.func (.yield l) #[] #[]] ++ vs).getD 1 undef = u := by
     rw [Array.getD_eq_getD_getElem?, Array.getElem?_append_right (by simp)]
     simp [e1]
    rw [this]; exact e2
   | i + 2, hx => simp at hx
 refine i_seq ?_
 refine ig_reg hP hn ?_
 refine s_op (k_ld (by exact a_load_one rfl (hbx 0 (Nat.zero_le _)) rfl)) ?_
 refine s_op k_len ?_
 refine s_op (k_sub (by exact l_bin rfl rfl (b_sub (wrap_i64 (by omega))))) ?_
 refine s_op k_as ?_
 refine s_nil trivial ?_
 refine ni_wp ?_
 refine i_block ?_
 refine i_loop (fun m T H => ∃ (k : Nat) (z : Int), k ≤ ws.length ∧ m = ws.length - k ∧ z = (ws.length : Int) - 1 - k ∧ T = [(0, .s (.val (.func (.yield l) #[] #[]))), (1, .s (.ptr bx 0 0)), (3, .s (.int .i64 z))] ∧ H = Hs k) ws.length ⟨0, (ws.length : Int) - 1, by omega, rfl, by omega, rfl, rfl⟩ weak_tm ?_
 rintro n_ T_ H_ ⟨k, z, hk, rfl, hz, rfl, rfl⟩
 refine i_seq ?_
 refine i_seq ?_
 refine ig_reg hP hn ?_
 refine s_op k_mv ?_
 refine s_op (k_geq (by exact l_bin rfl rfl (b_geq rfl))) ?_
 refine s_nil trivial ?_
 refine ni_wp ?_
 refine iw_if rfl (fun h8 => ?_) (fun h8 => ?_)
 · skip
   have hlt : k < ws.length := by omega
   have hzn : z = ((ws.length - 1 - k : Nat) : Int) := by omega
   refine i_skip ?_
   refine ni_wp ?_
   refine i_seq ?_
   refine i_block ?_
   refine i_seq ?_
   refine i_regY 6 (by rw [hn]; kernel_rfl) (by kernel_rfl) rfl rfl rfl rfl ?_
   rw [hP]
   refine s_op k_mv ?_
   refine s_op k_mv ?_
   refine s_op (k_ld (by exact a_load_one rfl (hbx k hk) rfl)) ?_
   refine s_op k_mv ?_
   refine s_op (k_ix (by exact a_ixi (hj := ⟨hzn⟩) rfl rfl (by omega))) ?_
   refine s_op (k_ld (by exact a_loadf rfl (by omega) rfl)) ?_
   refine s_nil trivial ?_
   refine ⟨[(17, .s (.bool true)), (0, .s (.val (.func (.yield l) #[] #[]))), (1, .s (.ptr bx 0 0)), (3, .s (.int .i64 z))], Hs (k + 1), fun aa ww hr K Q' hK => ?_, ?_⟩
   · rw [← hP]
     exact yield_op (E := E2) (n := n) (D := D) (tm := tm) (fn := fn) (avs := [.s (.int .i64 z), .s (.int .u64 (ws.getD (ws.length - 1 - k) 0))]) (ps := #[a, b]) (Trow := T) (l := l) (H' := Hs (k + 1)) (assign := assign) (body := body) (by exact rfl) (by exact rfl) (by rw [hn]; kernel_rfl) (by rw [hw0]; exact hl) (by rw [hρ0]; exact hT) (htm.trans hnE) hps rfl (by rw [hP, hz]; exact hY k hlt) aa ww hr K Q' (fun a' w' hr' => hK a' w' ((weak_tm : Weak E2 _ _ _ _) a' w' hr'))
   refine s_op k_not ?_
   refine s_nil trivial ?_
   refine ni_wp ?_
   refine iw_F rfl ?_
   refine i_skip ?_
   refine n_blo ?_
   refine ni_wp ?_
   refine ig_reg hP hn ?_
   refine s_op k_mv ?_
   refine s_op (k_sub (by exact l_bin rfl rfl (b_sub (wrap_i64 (by omega))))) ?_
   refine s_op k_as ?_
   refine s_nil trivial ?_
   exact ⟨ws.length - (k + 1), by omega, _, _, weak_tm, k + 1, z - 1, by omega, rfl, by omega, rfl, rfl⟩
 · skip
   have hk2 : k = ws.length := by omega
   subst hk2
   refine i_exit ?_
   refine x_thn ?_
   refine x_thn ?_
   refine x_eq ?_
   exact ⟨.inr rfl, weak_tm⟩

/-- The row's memory: how wide, the bytes, where they are, the place, the words. -/
abbrev RH (each tot at_ : Nat) (out ws : List Int) : Heap := [some ⟨true, [.one (.int .i64 ((each : Nat) : Int))]⟩, some ⟨true, [.ints .u8 tot out]⟩, some ⟨true, [.one (.slice 1 0 0 tot tot)]⟩, some ⟨true, [.one (.int .i64 ((at_ : Nat) : Int))]⟩, some ⟨true, [.one (.fzi .u64 ws)]⟩]
set_option maxRecDepth 100000 in
set_option maxHeartbeats 4000000 in
theorem row1_c (B ws : List Int) (each tot : Nat) (ht : tot = B.length + each * ws.length) (htb : tot ≤ 140737488355328) (hws : ws.length ≤ 1000000) (h0 : 0 < B.length) : Con Try.prog 29 [.s (.fzi .u8 B), .s (.int .i64 ((each : Nat) : Int)), .s (.fzi .u64 ws)] [] (.s (.fzi .u8 (spl (rr tot each ws.length ws ws.length) (B.take B.length) 0 B.length tot))) [] := by
 refine con_in 44 Try.func29 rfl rfl (m := 0) rfl ?_
 intro E hP hn hE
 refine w_seq ?_
 refine g_reg hP hn ?_
 refine s_op k_bx ?_
 refine s_op k_as ?_
 refine s_nil trivial ?_
 refine n_wp ?_
 refine w_seq ?_
 refine g_reg hP hn ?_
 refine s_op k_mv ?_
 refine s_op k_len ?_
 refine s_op k_ld ?_
 refine s_op k_mv ?_
 refine s_op k_len ?_
 refine s_op k_mul ?_
 refine s_op (k_add (by exact l_bin rfl rfl (b_add (r := ((tot : Nat) : Int)) (by rw [ht]; exact m_add (by omega))))) ?_
 refine s_op k_mk ?_
 refine s_op k_al ?_
 refine s_st k_st ?_
 refine s_nil trivial ?_
 refine n_wp ?_
 refine w_seq ?_
 refine g_reg hP hn ?_
 refine s_op k_ld ?_
 refine s_op k_len ?_
 refine s_op k_al ?_
 refine s_st k_st ?_
 refine s_nil trivial ?_
 refine n_wp ?_
 refine w_seq ?_
 refine w_seq ?_
 refine g_reg hP hn ?_
 refine s_op k_mv ?_
 refine s_op (k_call [] (con := backward_c _)) ?_
 refine s_nil trivial ?_
 refine n_wp ?_
 refine w_block ?_
 have hmul : each * ws.length ≤ tot := by omega
 refine w_weak (weak_tm (T' := [(0, .s (.fzi .u8 B)), (4, .s (.ptr 0 0 0)), (7, .s (.ptr 2 0 0)), (8, .s (.ptr 3 0 0)), (22, .s (.clo 44 1 (capF [.ptr 4 0 0])))])) ?_
 refine w_rangeFunc (gf := 44) (n := 1) (q := capF [.ptr 4 0 0]) (Hend := RH each tot (tot - each * ws.length) (rr tot each ws.length ws ws.length) ws) rfl (by rw [hP]; exact Clb.h) (Nat.le_refl _) (back_iter hP hn 4 ws 23 24 (by decide) (by decide) _ _ _ (fun k => RH each tot (tot - each * k) (rr tot each ws.length ws k) ws) hws (fun _ _ => rfl) (fun k hk => ?_)) ?_
 · have hk1 : each * (k + 1) ≤ each * ws.length := Nat.mul_le_mul_left each hk
   have hnx : tot - each * (k + 1) = tot - each * k - each := by rw [Nat.mul_succ]; omega
   have hA1 : each ≤ tot - each * k := by rw [Nat.mul_succ] at hk1; omega
   have hA2 : tot - each * k ≤ tot := Nat.sub_le _ _
   show YRound _ _ _ _ _ (RH each tot (tot - each * k) (rr tot each ws.length ws k) ws) (RH each tot (tot - each * (k + 1)) (rb (rr tot each ws.length ws k) (tot - each * k) (ws.getD (ws.length - 1 - k) 0) each).1 ws)
   rw [hnx]
   have hout := rr_len tot each ws.length ws k
   generalize tot - each * k = A at *
   generalize rr tot each ws.length ws k = out at *
   generalize ws.getD (ws.length - 1 - k) 0 = v at *
   refine ⟨Nat.le_refl _, [(4, .s (.ptr 0 0 0)), (7, .s (.ptr 2 0 0)), (8, .s (.ptr 3 0 0)), (10, .s (.int .u64 v))], fun l E hP hn hE => ⟨?_, ?_⟩⟩
   · skip
     refine ig_reg hP hn ?_
     refine s_op k_as ?_
     refine s_nil trivial ?_
     exact ⟨rfl, weak_tm⟩
   · skip
     refine i_block ?_
     refine i_seq ?_
     refine ig_reg hP hn ?_
     refine s_op k_ld ?_
     refine s_op k_mv ?_
     refine s_nil trivial ?_
     refine ni_wp ?_
     refine i_block ?_
     refine i_loop (fun m T H => ∃ j, j ≤ each ∧ m = each - j ∧ T = [(4, .s (.ptr 0 0 0)), (7, .s (.ptr 2 0 0)), (8, .s (.ptr 3 0 0)), (10, .s (.int .u64 (rb out A v j).2)), (25, .s (.int .i64 ((each : Nat) : Int))), (26, .s (.int .i64 ((j : Nat) : Int)))] ∧ H = RH each tot (A - j) (rb out A v j).1 ws) (each) ⟨0, by omega, rfl, rfl, rfl⟩ weak_tm ?_
     rintro n_ T_ H_ ⟨j, hj, rfl, rfl, rfl⟩
     have hlj : (rb out A v j).1.length = tot := (rb_len out A v j).trans hout
     refine i_seq ?_
     refine ig_reg hP hn ?_
     refine s_op k_lss ?_
     refine s_nil trivial ?_
     refine ni_wp ?_
     refine i_seq ?_
     refine iw_if rfl (fun h_t27 => ?_) (fun h_t27 => ?_)
     · skip
       refine i_skip ?_
       refine ni_wp ?_
       refine i_seq ?_
       refine i_block ?_
       refine i_seq ?_
       refine ig_reg hP hn ?_
       refine s_op k_ld ?_
       refine s_op k_sub ?_
       refine s_st k_st ?_
       refine s_nil trivial ?_
       refine ni_wp ?_
       refine ig_reg hP hn ?_
       refine s_op k_ld ?_
       refine s_op k_ld ?_
       refine s_op k_mv ?_
       refine s_op k_cv ?_
       refine s_op k_mv ?_
       refine s_op (k_quo (by exact l_bin rfl rfl (b_quo (by decide) rfl))) ?_
       refine s_op k_ix ?_
       refine s_st k_st ?_
       refine s_op k_as ?_
       refine s_nil trivial ?_
       refine n_blo ?_
       refine ni_wp ?_
       refine ig_reg hP hn ?_
       refine s_op k_add ?_
       refine s_op k_mv ?_
       refine s_nil trivial ?_
       exact n_round (each - (j + 1)) (by omega) ⟨j + 1, by omega, rfl, rfl, rfl⟩ weak_tm
     · skip
       have hje : j = each := by omega
       subst hje
       refine i_exit ?_
       refine x_thn ?_
       refine x_thn ?_
       refine x_eq ?_
       refine n_blo ?_
       exact ⟨rfl, weak_tm⟩
 have hat : tot - each * ws.length = B.length := by omega
 rw [hat]
 refine n_blo ?_
 refine n_wp ?_
 refine w_seq ?_
 refine g_reg hP hn ?_
 refine s_op k_ld ?_
 refine s_op k_ld ?_
 refine s_op k_sl ?_
 refine s_op k_mv ?_
 refine s_op (k_cpn B.length) ?_
 refine s_nil trivial ?_
 refine n_wp ?_
 refine w_seq ?_
 refine g_reg hP hn ?_
 refine s_op k_ld ?_
 refine s_op k_as ?_
 refine s_nil trivial ?_
 refine n_wp ?_
 refine w_ret ?_
 have HL : (spl (rr tot each ws.length ws ws.length) (B.take B.length) 0 B.length tot).length = tot := spl_len _ _ _ _ _
 exact d_retw hP hn (r_tmp Try.results29) ((frz_sl 0 (l' := spl (rr tot each ws.length ws ws.length) (B.take B.length) 0 B.length tot) (hl := HL) (hl' := by rw [List.drop_zero]; exact List.take_of_length_le (Nat.le_of_eq HL))).trans (wk hE []))

set_option maxRecDepth 100000 in
set_option maxHeartbeats 4000000 in
theorem row0_c (B ws : List Int) (each tot : Nat) (ht : tot = B.length + each * ws.length) (htb : tot ≤ 140737488355328) (hws : ws.length ≤ 1000000) (h0 : B.length = 0) : Con Try.prog 29 [.s (.fzi .u8 B), .s (.int .i64 ((each : Nat) : Int)), .s (.fzi .u64 ws)] [] (.s (.fzi .u8 (rr tot each ws.length ws ws.length))) [] := by
 refine con_in 44 Try.func29 rfl rfl (m := 0) rfl ?_
 intro E hP hn hE
 refine w_seq ?_
 refine g_reg hP hn ?_
 refine s_op k_bx ?_
 refine s_op k_as ?_
 refine s_nil trivial ?_
 refine n_wp ?_
 refine w_seq ?_
 refine g_reg hP hn ?_
 refine s_op k_mv ?_
 refine s_op k_len ?_
 refine s_op k_ld ?_
 refine s_op k_mv ?_
 refine s_op k_len ?_
 refine s_op k_mul ?_
 refine s_op (k_add (by exact l_bin rfl rfl (b_add (r := ((tot : Nat) : Int)) (by rw [ht]; exact m_add (by omega))))) ?_
 refine s_op k_mk ?_
 refine s_op k_al ?_
 refine s_st k_st ?_
 refine s_nil trivial ?_
 refine n_wp ?_
 refine w_seq ?_
 refine g_reg hP hn ?_
 refine s_op k_ld ?_
 refine s_op k_len ?_
 refine s_op k_al ?_
 refine s_st k_st ?_
 refine s_nil trivial ?_
 refine n_wp ?_
 refine w_seq ?_
 refine w_seq ?_
 refine g_reg hP hn ?_
 refine s_op k_mv ?_
 refine s_op (k_call [] (con := backward_c _)) ?_
 refine s_nil trivial ?_
 refine n_wp ?_
 refine w_block ?_
 have hmul : each * ws.length ≤ tot := by omega
 refine w_weak (weak_tm (T' := [(0, .s (.fzi .u8 B)), (4, .s (.ptr 0 0 0)), (7, .s (.ptr 2 0 0)), (8, .s (.ptr 3 0 0)), (22, .s (.clo 44 1 (capF [.ptr 4 0 0])))])) ?_
 refine w_rangeFunc (gf := 44) (n := 1) (q := capF [.ptr 4 0 0]) (Hend := RH each tot (tot - each * ws.length) (rr tot each ws.length ws ws.length) ws) rfl (by rw [hP]; exact Clb.h) (Nat.le_refl _) (back_iter hP hn 4 ws 23 24 (by decide) (by decide) _ _ _ (fun k => RH each tot (tot - each * k) (rr tot each ws.length ws k) ws) hws (fun _ _ => rfl) (fun k hk => ?_)) ?_
 · have hk1 : each * (k + 1) ≤ each * ws.length := Nat.mul_le_mul_left each hk
   have hnx : tot - each * (k + 1) = tot - each * k - each := by rw [Nat.mul_succ]; omega
   have hA1 : each ≤ tot - each * k := by rw [Nat.mul_succ] at hk1; omega
   have hA2 : tot - each * k ≤ tot := Nat.sub_le _ _
   show YRound _ _ _ _ _ (RH each tot (tot - each * k) (rr tot each ws.length ws k) ws) (RH each tot (tot - each * (k + 1)) (rb (rr tot each ws.length ws k) (tot - each * k) (ws.getD (ws.length - 1 - k) 0) each).1 ws)
   rw [hnx]
   have hout := rr_len tot each ws.length ws k
   generalize tot - each * k = A at *
   generalize rr tot each ws.length ws k = out at *
   generalize ws.getD (ws.length - 1 - k) 0 = v at *
   refine ⟨Nat.le_refl _, [(4, .s (.ptr 0 0 0)), (7, .s (.ptr 2 0 0)), (8, .s (.ptr 3 0 0)), (10, .s (.int .u64 v))], fun l E hP hn hE => ⟨?_, ?_⟩⟩
   · skip
     refine ig_reg hP hn ?_
     refine s_op k_as ?_
     refine s_nil trivial ?_
     exact ⟨rfl, weak_tm⟩
   · skip
     refine i_block ?_
     refine i_seq ?_
     refine ig_reg hP hn ?_
     refine s_op k_ld ?_
     refine s_op k_mv ?_
     refine s_nil trivial ?_
     refine ni_wp ?_
     refine i_block ?_
     refine i_loop (fun m T H => ∃ j, j ≤ each ∧ m = each - j ∧ T = [(4, .s (.ptr 0 0 0)), (7, .s (.ptr 2 0 0)), (8, .s (.ptr 3 0 0)), (10, .s (.int .u64 (rb out A v j).2)), (25, .s (.int .i64 ((each : Nat) : Int))), (26, .s (.int .i64 ((j : Nat) : Int)))] ∧ H = RH each tot (A - j) (rb out A v j).1 ws) (each) ⟨0, by omega, rfl, rfl, rfl⟩ weak_tm ?_
     rintro n_ T_ H_ ⟨j, hj, rfl, rfl, rfl⟩
     have hlj : (rb out A v j).1.length = tot := (rb_len out A v j).trans hout
     refine i_seq ?_
     refine ig_reg hP hn ?_
     refine s_op k_lss ?_
     refine s_nil trivial ?_
     refine ni_wp ?_
     refine i_seq ?_
     refine iw_if rfl (fun h_t27 => ?_) (fun h_t27 => ?_)
     · skip
       refine i_skip ?_
       refine ni_wp ?_
       refine i_seq ?_
       refine i_block ?_
       refine i_seq ?_
       refine ig_reg hP hn ?_
       refine s_op k_ld ?_
       refine s_op k_sub ?_
       refine s_st k_st ?_
       refine s_nil trivial ?_
       refine ni_wp ?_
       refine ig_reg hP hn ?_
       refine s_op k_ld ?_
       refine s_op k_ld ?_
       refine s_op k_mv ?_
       refine s_op k_cv ?_
       refine s_op k_mv ?_
       refine s_op (k_quo (by exact l_bin rfl rfl (b_quo (by decide) rfl))) ?_
       refine s_op k_ix ?_
       refine s_st k_st ?_
       refine s_op k_as ?_
       refine s_nil trivial ?_
       refine n_blo ?_
       refine ni_wp ?_
       refine ig_reg hP hn ?_
       refine s_op k_add ?_
       refine s_op k_mv ?_
       refine s_nil trivial ?_
       exact n_round (each - (j + 1)) (by omega) ⟨j + 1, by omega, rfl, rfl, rfl⟩ weak_tm
     · skip
       have hje : j = each := by omega
       subst hje
       refine i_exit ?_
       refine x_thn ?_
       refine x_thn ?_
       refine x_eq ?_
       refine n_blo ?_
       exact ⟨rfl, weak_tm⟩
 have hat : tot - each * ws.length = B.length := by omega
 rw [hat]
 refine n_blo ?_
 refine n_wp ?_
 refine w_seq ?_
 refine g_reg hP hn ?_
 refine s_op k_ld ?_
 refine s_op k_ld ?_
 refine s_op k_sl ?_
 refine s_op k_mv ?_
 refine s_op a_copy0 ?_
 refine s_nil trivial ?_
 refine n_wp ?_
 refine w_seq ?_
 refine g_reg hP hn ?_
 refine s_op k_ld ?_
 refine s_op k_as ?_
 refine s_nil trivial ?_
 refine n_wp ?_
 refine w_ret ?_
 have HL : (rr tot each ws.length ws ws.length).length = tot := rr_len _ _ _ _ _
 exact d_retw hP hn (r_tmp Try.results29) ((frz_sl 0 (l' := rr tot each ws.length ws ws.length) (hl := HL) (hl' := by rw [List.drop_zero]; exact List.take_of_length_le (Nat.le_of_eq HL))).trans (wk hE []))

theorem row_c (B ws : List Int) (each tot : Nat) (ht : tot = B.length + each * ws.length) (htb : tot ≤ 140737488355328) (hws : ws.length ≤ 1000000) : Con Try.prog 29 [.s (.fzi .u8 B), .s (.int .i64 ((each : Nat) : Int)), .s (.fzi .u64 ws)] [] (.s (.fzi .u8 (rowL tot B B.length each ws.length ws))) [] := by
 unfold rowL
 by_cases h : B.length = 0
 · rw [if_pos h]; exact row0_c B ws each tot ht htb hws h
 · rw [if_neg h]; exact row1_c B ws each tot ht htb hws (by omega)

set_option maxRecDepth 100000 in
set_option maxHeartbeats 4000000 in
theorem put_c (B : List Int) (v : Int) (n : Nat) (hn8 : n ≤ 8) (hB : B.length ≤ 140737488355000) : Con Try.prog 21 [.s (.fzi .u8 B), .s (.int .u64 v), .s (.int .i64 ((n : Nat) : Int))] [] (.s (.fzi .u8 (rowL (B.length + n * 1) B B.length n 1 [v]))) [] := by
 refine con_in 14 Try.func21 rfl rfl (m := 0) rfl ?_
 intro E hP hn hE
 refine w_seq ?_
 refine g_reg hP hn ?_
 refine s_op k_as ?_
 refine s_nil trivial ?_
 refine n_wp ?_
 refine w_seq ?_
 refine g_reg hP hn ?_
 refine s_op k_mv ?_
 refine s_op k_mv ?_
 refine s_op (k_min (by exact l_min (r := ((n : Nat) : Int)) rfl rfl (by have := hn8; split <;> omega))) ?_
 refine s_op (k_max (by exact l_max (r := ((n : Nat) : Int)) rfl rfl (by split <;> omega))) ?_
 refine s_op k_mv ?_
 refine s_op k_bsf ?_
 refine s_op (k_call [] (con := row_c B [v] n (B.length + n * 1) rfl (by omega) (Nat.le_of_ble_eq_true rfl))) ?_
 refine s_op k_as ?_
 refine s_nil trivial ?_
 refine n_wp ?_
 refine w_ret ?_
 exact d_ret hP hn hE [] (by first | exact r_tmp Try.results21 | exact r_tmpa Try.results21)

end Go.Proofs.X
