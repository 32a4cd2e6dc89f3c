/- A part of the proofs of this claim: LaneW1 (LaneW1). No conditions. -/
import Derived.Test.YtffflnpidipheaaSealW3
import Derived.Test.YtffflnpidipheaaSealA
import Derived.Test.YtffflnpidipheaaAb30
set_option linter.unusedVariables false
set_option linter.unusedSimpArgs false
open Go Go.Ab Go.Proofs
namespace Go.Proofs.X
theorem callable_67 : Callable Try.prog 67 := ⟨_, Try.func67, by kernel_rfl, rfl⟩
theorem callable_77 : Callable Try.prog 77 := ⟨_, Try.func77, by kernel_rfl, rfl⟩
theorem callable_76 : Callable Try.prog 76 := ⟨_, Try.func76, by kernel_rfl, rfl⟩
theorem callable_64 : Callable Try.prog 64 := ⟨_, Try.func64, by kernel_rfl, rfl⟩
theorem callable_65 : Callable Try.prog 65 := ⟨_, Try.func65, by kernel_rfl, rfl⟩
theorem made_ne (n : Nat) (e : n = 1) : (!decide (∀ i, i < n → ([1] : List Int).getD i 0 = (z 1).getD i 0)) = true := by
  have h : ¬ ∀ i, i < n → ([1] : List Int).getD i 0 = (z 1).getD i 0 := fun h => by
    have := h 0 (by omega)
    simp [z] at this
  simp only [decide_eq_false h, Bool.not_false]
theorem build0_148 (w : World) : (Instr.build 148 #[]).run Try.prog w = .ok (.agg (Array.replicate 1 (Value.int .i64 0))) w := by kernel_rfl
set_option maxRecDepth 100000 in
set_option maxHeartbeats 2000000 in
theorem WNew_c (H : Heap)  : ACall Try.prog 67 H [] (.s (.ptr (H.length + 0) (0 + 0) 0)) [⟨true, [.ints .i64 1 [1], .ints .u64 64 (z 64), .one (.int .u64 0), .one (.int .u64 0)]⟩] := by
  refine acall_gen2 (args0 := []) (H0 := []) (Hf := [some ⟨true, [.ints .i64 1 [1], .ints .u64 64 (z 64), .one (.int .u64 0), .one (.int .u64 0)]⟩]) (v0 := .s (.ptr 0 0 0)) [] [0] Try.func67 rfl Try.ntmps67 (by simp) rfl
    (fun k id sh b0 h1 h2 => by simp at h1) (fun W ρ vals w hH ha k id' sh' hk => by simp at hk) rfl rfl rfl (by decide) rfl rfl rfl (fun W w ρ0 hW hdom => ?_)
  refine w_seq ?_
  refine c_reg (by kernel_rfl) rfl ?_
  refine s_p (by first | exact h_assign (v := .s _) rfl | exact h_assign (v := .agg _) rfl | exact h_assign (v := .tup _) rfl) ?_
  refine s_nil ?_
  refine n_wp ?_
  refine w_seq ?_
  refine c_reg (by kernel_rfl) rfl ?_
  refine s_p (h_build_ints (n := 1) (l := [(0, 1)]) (xs := [1]) rfl (fun w => by kernel_rfl) rfl) ?_
  refine s_p (h_bld1 (n := 1) (zr := ((z 64).map (Value.int .u64) ++ [Value.int .u64 0, Value.int .u64 0])) (Z := [.ints .u64 64 (z 64), .one (.int .u64 0), .one (.int .u64 0)]) (z := .agg (.int .i64 0 :: ((z 64).map (Value.int .u64) ++ [Value.int .u64 0, Value.int .u64 0])).toArray) (places := #[(0, 1), (1, 64), (65, 1), (66, 1)]) rfl rfl Try.underlying151 (fun w => by kernel_rfl) (fun w => by kernel_rfl) rfl rfl (by kernel_rfl) (by decide) (fun ρ => rep_cons_ints (z_len 64) (rep_cons_one ⟨rfl, rfl⟩ (rep_cons_one ⟨rfl, rfl⟩ rep_nil_agg))) rfl) ?_
  refine s_a (by first | exact h_box_agg rfl rfl | exact h_box rfl (by simp) rfl) rfl ?_
  refine s_p (by first | exact h_assign (v := .s _) rfl | exact h_assign (v := .agg _) rfl | exact h_assign (v := .tup _) rfl) ?_
  refine s_nil ?_
  refine n_wp ?_
  refine w_ret ?_
  exact doneM (by repeat (first | exact trivial | refine ⟨rfl, ?_⟩)) (ret_tmp Try.results67 rfl)
set_option maxRecDepth 100000 in
set_option maxHeartbeats 2000000 in
theorem there_c (H : Heap) (iw : Nat) (C : List Int) (top taken : Nat) (bw : Blk) (hw : H[iw]? = some (some bw)) (hws : bw.segs = [.ints .i64 1 [1], .ints .u64 64 C, .one (.int .u64 ((top : Nat) : Int)), .one (.int .u64 ((taken : Nat) : Int))]) : ACall Try.prog 77 H [.s (.ptr iw (0 + 0) 0)] (.s (.bool true)) [] := by
  refine acall_gen2 (args0 := [.s (.ptr 0 0 0)]) (H0 := [some ⟨false, [.ints .i64 1 [1], .ints .u64 64 C, .one (.int .u64 ((top : Nat) : Int)), .one (.int .u64 ((taken : Nat) : Int))]⟩]) (Hf := []) (v0 := (.s (.bool true))) [(iw, 0)] [] Try.func77 rfl Try.ntmps77 (by simp) rfl
    (fun k id' sh' b0 h1 h2 => by
      match k, h1, h2 with
      | 0, h1, h2 => simp at h1 h2; obtain ⟨rfl, rfl⟩ := h1; subst h2; exact ⟨rfl, rfl, _, hw, foot_same hws⟩
      | k + 1, h1, _ => simp at h1)
    (fun W ρ vals w hH ha k id' sh' hk => by
      match k, hk with
      | 0, hk => simp at hk; obtain ⟨rfl, rfl⟩ := hk; exact ⟨(List.getElem?_eq_some_iff.1 hw).1, live_ptr (i := 0) ha rfl⟩
      | k + 1, hk => simp at hk)
    rfl rfl rfl (by decide) rfl rfl rfl (fun W w ρ0 hW hdom => ?_)
  refine w_seq ?_
  refine c_reg (by kernel_rfl) rfl ?_
  refine s_p (by first | exact h_assign (v := .s _) rfl | exact h_assign (v := .agg _) rfl | exact h_assign (v := .tup _) rfl) ?_
  refine s_nil ?_
  refine n_wp ?_
  refine w_seq ?_
  refine c_reg (by kernel_rfl) rfl ?_
  refine s_p (by first | exact h_move (v := .s _) rfl | exact h_move (v := .agg _) rfl | exact h_move (v := .tup _) rfl) ?_
  refine s_p (h_nen rfl rfl Try.underlying80) ?_
  refine s_p (by first | exact h_move (v := .s _) rfl | exact h_move (v := .agg _) rfl | exact h_move (v := .tup _) rfl) ?_
  first | refine s_on rfl rfl (by first | rfl | assumption) (by first | exact h_move (v := .s _) rfl | exact h_move (v := .agg _) rfl | exact h_move (v := .tup _) rfl) ?_ | refine s_off rfl rfl (by first | rfl | assumption) ?_
  first | refine s_on rfl rfl (by first | rfl | assumption) (h_nilCheck rfl) ?_ | refine s_off rfl rfl (by first | rfl | assumption) ?_
  first | refine s_on rfl rfl (by first | rfl | assumption) (h_field rfl Try.underlying151 rfl Try.sizeOf148 (by decide)) ?_ | refine s_off rfl rfl (by first | rfl | assumption) ?_
  first | refine s_on rfl rfl (by first | rfl | assumption) (by first | exact h_load_agg rfl rfl (.whole rfl) Try.isAgg148 Try.sizeOf148 | exact h_load_agg rfl rfl (.seg rfl rfl) Try.isAgg148 Try.sizeOf148 | exact h_load_agg rfl rfl (.ints rfl (by omega)) Try.isAgg148 Try.sizeOf148) ?_ | refine s_off rfl rfl (by first | rfl | assumption) ?_
  first | refine s_on rfl rfl (by first | rfl | assumption) (h_build0 (segs := [.ints .i64 1 (z 1)]) build0_148 (by kernel_rfl)) ?_ | refine s_off rfl rfl (by first | rfl | assumption) ?_
  first | refine s_on rfl rfl (by first | rfl | assumption) (h_neq_ints (l := [1]) (m := z 1) rfl rfl Try.underlying148 Try.underlying3 Try.sizeOf3 Try.isAgg3 (by kernel_rfl) (made_ne 1 rfl)) ?_ | refine s_off rfl rfl (by first | rfl | assumption) ?_
  refine s_p (by first | exact h_pick_t rfl (by first | rfl | assumption) rfl | exact h_pick_f rfl (by first | rfl | assumption) rfl) ?_
  refine s_p (by first | exact h_assign (v := .s _) rfl | exact h_assign (v := .agg _) rfl | exact h_assign (v := .tup _) rfl) ?_
  refine s_nil ?_
  refine n_wp ?_
  refine w_ret ?_
  exact doneM (by repeat (first | exact trivial | refine ⟨rfl, ?_⟩)) (ret_tmp Try.results77 rfl)
set_option maxRecDepth 100000 in
set_option maxHeartbeats 2000000 in
theorem Fits_ok_g (H : Heap) (iw : Nat) (C : List Int) (top taken : Nat) (bw : Blk) (hw : H[iw]? = some (some bw)) (hws : bw.segs = [.ints .i64 1 [1], .ints .u64 64 C, .one (.int .u64 ((top : Nat) : Int)), .one (.int .u64 ((taken : Nat) : Int))]) (n : Nat) (hn0 : n ≠ 0) (hn : n < 18446744073709551616) (htop : top < 18446744073709551616) (hgt : n < top) (hold : top - n < 64) (hC : C.getD (n % 64) 0 ≠ ((n : Nat) : Int)) : ACall Try.prog 76 H [.s (.ptr iw (0 + 0) 0), .s (.int .u64 ((n : Nat) : Int))] (.s (.int .i64 0)) [] := by
  refine acall_gen2 (args0 := [.s (.ptr 0 0 0), .s (.int .u64 ((n : Nat) : Int))]) (H0 := [some ⟨false, [.ints .i64 1 [1], .ints .u64 64 C, .one (.int .u64 ((top : Nat) : Int)), .one (.int .u64 ((taken : Nat) : Int))]⟩]) (Hf := []) (v0 := (.s (.int .i64 0))) [(iw, 0)] [] Try.func76 rfl Try.ntmps76 (by simp) rfl
    (fun k id' sh' b0 h1 h2 => by
      match k, h1, h2 with
      | 0, h1, h2 => simp at h1 h2; obtain ⟨rfl, rfl⟩ := h1; subst h2; exact ⟨rfl, rfl, _, hw, foot_same hws⟩
      | k + 1, h1, _ => simp at h1)
    (fun W ρ vals w hH ha k id' sh' hk => by
      match k, hk with
      | 0, hk => simp at hk; obtain ⟨rfl, rfl⟩ := hk; exact ⟨(List.getElem?_eq_some_iff.1 hw).1, live_ptr (i := 0) ha rfl⟩
      | k + 1, hk => simp at hk)
    rfl rfl rfl (by decide) rfl rfl rfl (fun W w ρ0 hW hdom => ?_)
  refine w_seq ?_
  refine c_reg (by kernel_rfl) rfl ?_
  refine s_p (by first | exact h_assign (v := .s _) rfl | exact h_assign (v := .agg _) rfl | exact h_assign (v := .tup _) rfl) ?_
  refine s_nil ?_
  refine n_wp ?_
  refine w_seq ?_
  refine w_block ?_
  refine w_seq ?_
  refine c_reg (by kernel_rfl) rfl ?_
  refine s_p (by first | exact h_move (v := .s _) rfl | exact h_move (v := .agg _) rfl | exact h_move (v := .tup _) rfl) ?_
  refine s_p (h_call callable_77 rfl (there_c _ 0 C top taken _ rfl rfl)) ?_
  refine s_p (h_not rfl) ?_
  refine s_p (by first | exact h_assign (v := .s _) rfl | exact h_assign (v := .agg _) rfl | exact h_assign (v := .tup _) rfl) ?_
  refine s_nil ?_
  refine n_wp ?_
  refine w_cond rfl (fun hc_t5 => ?_) (fun hc_t5 => ?_)
  · exact absurd hc_t5 (by simp)
  refine w_seq ?_
  refine c_reg (by kernel_rfl) rfl ?_
  refine s_p (by first | exact h_move (v := .s _) rfl | exact h_move (v := .agg _) rfl | exact h_move (v := .tup _) rfl) ?_
  refine s_p (h_bin rfl rfl (b_eql (decide_eq_false (by omega)))) ?_
  refine s_p (by first | exact h_assign (v := .s _) rfl | exact h_assign (v := .agg _) rfl | exact h_assign (v := .tup _) rfl) ?_
  refine s_nil ?_
  refine n_wp ?_
  refine w_cond rfl (fun hc_t9 => ?_) (fun hc_t9 => ?_)
  · exact absurd hc_t9 (by simp)
  refine w_seq ?_
  refine c_reg (by kernel_rfl) rfl ?_
  refine s_p (by first | exact h_move (v := .s _) rfl | exact h_move (v := .agg _) rfl | exact h_move (v := .tup _) rfl) ?_
  refine s_p (h_nilCheck rfl) ?_
  refine s_p (h_field rfl Try.underlying151 rfl Try.sizeOf40 (by decide)) ?_
  refine s_p (by first | exact h_load_ints rfl rfl rfl (by omega) rfl Try.isAgg40 | exact h_load_one rfl rfl rfl Try.isAgg40) ?_
  refine s_p (by first | exact h_move (v := .s _) rfl | exact h_move (v := .agg _) rfl | exact h_move (v := .tup _) rfl) ?_
  refine s_p (h_bin rfl rfl (b_gtr (decide_eq_true (by omega)))) ?_
  refine s_p (by first | exact h_move (v := .s _) rfl | exact h_move (v := .agg _) rfl | exact h_move (v := .tup _) rfl) ?_
  first | refine s_on rfl rfl (by first | rfl | assumption) (by first | exact h_move (v := .s _) rfl | exact h_move (v := .agg _) rfl | exact h_move (v := .tup _) rfl) ?_ | refine s_off rfl rfl (by first | rfl | assumption) ?_
  first | refine s_on rfl rfl (by first | rfl | assumption) (h_nilCheck rfl) ?_ | refine s_off rfl rfl (by first | rfl | assumption) ?_
  first | refine s_on rfl rfl (by first | rfl | assumption) (h_field rfl Try.underlying151 rfl Try.sizeOf40 (by decide)) ?_ | refine s_off rfl rfl (by first | rfl | assumption) ?_
  first | refine s_on rfl rfl (by first | rfl | assumption) (by first | exact h_load_ints rfl rfl rfl (by omega) rfl Try.isAgg40 | exact h_load_one rfl rfl rfl Try.isAgg40) ?_ | refine s_off rfl rfl (by first | rfl | assumption) ?_
  first | refine s_on rfl rfl (by first | rfl | assumption) (by first | exact h_move (v := .s _) rfl | exact h_move (v := .agg _) rfl | exact h_move (v := .tup _) rfl) ?_ | refine s_off rfl rfl (by first | rfl | assumption) ?_
  first | refine s_on rfl rfl (by first | rfl | assumption) (h_bin rfl rfl (b_sub (r := ((top - n : Nat) : Int)) (by rw [wrap64 (by omega) (by omega)]; omega))) ?_ | refine s_off rfl rfl (by first | rfl | assumption) ?_
  first | refine s_on rfl rfl (by first | rfl | assumption) (h_bin rfl rfl (b_geq (decide_eq_false (by omega)))) ?_ | refine s_off rfl rfl (by first | rfl | assumption) ?_
  refine s_p (by first | exact h_pick_t rfl (by first | rfl | assumption) rfl | exact h_pick_f rfl (by first | rfl | assumption) rfl) ?_
  refine s_p (by first | exact h_assign (v := .s _) rfl | exact h_assign (v := .agg _) rfl | exact h_assign (v := .tup _) rfl) ?_
  refine s_nil ?_
  refine n_wp ?_
  refine w_cond rfl (fun hc_t12 => ?_) (fun hc_t12 => ?_)
  · exact absurd hc_t12 (by simp)
  refine w_seq ?_
  refine c_reg (by kernel_rfl) rfl ?_
  refine s_p (by first | exact h_move (v := .s _) rfl | exact h_move (v := .agg _) rfl | exact h_move (v := .tup _) rfl) ?_
  refine s_p (by first | exact h_move (v := .s _) rfl | exact h_move (v := .agg _) rfl | exact h_move (v := .tup _) rfl) ?_
  refine s_p (h_bin rfl rfl (b_rem (r := ((n % 64 : Nat) : Int)) (by omega) rfl)) ?_
  refine s_p (h_nilCheck rfl) ?_
  refine s_p (h_field rfl Try.underlying151 rfl Try.sizeOf149 (by decide)) ?_
  refine s_p (by first | exact h_ix rfl rfl Try.underlying149 Try.sizeOf40 (by omega) | exact h_ixa rfl rfl Try.underlying149 Try.sizeOf40 (by omega) | exact h_ixl (Int.toNat _) rfl rfl (Int.toNat_of_nonneg (by omega)).symm Try.underlying149 Try.sizeOf40 (by omega)) ?_
  refine s_p (by first | exact h_load_ints rfl rfl rfl (by omega) rfl Try.isAgg40 | exact h_load_one rfl rfl rfl Try.isAgg40) ?_
  refine s_p (by first | exact h_move (v := .s _) rfl | exact h_move (v := .agg _) rfl | exact h_move (v := .tup _) rfl) ?_
  refine s_p (h_bin rfl rfl (b_eql (decide_eq_false hC))) ?_
  refine s_p (by first | exact h_assign (v := .s _) rfl | exact h_assign (v := .agg _) rfl | exact h_assign (v := .tup _) rfl) ?_
  refine s_nil ?_
  refine n_wp ?_
  refine w_cond rfl (fun hc_t28 => ?_) (fun hc_t28 => ?_)
  · exact absurd hc_t28 (by simp)
  refine w_skip ?_
  refine n_blo ?_
  refine n_wp ?_
  refine w_seq ?_
  refine c_reg (by kernel_rfl) rfl ?_
  refine s_p (by first | exact h_assign (v := .s _) rfl | exact h_assign (v := .agg _) rfl | exact h_assign (v := .tup _) rfl) ?_
  refine s_nil ?_
  refine n_wp ?_
  refine w_ret ?_
  exact doneM (by repeat (first | exact trivial | refine ⟨rfl, ?_⟩)) (ret_tmp Try.results76 rfl)
set_option maxRecDepth 100000 in
set_option maxHeartbeats 2000000 in
theorem Fits_ok_l (H : Heap) (iw : Nat) (C : List Int) (top taken : Nat) (bw : Blk) (hw : H[iw]? = some (some bw)) (hws : bw.segs = [.ints .i64 1 [1], .ints .u64 64 C, .one (.int .u64 ((top : Nat) : Int)), .one (.int .u64 ((taken : Nat) : Int))]) (n : Nat) (hn0 : n ≠ 0) (hn : n < 18446744073709551616) (htop : top < 18446744073709551616) (hgt : top ≤ n) (hC : C.getD (n % 64) 0 ≠ ((n : Nat) : Int)) : ACall Try.prog 76 H [.s (.ptr iw (0 + 0) 0), .s (.int .u64 ((n : Nat) : Int))] (.s (.int .i64 0)) [] := by
  refine acall_gen2 (args0 := [.s (.ptr 0 0 0), .s (.int .u64 ((n : Nat) : Int))]) (H0 := [some ⟨false, [.ints .i64 1 [1], .ints .u64 64 C, .one (.int .u64 ((top : Nat) : Int)), .one (.int .u64 ((taken : Nat) : Int))]⟩]) (Hf := []) (v0 := (.s (.int .i64 0))) [(iw, 0)] [] Try.func76 rfl Try.ntmps76 (by simp) rfl
    (fun k id' sh' b0 h1 h2 => by
      match k, h1, h2 with
      | 0, h1, h2 => simp at h1 h2; obtain ⟨rfl, rfl⟩ := h1; subst h2; exact ⟨rfl, rfl, _, hw, foot_same hws⟩
      | k + 1, h1, _ => simp at h1)
    (fun W ρ vals w hH ha k id' sh' hk => by
      match k, hk with
      | 0, hk => simp at hk; obtain ⟨rfl, rfl⟩ := hk; exact ⟨(List.getElem?_eq_some_iff.1 hw).1, live_ptr (i := 0) ha rfl⟩
      | k + 1, hk => simp at hk)
    rfl rfl rfl (by decide) rfl rfl rfl (fun W w ρ0 hW hdom => ?_)
  refine w_seq ?_
  refine c_reg (by kernel_rfl) rfl ?_
  refine s_p (by first | exact h_assign (v := .s _) rfl | exact h_assign (v := .agg _) rfl | exact h_assign (v := .tup _) rfl) ?_
  refine s_nil ?_
  refine n_wp ?_
  refine w_seq ?_
  refine w_block ?_
  refine w_seq ?_
  refine c_reg (by kernel_rfl) rfl ?_
  refine s_p (by first | exact h_move (v := .s _) rfl | exact h_move (v := .agg _) rfl | exact h_move (v := .tup _) rfl) ?_
  refine s_p (h_call callable_77 rfl (there_c _ 0 C top taken _ rfl rfl)) ?_
  refine s_p (h_not rfl) ?_
  refine s_p (by first | exact h_assign (v := .s _) rfl | exact h_assign (v := .agg _) rfl | exact h_assign (v := .tup _) rfl) ?_
  refine s_nil ?_
  refine n_wp ?_
  refine w_cond rfl (fun hc_t5 => ?_) (fun hc_t5 => ?_)
  · exact absurd hc_t5 (by simp)
  refine w_seq ?_
  refine c_reg (by kernel_rfl) rfl ?_
  refine s_p (by first | exact h_move (v := .s _) rfl | exact h_move (v := .agg _) rfl | exact h_move (v := .tup _) rfl) ?_
  refine s_p (h_bin rfl rfl (b_eql (decide_eq_false (by omega)))) ?_
  refine s_p (by first | exact h_assign (v := .s _) rfl | exact h_assign (v := .agg _) rfl | exact h_assign (v := .tup _) rfl) ?_
  refine s_nil ?_
  refine n_wp ?_
  refine w_cond rfl (fun hc_t9 => ?_) (fun hc_t9 => ?_)
  · exact absurd hc_t9 (by simp)
  refine w_seq ?_
  refine c_reg (by kernel_rfl) rfl ?_
  refine s_p (by first | exact h_move (v := .s _) rfl | exact h_move (v := .agg _) rfl | exact h_move (v := .tup _) rfl) ?_
  refine s_p (h_nilCheck rfl) ?_
  refine s_p (h_field rfl Try.underlying151 rfl Try.sizeOf40 (by decide)) ?_
  refine s_p (by first | exact h_load_ints rfl rfl rfl (by omega) rfl Try.isAgg40 | exact h_load_one rfl rfl rfl Try.isAgg40) ?_
  refine s_p (by first | exact h_move (v := .s _) rfl | exact h_move (v := .agg _) rfl | exact h_move (v := .tup _) rfl) ?_
  refine s_p (h_bin rfl rfl (b_gtr (decide_eq_false (by omega)))) ?_
  refine s_p (by first | exact h_move (v := .s _) rfl | exact h_move (v := .agg _) rfl | exact h_move (v := .tup _) rfl) ?_
  first | refine s_on rfl rfl (by first | rfl | assumption) (by first | exact h_move (v := .s _) rfl | exact h_move (v := .agg _) rfl | exact h_move (v := .tup _) rfl) ?_ | refine s_off rfl rfl (by first | rfl | assumption) ?_
  first | refine s_on rfl rfl (by first | rfl | assumption) (h_nilCheck rfl) ?_ | refine s_off rfl rfl (by first | rfl | assumption) ?_
  first | refine s_on rfl rfl (by first | rfl | assumption) (h_field rfl Try.underlying151 rfl Try.sizeOf40 (by decide)) ?_ | refine s_off rfl rfl (by first | rfl | assumption) ?_
  first | refine s_on rfl rfl (by first | rfl | assumption) (by first | exact h_load_ints rfl rfl rfl (by omega) rfl Try.isAgg40 | exact h_load_one rfl rfl rfl Try.isAgg40) ?_ | refine s_off rfl rfl (by first | rfl | assumption) ?_
  first | refine s_on rfl rfl (by first | rfl | assumption) (by first | exact h_move (v := .s _) rfl | exact h_move (v := .agg _) rfl | exact h_move (v := .tup _) rfl) ?_ | refine s_off rfl rfl (by first | rfl | assumption) ?_
  first | refine s_on rfl rfl (by first | rfl | assumption) (h_bin rfl rfl (b_sub (r := ((top - n : Nat) : Int)) (by rw [wrap64 (by omega) (by omega)]; omega))) ?_ | refine s_off rfl rfl (by first | rfl | assumption) ?_
  first | refine s_on rfl rfl (by first | rfl | assumption) (h_bin rfl rfl (b_geq (decide_eq_false (by omega)))) ?_ | refine s_off rfl rfl (by first | rfl | assumption) ?_
  refine s_p (by first | exact h_pick_t rfl (by first | rfl | assumption) rfl | exact h_pick_f rfl (by first | rfl | assumption) rfl) ?_
  refine s_p (by first | exact h_assign (v := .s _) rfl | exact h_assign (v := .agg _) rfl | exact h_assign (v := .tup _) rfl) ?_
  refine s_nil ?_
  refine n_wp ?_
  refine w_cond rfl (fun hc_t12 => ?_) (fun hc_t12 => ?_)
  · exact absurd hc_t12 (by simp)
  refine w_seq ?_
  refine c_reg (by kernel_rfl) rfl ?_
  refine s_p (by first | exact h_move (v := .s _) rfl | exact h_move (v := .agg _) rfl | exact h_move (v := .tup _) rfl) ?_
  refine s_p (by first | exact h_move (v := .s _) rfl | exact h_move (v := .agg _) rfl | exact h_move (v := .tup _) rfl) ?_
  refine s_p (h_bin rfl rfl (b_rem (r := ((n % 64 : Nat) : Int)) (by omega) rfl)) ?_
  refine s_p (h_nilCheck rfl) ?_
  refine s_p (h_field rfl Try.underlying151 rfl Try.sizeOf149 (by decide)) ?_
  refine s_p (by first | exact h_ix rfl rfl Try.underlying149 Try.sizeOf40 (by omega) | exact h_ixa rfl rfl Try.underlying149 Try.sizeOf40 (by omega) | exact h_ixl (Int.toNat _) rfl rfl (Int.toNat_of_nonneg (by omega)).symm Try.underlying149 Try.sizeOf40 (by omega)) ?_
  refine s_p (by first | exact h_load_ints rfl rfl rfl (by omega) rfl Try.isAgg40 | exact h_load_one rfl rfl rfl Try.isAgg40) ?_
  refine s_p (by first | exact h_move (v := .s _) rfl | exact h_move (v := .agg _) rfl | exact h_move (v := .tup _) rfl) ?_
  refine s_p (h_bin rfl rfl (b_eql (decide_eq_false hC))) ?_
  refine s_p (by first | exact h_assign (v := .s _) rfl | exact h_assign (v := .agg _) rfl | exact h_assign (v := .tup _) rfl) ?_
  refine s_nil ?_
  refine n_wp ?_
  refine w_cond rfl (fun hc_t28 => ?_) (fun hc_t28 => ?_)
  · exact absurd hc_t28 (by simp)
  refine w_skip ?_
  refine n_blo ?_
  refine n_wp ?_
  refine w_seq ?_
  refine c_reg (by kernel_rfl) rfl ?_
  refine s_p (by first | exact h_assign (v := .s _) rfl | exact h_assign (v := .agg _) rfl | exact h_assign (v := .tup _) rfl) ?_
  refine s_nil ?_
  refine n_wp ?_
  refine w_ret ?_
  exact doneM (by repeat (first | exact trivial | refine ⟨rfl, ?_⟩)) (ret_tmp Try.results76 rfl)
set_option maxRecDepth 100000 in
set_option maxHeartbeats 2000000 in
theorem Fits_there_g (H : Heap) (iw : Nat) (C : List Int) (top taken : Nat) (bw : Blk) (hw : H[iw]? = some (some bw)) (hws : bw.segs = [.ints .i64 1 [1], .ints .u64 64 C, .one (.int .u64 ((top : Nat) : Int)), .one (.int .u64 ((taken : Nat) : Int))]) (n : Nat) (hn0 : n ≠ 0) (hn : n < 18446744073709551616) (htop : top < 18446744073709551616) (hgt : n < top) (hold : top - n < 64) (hC : C.getD (n % 64) 0 = ((n : Nat) : Int)) : ACall Try.prog 76 H [.s (.ptr iw (0 + 0) 0), .s (.int .u64 ((n : Nat) : Int))] (.s (.int .i64 8)) [] := by
  refine acall_gen2 (args0 := [.s (.ptr 0 0 0), .s (.int .u64 ((n : Nat) : Int))]) (H0 := [some ⟨false, [.ints .i64 1 [1], .ints .u64 64 C, .one (.int .u64 ((top : Nat) : Int)), .one (.int .u64 ((taken : Nat) : Int))]⟩]) (Hf := []) (v0 := (.s (.int .i64 8))) [(iw, 0)] [] Try.func76 rfl Try.ntmps76 (by simp) rfl
    (fun k id' sh' b0 h1 h2 => by
      match k, h1, h2 with
      | 0, h1, h2 => simp at h1 h2; obtain ⟨rfl, rfl⟩ := h1; subst h2; exact ⟨rfl, rfl, _, hw, foot_same hws⟩
      | k + 1, h1, _ => simp at h1)
    (fun W ρ vals w hH ha k id' sh' hk => by
      match k, hk with
      | 0, hk => simp at hk; obtain ⟨rfl, rfl⟩ := hk; exact ⟨(List.getElem?_eq_some_iff.1 hw).1, live_ptr (i := 0) ha rfl⟩
      | k + 1, hk => simp at hk)
    rfl rfl rfl (by decide) rfl rfl rfl (fun W w ρ0 hW hdom => ?_)
  refine w_seq ?_
  refine c_reg (by kernel_rfl) rfl ?_
  refine s_p (by first | exact h_assign (v := .s _) rfl | exact h_assign (v := .agg _) rfl | exact h_assign (v := .tup _) rfl) ?_
  refine s_nil ?_
  refine n_wp ?_
  refine w_seq ?_
  refine w_block ?_
  refine w_seq ?_
  refine c_reg (by kernel_rfl) rfl ?_
  refine s_p (by first | exact h_move (v := .s _) rfl | exact h_move (v := .agg _) rfl | exact h_move (v := .tup _) rfl) ?_
  refine s_p (h_call callable_77 rfl (there_c _ 0 C top taken _ rfl rfl)) ?_
  refine s_p (h_not rfl) ?_
  refine s_p (by first | exact h_assign (v := .s _) rfl | exact h_assign (v := .agg _) rfl | exact h_assign (v := .tup _) rfl) ?_
  refine s_nil ?_
  refine n_wp ?_
  refine w_cond rfl (fun hc_t5 => ?_) (fun hc_t5 => ?_)
  · exact absurd hc_t5 (by simp)
  refine w_seq ?_
  refine c_reg (by kernel_rfl) rfl ?_
  refine s_p (by first | exact h_move (v := .s _) rfl | exact h_move (v := .agg _) rfl | exact h_move (v := .tup _) rfl) ?_
  refine s_p (h_bin rfl rfl (b_eql (decide_eq_false (by omega)))) ?_
  refine s_p (by first | exact h_assign (v := .s _) rfl | exact h_assign (v := .agg _) rfl | exact h_assign (v := .tup _) rfl) ?_
  refine s_nil ?_
  refine n_wp ?_
  refine w_cond rfl (fun hc_t9 => ?_) (fun hc_t9 => ?_)
  · exact absurd hc_t9 (by simp)
  refine w_seq ?_
  refine c_reg (by kernel_rfl) rfl ?_
  refine s_p (by first | exact h_move (v := .s _) rfl | exact h_move (v := .agg _) rfl | exact h_move (v := .tup _) rfl) ?_
  refine s_p (h_nilCheck rfl) ?_
  refine s_p (h_field rfl Try.underlying151 rfl Try.sizeOf40 (by decide)) ?_
  refine s_p (by first | exact h_load_ints rfl rfl rfl (by omega) rfl Try.isAgg40 | exact h_load_one rfl rfl rfl Try.isAgg40) ?_
  refine s_p (by first | exact h_move (v := .s _) rfl | exact h_move (v := .agg _) rfl | exact h_move (v := .tup _) rfl) ?_
  refine s_p (h_bin rfl rfl (b_gtr (decide_eq_true (by omega)))) ?_
  refine s_p (by first | exact h_move (v := .s _) rfl | exact h_move (v := .agg _) rfl | exact h_move (v := .tup _) rfl) ?_
  first | refine s_on rfl rfl (by first | rfl | assumption) (by first | exact h_move (v := .s _) rfl | exact h_move (v := .agg _) rfl | exact h_move (v := .tup _) rfl) ?_ | refine s_off rfl rfl (by first | rfl | assumption) ?_
  first | refine s_on rfl rfl (by first | rfl | assumption) (h_nilCheck rfl) ?_ | refine s_off rfl rfl (by first | rfl | assumption) ?_
  first | refine s_on rfl rfl (by first | rfl | assumption) (h_field rfl Try.underlying151 rfl Try.sizeOf40 (by decide)) ?_ | refine s_off rfl rfl (by first | rfl | assumption) ?_
  first | refine s_on rfl rfl (by first | rfl | assumption) (by first | exact h_load_ints rfl rfl rfl (by omega) rfl Try.isAgg40 | exact h_load_one rfl rfl rfl Try.isAgg40) ?_ | refine s_off rfl rfl (by first | rfl | assumption) ?_
  first | refine s_on rfl rfl (by first | rfl | assumption) (by first | exact h_move (v := .s _) rfl | exact h_move (v := .agg _) rfl | exact h_move (v := .tup _) rfl) ?_ | refine s_off rfl rfl (by first | rfl | assumption) ?_
  first | refine s_on rfl rfl (by first | rfl | assumption) (h_bin rfl rfl (b_sub (r := ((top - n : Nat) : Int)) (by rw [wrap64 (by omega) (by omega)]; omega))) ?_ | refine s_off rfl rfl (by first | rfl | assumption) ?_
  first | refine s_on rfl rfl (by first | rfl | assumption) (h_bin rfl rfl (b_geq (decide_eq_false (by omega)))) ?_ | refine s_off rfl rfl (by first | rfl | assumption) ?_
  refine s_p (by first | exact h_pick_t rfl (by first | rfl | assumption) rfl | exact h_pick_f rfl (by first | rfl | assumption) rfl) ?_
  refine s_p (by first | exact h_assign (v := .s _) rfl | exact h_assign (v := .agg _) rfl | exact h_assign (v := .tup _) rfl) ?_
  refine s_nil ?_
  refine n_wp ?_
  refine w_cond rfl (fun hc_t12 => ?_) (fun hc_t12 => ?_)
  · exact absurd hc_t12 (by simp)
  refine w_seq ?_
  refine c_reg (by kernel_rfl) rfl ?_
  refine s_p (by first | exact h_move (v := .s _) rfl | exact h_move (v := .agg _) rfl | exact h_move (v := .tup _) rfl) ?_
  refine s_p (by first | exact h_move (v := .s _) rfl | exact h_move (v := .agg _) rfl | exact h_move (v := .tup _) rfl) ?_
  refine s_p (h_bin rfl rfl (b_rem (r := ((n % 64 : Nat) : Int)) (by omega) rfl)) ?_
  refine s_p (h_nilCheck rfl) ?_
  refine s_p (h_field rfl Try.underlying151 rfl Try.sizeOf149 (by decide)) ?_
  refine s_p (by first | exact h_ix rfl rfl Try.underlying149 Try.sizeOf40 (by omega) | exact h_ixa rfl rfl Try.underlying149 Try.sizeOf40 (by omega) | exact h_ixl (Int.toNat _) rfl rfl (Int.toNat_of_nonneg (by omega)).symm Try.underlying149 Try.sizeOf40 (by omega)) ?_
  refine s_p (by first | exact h_load_ints rfl rfl rfl (by omega) rfl Try.isAgg40 | exact h_load_one rfl rfl rfl Try.isAgg40) ?_
  refine s_p (by first | exact h_move (v := .s _) rfl | exact h_move (v := .agg _) rfl | exact h_move (v := .tup _) rfl) ?_
  refine s_p (h_bin rfl rfl (b_eql (decide_eq_true hC))) ?_
  refine s_p (by first | exact h_assign (v := .s _) rfl | exact h_assign (v := .agg _) rfl | exact h_assign (v := .tup _) rfl) ?_
  refine s_nil ?_
  refine n_wp ?_
  refine w_cond rfl (fun hc_t28 => ?_) (fun hc_t28 => ?_)
  rotate_left
  · exact absurd hc_t28 (by simp)
  refine w_seq ?_
  refine c_reg (by kernel_rfl) rfl ?_
  refine s_p (by first | exact h_assign (v := .s _) rfl | exact h_assign (v := .agg _) rfl | exact h_assign (v := .tup _) rfl) ?_
  refine s_nil ?_
  refine n_wp ?_
  refine w_ret ?_
  refine r_blo ?_
  refine r_thn ?_
  exact doneM (by repeat (first | exact trivial | refine ⟨rfl, ?_⟩)) (ret_tmp Try.results76 rfl)
set_option maxRecDepth 100000 in
set_option maxHeartbeats 2000000 in
theorem Fits_there_l (H : Heap) (iw : Nat) (C : List Int) (top taken : Nat) (bw : Blk) (hw : H[iw]? = some (some bw)) (hws : bw.segs = [.ints .i64 1 [1], .ints .u64 64 C, .one (.int .u64 ((top : Nat) : Int)), .one (.int .u64 ((taken : Nat) : Int))]) (n : Nat) (hn0 : n ≠ 0) (hn : n < 18446744073709551616) (htop : top < 18446744073709551616) (hgt : top ≤ n) (hC : C.getD (n % 64) 0 = ((n : Nat) : Int)) : ACall Try.prog 76 H [.s (.ptr iw (0 + 0) 0), .s (.int .u64 ((n : Nat) : Int))] (.s (.int .i64 8)) [] := by
  refine acall_gen2 (args0 := [.s (.ptr 0 0 0), .s (.int .u64 ((n : Nat) : Int))]) (H0 := [some ⟨false, [.ints .i64 1 [1], .ints .u64 64 C, .one (.int .u64 ((top : Nat) : Int)), .one (.int .u64 ((taken : Nat) : Int))]⟩]) (Hf := []) (v0 := (.s (.int .i64 8))) [(iw, 0)] [] Try.func76 rfl Try.ntmps76 (by simp) rfl
    (fun k id' sh' b0 h1 h2 => by
      match k, h1, h2 with
      | 0, h1, h2 => simp at h1 h2; obtain ⟨rfl, rfl⟩ := h1; subst h2; exact ⟨rfl, rfl, _, hw, foot_same hws⟩
      | k + 1, h1, _ => simp at h1)
    (fun W ρ vals w hH ha k id' sh' hk => by
      match k, hk with
      | 0, hk => simp at hk; obtain ⟨rfl, rfl⟩ := hk; exact ⟨(List.getElem?_eq_some_iff.1 hw).1, live_ptr (i := 0) ha rfl⟩
      | k + 1, hk => simp at hk)
    rfl rfl rfl (by decide) rfl rfl rfl (fun W w ρ0 hW hdom => ?_)
  refine w_seq ?_
  refine c_reg (by kernel_rfl) rfl ?_
  refine s_p (by first | exact h_assign (v := .s _) rfl | exact h_assign (v := .agg _) rfl | exact h_assign (v := .tup _) rfl) ?_
  refine s_nil ?_
  refine n_wp ?_
  refine w_seq ?_
  refine w_block ?_
  refine w_seq ?_
  refine c_reg (by kernel_rfl) rfl ?_
  refine s_p (by first | exact h_move (v := .s _) rfl | exact h_move (v := .agg _) rfl | exact h_move (v := .tup _) rfl) ?_
  refine s_p (h_call callable_77 rfl (there_c _ 0 C top taken _ rfl rfl)) ?_
  refine s_p (h_not rfl) ?_
  refine s_p (by first | exact h_assign (v := .s _) rfl | exact h_assign (v := .agg _) rfl | exact h_assign (v := .tup _) rfl) ?_
  refine s_nil ?_
  refine n_wp ?_
  refine w_cond rfl (fun hc_t5 => ?_) (fun hc_t5 => ?_)
  · exact absurd hc_t5 (by simp)
  refine w_seq ?_
  refine c_reg (by kernel_rfl) rfl ?_
  refine s_p (by first | exact h_move (v := .s _) rfl | exact h_move (v := .agg _) rfl | exact h_move (v := .tup _) rfl) ?_
  refine s_p (h_bin rfl rfl (b_eql (decide_eq_false (by omega)))) ?_
  refine s_p (by first | exact h_assign (v := .s _) rfl | exact h_assign (v := .agg _) rfl | exact h_assign (v := .tup _) rfl) ?_
  refine s_nil ?_
  refine n_wp ?_
  refine w_cond rfl (fun hc_t9 => ?_) (fun hc_t9 => ?_)
  · exact absurd hc_t9 (by simp)
  refine w_seq ?_
  refine c_reg (by kernel_rfl) rfl ?_
  refine s_p (by first | exact h_move (v := .s _) rfl | exact h_move (v := .agg _) rfl | exact h_move (v := .tup _) rfl) ?_
  refine s_p (h_nilCheck rfl) ?_
  refine s_p (h_field rfl Try.underlying151 rfl Try.sizeOf40 (by decide)) ?_
  refine s_p (by first | exact h_load_ints rfl rfl rfl (by omega) rfl Try.isAgg40 | exact h_load_one rfl rfl rfl Try.isAgg40) ?_
  refine s_p (by first | exact h_move (v := .s _) rfl | exact h_move (v := .agg _) rfl | exact h_move (v := .tup _) rfl) ?_
  refine s_p (h_bin rfl rfl (b_gtr (decide_eq_false (by omega)))) ?_
  refine s_p (by first | exact h_move (v := .s _) rfl | exact h_move (v := .agg _) rfl | exact h_move (v := .tup _) rfl) ?_
  first | refine s_on rfl rfl (by first | rfl | assumption) (by first | exact h_move (v := .s _) rfl | exact h_move (v := .agg _) rfl | exact h_move (v := .tup _) rfl) ?_ | refine s_off rfl rfl (by first | rfl | assumption) ?_
  first | refine s_on rfl rfl (by first | rfl | assumption) (h_nilCheck rfl) ?_ | refine s_off rfl rfl (by first | rfl | assumption) ?_
  first | refine s_on rfl rfl (by first | rfl | assumption) (h_field rfl Try.underlying151 rfl Try.sizeOf40 (by decide)) ?_ | refine s_off rfl rfl (by first | rfl | assumption) ?_
  first | refine s_on rfl rfl (by first | rfl | assumption) (by first | exact h_load_ints rfl rfl rfl (by omega) rfl Try.isAgg40 | exact h_load_one rfl rfl rfl Try.isAgg40) ?_ | refine s_off rfl rfl (by first | rfl | assumption) ?_
  first | refine s_on rfl rfl (by first | rfl | assumption) (by first | exact h_move (v := .s _) rfl | exact h_move (v := .agg _) rfl | exact h_move (v := .tup _) rfl) ?_ | refine s_off rfl rfl (by first | rfl | assumption) ?_
  first | refine s_on rfl rfl (by first | rfl | assumption) (h_bin rfl rfl (b_sub (r := ((top - n : Nat) : Int)) (by rw [wrap64 (by omega) (by omega)]; omega))) ?_ | refine s_off rfl rfl (by first | rfl | assumption) ?_
  first | refine s_on rfl rfl (by first | rfl | assumption) (h_bin rfl rfl (b_geq (decide_eq_false (by omega)))) ?_ | refine s_off rfl rfl (by first | rfl | assumption) ?_
  refine s_p (by first | exact h_pick_t rfl (by first | rfl | assumption) rfl | exact h_pick_f rfl (by first | rfl | assumption) rfl) ?_
  refine s_p (by first | exact h_assign (v := .s _) rfl | exact h_assign (v := .agg _) rfl | exact h_assign (v := .tup _) rfl) ?_
  refine s_nil ?_
  refine n_wp ?_
  refine w_cond rfl (fun hc_t12 => ?_) (fun hc_t12 => ?_)
  · exact absurd hc_t12 (by simp)
  refine w_seq ?_
  refine c_reg (by kernel_rfl) rfl ?_
  refine s_p (by first | exact h_move (v := .s _) rfl | exact h_move (v := .agg _) rfl | exact h_move (v := .tup _) rfl) ?_
  refine s_p (by first | exact h_move (v := .s _) rfl | exact h_move (v := .agg _) rfl | exact h_move (v := .tup _) rfl) ?_
  refine s_p (h_bin rfl rfl (b_rem (r := ((n % 64 : Nat) : Int)) (by omega) rfl)) ?_
  refine s_p (h_nilCheck rfl) ?_
  refine s_p (h_field rfl Try.underlying151 rfl Try.sizeOf149 (by decide)) ?_
  refine s_p (by first | exact h_ix rfl rfl Try.underlying149 Try.sizeOf40 (by omega) | exact h_ixa rfl rfl Try.underlying149 Try.sizeOf40 (by omega) | exact h_ixl (Int.toNat _) rfl rfl (Int.toNat_of_nonneg (by omega)).symm Try.underlying149 Try.sizeOf40 (by omega)) ?_
  refine s_p (by first | exact h_load_ints rfl rfl rfl (by omega) rfl Try.isAgg40 | exact h_load_one rfl rfl rfl Try.isAgg40) ?_
  refine s_p (by first | exact h_move (v := .s _) rfl | exact h_move (v := .agg _) rfl | exact h_move (v := .tup _) rfl) ?_
  refine s_p (h_bin rfl rfl (b_eql (decide_eq_true hC))) ?_
  refine s_p (by first | exact h_assign (v := .s _) rfl | exact h_assign (v := .agg _) rfl | exact h_assign (v := .tup _) rfl) ?_
  refine s_nil ?_
  refine n_wp ?_
  refine w_cond rfl (fun hc_t28 => ?_) (fun hc_t28 => ?_)
  rotate_left
  · exact absurd hc_t28 (by simp)
  refine w_seq ?_
  refine c_reg (by kernel_rfl) rfl ?_
  refine s_p (by first | exact h_assign (v := .s _) rfl | exact h_assign (v := .agg _) rfl | exact h_assign (v := .tup _) rfl) ?_
  refine s_nil ?_
  refine n_wp ?_
  refine w_ret ?_
  refine r_blo ?_
  refine r_thn ?_
  exact doneM (by repeat (first | exact trivial | refine ⟨rfl, ?_⟩)) (ret_tmp Try.results76 rfl)
theorem Fits_ok (H : Heap) (iw : Nat) (C : List Int) (top taken : Nat) (bw : Blk) (hw : H[iw]? = some (some bw)) (hws : bw.segs = [.ints .i64 1 [1], .ints .u64 64 C, .one (.int .u64 ((top : Nat) : Int)), .one (.int .u64 ((taken : Nat) : Int))]) (n : Nat) (hn0 : n ≠ 0) (hn : n < 18446744073709551616) (htop : top < 18446744073709551616) (hold : top - n < 64) (hC : C.getD (n % 64) 0 ≠ ((n : Nat) : Int)) : ACall Try.prog 76 H [.s (.ptr iw (0 + 0) 0), .s (.int .u64 ((n : Nat) : Int))] (.s (.int .i64 0)) [] := by
  rcases Nat.lt_or_ge n top with h | h
  · exact Fits_ok_g H iw C top taken bw hw hws n hn0 hn htop h hold hC
  · exact Fits_ok_l H iw C top taken bw hw hws n hn0 hn htop h hC

theorem Fits_there (H : Heap) (iw : Nat) (C : List Int) (top taken : Nat) (bw : Blk) (hw : H[iw]? = some (some bw)) (hws : bw.segs = [.ints .i64 1 [1], .ints .u64 64 C, .one (.int .u64 ((top : Nat) : Int)), .one (.int .u64 ((taken : Nat) : Int))]) (n : Nat) (hn0 : n ≠ 0) (hn : n < 18446744073709551616) (htop : top < 18446744073709551616) (hold : top - n < 64) (hC : C.getD (n % 64) 0 = ((n : Nat) : Int)) : ACall Try.prog 76 H [.s (.ptr iw (0 + 0) 0), .s (.int .u64 ((n : Nat) : Int))] (.s (.int .i64 8)) [] := by
  rcases Nat.lt_or_ge n top with h | h
  · exact Fits_there_g H iw C top taken bw hw hws n hn0 hn htop h hold hC
  · exact Fits_there_l H iw C top taken bw hw hws n hn0 hn htop h hC

set_option maxRecDepth 100000 in
set_option maxHeartbeats 2000000 in
theorem WTake_ok (H : Heap) (iw : Nat) (C : List Int) (top taken : Nat) (hw : H[iw]? = some (some ⟨true, [.ints .i64 1 [1], .ints .u64 64 C, .one (.int .u64 ((top : Nat) : Int)), .one (.int .u64 ((taken : Nat) : Int))]⟩)) (hCl : C.length = 64) (htk : taken < 1000000000) (n : Nat) (hn0 : n ≠ 0) (hn : n < 18446744073709551616) (htop : top < 18446744073709551616) (hold : top - n < 64) (hC : C.getD (n % 64) 0 ≠ ((n : Nat) : Int)) : AMut Try.prog 64 H [.s (.ptr iw (0 + 0) 0), .s (.int .u64 ((n : Nat) : Int))] (.s (.int .i64 0)) ((forget [] H).set iw (some ⟨true, [.ints .i64 1 [1], .ints .u64 64 (C.set (n % 64) ((n : Nat) : Int)), .one (.int .u64 (((max top n) : Nat) : Int)), .one (.int .u64 (((taken + 1) : Nat) : Int))]⟩) ++ []) := by
  refine amut_gen3 (args0 := [.s (.ptr 0 0 0), .s (.int .u64 ((n : Nat) : Int))]) (H0 := [some ⟨true, [.ints .i64 1 [1], .ints .u64 64 C, .one (.int .u64 ((top : Nat) : Int)), .one (.int .u64 ((taken : Nat) : Int))]⟩]) (Hf := [some ⟨true, [.ints .i64 1 [1], .ints .u64 64 (C.set (n % 64) ((n : Nat) : Int)), .one (.int .u64 (((max top n) : Nat) : Int)), .one (.int .u64 (((taken + 1) : Nat) : Int))]⟩]) (v0 := .s (.int .i64 0)) [(iw, 0)] [] 1 (Nat.le_of_ble_eq_true rfl) Try.func64 rfl Try.ntmps64 (by simp) rfl
    (fun k id' sh' b0 h1 h2 => by
      match k, h1, h2 with
      | 0, h1, h2 => simp at h1 h2; obtain ⟨rfl, rfl⟩ := h1; subst h2; exact ⟨rfl, _, hw, fun _ => ⟨rfl, rfl⟩, foot_same rfl⟩
      | k + 1, h1, _ => simp at h1)
    (fun k k' id' s1 s2 b0 h1 h1' hne h2 => by
      match k, k', h1, h1', h2, hne with
      | 0, 0, _, _, _, hne => exact absurd rfl hne
      | 0, k + 1, _, h1', _, _ => simp at h1'
      | k + 1, _, h1, _, _, _ => simp at h1)
    (fun W ρ vals w hH ha k id' sh' hk => by
      match k, hk with
      | 0, hk => simp at hk; obtain ⟨rfl, rfl⟩ := hk; exact live_ptr (i := 0) ha rfl
      | k + 1, hk => simp at hk)
    rfl rfl rfl (by decide) rfl rfl rfl (fun W w' ρ0 hW hdom => ?_)
  refine w_seq ?_
  refine c_reg (by kernel_rfl) rfl ?_
  refine s_p (by first | exact h_assign (v := .s _) rfl | exact h_assign (v := .agg _) rfl | exact h_assign (v := .tup _) rfl) ?_
  refine s_nil ?_
  refine n_wp ?_
  refine w_seq ?_
  refine c_reg (by kernel_rfl) rfl ?_
  refine s_p (by first | exact h_move (v := .s _) rfl | exact h_move (v := .agg _) rfl | exact h_move (v := .tup _) rfl) ?_
  refine s_p (by first | exact h_move (v := .s _) rfl | exact h_move (v := .agg _) rfl | exact h_move (v := .tup _) rfl) ?_
  refine s_p (h_call callable_76 rfl (Fits_ok _ 0 C top taken _ rfl rfl n hn0 hn htop hold hC)) ?_
  refine s_p (by first | exact h_assign (v := .s _) rfl | exact h_assign (v := .agg _) rfl | exact h_assign (v := .tup _) rfl) ?_
  refine s_nil ?_
  refine n_wp ?_
  refine w_seq ?_
  refine w_seq ?_
  refine c_reg (by kernel_rfl) rfl ?_
  refine s_p (by first | exact h_move (v := .s _) rfl | exact h_move (v := .agg _) rfl | exact h_move (v := .tup _) rfl) ?_
  refine s_p (h_bin rfl rfl (b_eql (decide_eq_true rfl))) ?_
  refine s_nil ?_
  refine n_wp ?_
  refine w_cond rfl (fun hc_t10 => ?_) (fun hc_t10 => ?_)
  rotate_left
  · exact absurd hc_t10 (by simp)
  refine w_seq ?_
  refine c_reg (by kernel_rfl) rfl ?_
  refine s_p (by first | exact h_move (v := .s _) rfl | exact h_move (v := .agg _) rfl | exact h_move (v := .tup _) rfl) ?_
  refine s_p (by first | exact h_move (v := .s _) rfl | exact h_move (v := .agg _) rfl | exact h_move (v := .tup _) rfl) ?_
  refine s_p (h_bin rfl rfl (b_rem (r := ((n % 64 : Nat) : Int)) (by omega) rfl)) ?_
  refine s_p (by first | exact h_move (v := .s _) rfl | exact h_move (v := .agg _) rfl | exact h_move (v := .tup _) rfl) ?_
  refine s_p (h_nilCheck rfl) ?_
  refine s_p (h_field rfl Try.underlying151 rfl Try.sizeOf149 (by decide)) ?_
  refine s_p (by first | exact h_ix rfl rfl Try.underlying149 Try.sizeOf40 (by omega) | exact h_ixa rfl rfl Try.underlying149 Try.sizeOf40 (by omega) | exact h_ixl (Int.toNat _) rfl rfl (Int.toNat_of_nonneg (by omega)).symm Try.underlying149 Try.sizeOf40 (by omega)) ?_
  refine s_st (by first | exact m_store_int rfl rfl rfl rfl (by omega) (by (exact hCl)) Try.sizeOf40 rfl | exact m_store_one rfl rfl (by simp) rfl rfl Try.sizeOf40 rfl) ?_
  refine s_nil ?_
  refine n_wp ?_
  refine w_seq ?_
  refine c_reg (by kernel_rfl) rfl ?_
  refine s_p (by first | exact h_move (v := .s _) rfl | exact h_move (v := .agg _) rfl | exact h_move (v := .tup _) rfl) ?_
  refine s_p (by first | exact h_move (v := .s _) rfl | exact h_move (v := .agg _) rfl | exact h_move (v := .tup _) rfl) ?_
  refine s_p (h_nilCheck rfl) ?_
  refine s_p (h_field rfl Try.underlying151 rfl Try.sizeOf40 (by decide)) ?_
  refine s_p (by first | exact h_load_ints rfl rfl rfl (by omega) rfl Try.isAgg40 | exact h_load_one rfl rfl rfl Try.isAgg40) ?_
  refine s_p (by first | exact h_move (v := .s _) rfl | exact h_move (v := .agg _) rfl | exact h_move (v := .tup _) rfl) ?_
  refine s_p (h_max (r := ((max top n : Nat) : Int)) rfl rfl (by split <;> omega)) ?_
  refine s_p (h_nilCheck rfl) ?_
  refine s_p (h_field rfl Try.underlying151 rfl Try.sizeOf40 (by decide)) ?_
  refine s_st (by first | exact m_store_int rfl rfl rfl rfl (by omega) (by (exact hCl)) Try.sizeOf40 rfl | exact m_store_one rfl rfl (by simp) rfl rfl Try.sizeOf40 rfl) ?_
  refine s_nil ?_
  refine n_wp ?_
  refine c_reg (by kernel_rfl) rfl ?_
  refine s_p (by first | exact h_move (v := .s _) rfl | exact h_move (v := .agg _) rfl | exact h_move (v := .tup _) rfl) ?_
  refine s_p (h_nilCheck rfl) ?_
  refine s_p (h_field rfl Try.underlying151 rfl Try.sizeOf40 (by decide)) ?_
  refine s_p (by first | exact h_load_ints rfl rfl rfl (by omega) rfl Try.isAgg40 | exact h_load_one rfl rfl rfl Try.isAgg40) ?_
  refine s_p (h_bin rfl rfl (b_add (r := ((taken + 1 : Nat) : Int)) (by rw [wrap64 (by omega) (by omega)]; omega))) ?_
  refine s_p (h_nilCheck rfl) ?_
  refine s_p (h_field rfl Try.underlying151 rfl Try.sizeOf40 (by decide)) ?_
  refine s_st (by first | exact m_store_int rfl rfl rfl rfl (by omega) (by (exact hCl)) Try.sizeOf40 rfl | exact m_store_one rfl rfl (by simp) rfl rfl Try.sizeOf40 rfl) ?_
  refine s_nil ?_
  refine n_wp ?_
  refine w_seq ?_
  refine c_reg (by kernel_rfl) rfl ?_
  refine s_p (by first | exact h_move (v := .s _) rfl | exact h_move (v := .agg _) rfl | exact h_move (v := .tup _) rfl) ?_
  refine s_p (by first | exact h_assign (v := .s _) rfl | exact h_assign (v := .agg _) rfl | exact h_assign (v := .tup _) rfl) ?_
  refine s_nil ?_
  refine n_wp ?_
  refine w_ret ?_
  exact doneM (by repeat (first | exact trivial | refine ⟨rfl, ?_⟩)) (ret_tmp Try.results64 rfl)
set_option maxRecDepth 100000 in
set_option maxHeartbeats 2000000 in
theorem WTake_there (H : Heap) (iw : Nat) (C : List Int) (top taken : Nat) (bw : Blk) (hw : H[iw]? = some (some bw)) (hws : bw.segs = [.ints .i64 1 [1], .ints .u64 64 C, .one (.int .u64 ((top : Nat) : Int)), .one (.int .u64 ((taken : Nat) : Int))]) (n : Nat) (hn0 : n ≠ 0) (hn : n < 18446744073709551616) (htop : top < 18446744073709551616) (hold : top - n < 64) (hC : C.getD (n % 64) 0 = ((n : Nat) : Int)) : ACall Try.prog 64 H [.s (.ptr iw (0 + 0) 0), .s (.int .u64 ((n : Nat) : Int))] (.s (.int .i64 8)) [] := by
  refine acall_gen2 (args0 := [.s (.ptr 0 0 0), .s (.int .u64 ((n : Nat) : Int))]) (H0 := [some ⟨false, [.ints .i64 1 [1], .ints .u64 64 C, .one (.int .u64 ((top : Nat) : Int)), .one (.int .u64 ((taken : Nat) : Int))]⟩]) (Hf := []) (v0 := (.s (.int .i64 8))) [(iw, 0)] [] Try.func64 rfl Try.ntmps64 (by simp) rfl
    (fun k id' sh' b0 h1 h2 => by
      match k, h1, h2 with
      | 0, h1, h2 => simp at h1 h2; obtain ⟨rfl, rfl⟩ := h1; subst h2; exact ⟨rfl, rfl, _, hw, foot_same hws⟩
      | k + 1, h1, _ => simp at h1)
    (fun W ρ vals w hH ha k id' sh' hk => by
      match k, hk with
      | 0, hk => simp at hk; obtain ⟨rfl, rfl⟩ := hk; exact ⟨(List.getElem?_eq_some_iff.1 hw).1, live_ptr (i := 0) ha rfl⟩
      | k + 1, hk => simp at hk)
    rfl rfl rfl (by decide) rfl rfl rfl (fun W w ρ0 hW hdom => ?_)
  refine w_seq ?_
  refine c_reg (by kernel_rfl) rfl ?_
  refine s_p (by first | exact h_assign (v := .s _) rfl | exact h_assign (v := .agg _) rfl | exact h_assign (v := .tup _) rfl) ?_
  refine s_nil ?_
  refine n_wp ?_
  refine w_seq ?_
  refine c_reg (by kernel_rfl) rfl ?_
  refine s_p (by first | exact h_move (v := .s _) rfl | exact h_move (v := .agg _) rfl | exact h_move (v := .tup _) rfl) ?_
  refine s_p (by first | exact h_move (v := .s _) rfl | exact h_move (v := .agg _) rfl | exact h_move (v := .tup _) rfl) ?_
  refine s_p (h_call callable_76 rfl (Fits_there _ 0 C top taken _ rfl rfl n hn0 hn htop hold hC)) ?_
  refine s_p (by first | exact h_assign (v := .s _) rfl | exact h_assign (v := .agg _) rfl | exact h_assign (v := .tup _) rfl) ?_
  refine s_nil ?_
  refine n_wp ?_
  refine w_seq ?_
  refine w_seq ?_
  refine c_reg (by kernel_rfl) rfl ?_
  refine s_p (by first | exact h_move (v := .s _) rfl | exact h_move (v := .agg _) rfl | exact h_move (v := .tup _) rfl) ?_
  refine s_p (h_bin rfl rfl (b_eql (decide_eq_false (by decide)))) ?_
  refine s_nil ?_
  refine n_wp ?_
  refine w_cond rfl (fun hc_t10 => ?_) (fun hc_t10 => ?_)
  · exact absurd hc_t10 (by simp)
  refine w_skip ?_
  refine n_wp ?_
  refine w_seq ?_
  refine c_reg (by kernel_rfl) rfl ?_
  refine s_p (by first | exact h_move (v := .s _) rfl | exact h_move (v := .agg _) rfl | exact h_move (v := .tup _) rfl) ?_
  refine s_p (by first | exact h_assign (v := .s _) rfl | exact h_assign (v := .agg _) rfl | exact h_assign (v := .tup _) rfl) ?_
  refine s_nil ?_
  refine n_wp ?_
  refine w_ret ?_
  exact doneM (by repeat (first | exact trivial | refine ⟨rfl, ?_⟩)) (ret_tmp Try.results64 rfl)
set_option maxRecDepth 100000 in
set_option maxHeartbeats 2000000 in
theorem WTaken_c (H : Heap) (iw : Nat) (C : List Int) (top taken : Nat) (bw : Blk) (hw : H[iw]? = some (some bw)) (hws : bw.segs = [.ints .i64 1 [1], .ints .u64 64 C, .one (.int .u64 ((top : Nat) : Int)), .one (.int .u64 ((taken : Nat) : Int))]) : ACall Try.prog 65 H [.s (.ptr iw (0 + 0) 0)] (.s (.int .u64 ((taken : Nat) : Int))) [] := by
  refine acall_gen2 (args0 := [.s (.ptr 0 0 0)]) (H0 := [some ⟨false, [.ints .i64 1 [1], .ints .u64 64 C, .one (.int .u64 ((top : Nat) : Int)), .one (.int .u64 ((taken : Nat) : Int))]⟩]) (Hf := []) (v0 := (.s (.int .u64 ((taken : Nat) : Int)))) [(iw, 0)] [] Try.func65 rfl Try.ntmps65 (by simp) rfl
    (fun k id' sh' b0 h1 h2 => by
      match k, h1, h2 with
      | 0, h1, h2 => simp at h1 h2; obtain ⟨rfl, rfl⟩ := h1; subst h2; exact ⟨rfl, rfl, _, hw, foot_same hws⟩
      | k + 1, h1, _ => simp at h1)
    (fun W ρ vals w hH ha k id' sh' hk => by
      match k, hk with
      | 0, hk => simp at hk; obtain ⟨rfl, rfl⟩ := hk; exact ⟨(List.getElem?_eq_some_iff.1 hw).1, live_ptr (i := 0) ha rfl⟩
      | k + 1, hk => simp at hk)
    rfl rfl rfl (by decide) rfl rfl rfl (fun W w ρ0 hW hdom => ?_)
  refine w_seq ?_
  refine c_reg (by kernel_rfl) rfl ?_
  refine s_p (by first | exact h_assign (v := .s _) rfl | exact h_assign (v := .agg _) rfl | exact h_assign (v := .tup _) rfl) ?_
  refine s_nil ?_
  refine n_wp ?_
  refine w_seq ?_
  refine w_seq ?_
  refine c_reg (by kernel_rfl) rfl ?_
  refine s_p (by first | exact h_move (v := .s _) rfl | exact h_move (v := .agg _) rfl | exact h_move (v := .tup _) rfl) ?_
  refine s_p (h_call callable_77 rfl (there_c _ 0 C top taken _ rfl rfl)) ?_
  refine s_p (h_not rfl) ?_
  refine s_nil ?_
  refine n_wp ?_
  refine w_cond rfl (fun hc_t5 => ?_) (fun hc_t5 => ?_)
  · exact absurd hc_t5 (by simp)
  refine w_skip ?_
  refine n_wp ?_
  refine w_seq ?_
  refine c_reg (by kernel_rfl) rfl ?_
  refine s_p (by first | exact h_move (v := .s _) rfl | exact h_move (v := .agg _) rfl | exact h_move (v := .tup _) rfl) ?_
  refine s_p (h_nilCheck rfl) ?_
  refine s_p (h_field rfl Try.underlying151 rfl Try.sizeOf40 (by decide)) ?_
  refine s_p (by first | exact h_load_ints rfl rfl rfl (by omega) rfl Try.isAgg40 | exact h_load_one rfl rfl rfl Try.isAgg40) ?_
  refine s_p (by first | exact h_assign (v := .s _) rfl | exact h_assign (v := .agg _) rfl | exact h_assign (v := .tup _) rfl) ?_
  refine s_nil ?_
  refine n_wp ?_
  refine w_ret ?_
  exact doneM (by repeat (first | exact trivial | refine ⟨rfl, ?_⟩)) (ret_tmp Try.results65 rfl)
end Go.Proofs.X
