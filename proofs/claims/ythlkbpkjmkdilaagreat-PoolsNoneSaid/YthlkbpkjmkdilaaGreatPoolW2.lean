/- A part of the proofs of this claim: PoolW2 (PoolW2). No conditions. -/
import Derived.Test.YthlkbpkjmkdilaaGreatPoolW1
import Derived.Test.YthlkbpkjmkdilaaGreatAb37
set_option linter.unusedVariables false
set_option linter.unusedSimpArgs false
open Go Go.Ab Go.Proofs
namespace Go.Proofs.X
theorem callable_61 : Callable Tryz.prog 61 := ⟨_, Tryz.func61, by kernel_rfl, rfl⟩
theorem callable_65 : Callable Tryz.prog 65 := ⟨_, Tryz.func65, by kernel_rfl, rfl⟩
theorem callable_19 : Callable Tryz.prog 19 := ⟨_, Tryz.func19, by kernel_rfl, rfl⟩
theorem callable_20 : Callable Tryz.prog 20 := ⟨_, Tryz.func20, by kernel_rfl, rfl⟩
theorem callable_21 : Callable Tryz.prog 21 := ⟨_, Tryz.func21, by kernel_rfl, rfl⟩
theorem callable_22 : Callable Tryz.prog 22 := ⟨_, Tryz.func22, by kernel_rfl, rfl⟩
theorem callable_23 : Callable Tryz.prog 23 := ⟨_, Tryz.func23, by kernel_rfl, rfl⟩
theorem callable_24 : Callable Tryz.prog 24 := ⟨_, Tryz.func24, by kernel_rfl, rfl⟩
theorem callable_25 : Callable Tryz.prog 25 := ⟨_, Tryz.func25, by kernel_rfl, rfl⟩
theorem callable_5 : Callable Tryz.prog 5 := ⟨_, Tryz.func5, by kernel_rfl, rfl⟩
set_option maxRecDepth 100000 in
set_option maxHeartbeats 4000000 in
theorem there_nil (H : Heap)  : ACall Tryz.prog 61 H [.s .nilp] (.s (.bool false)) [] := by
  refine acall_free Tryz.func61 rfl Tryz.ntmps61 (by simp) rfl rfl (fun W w hW => ?_) H
  refine w_seq ?_
  refine c_reg (by kernel_rfl) rfl ?_
  refine s_p (by first | exact h_assign (v := .s _) rfl | exact h_assign (v := .agg _) rfl | exact h_assign (v := .tup _) rfl) ?_
  refine s_nil ?_
  refine n_wp ?_
  refine w_seq ?_
  refine c_reg (by kernel_rfl) rfl ?_
  refine s_p (by first | exact h_move (v := .s _) rfl | exact h_move (v := .agg _) rfl | exact h_move (v := .tup _) rfl) ?_
  refine s_p (by first | exact h_nen rfl rfl Tryz.underlying79 | exact h_litb (r := .bool false) (z := .bool false) rfl rfl rfl rfl (fun w => by kernel_rfl) (fun w => by kernel_rfl) rfl rfl) ?_
  refine s_p (by first | exact h_move (v := .s _) rfl | exact h_move (v := .agg _) rfl | exact h_move (v := .tup _) rfl) ?_
  first | refine s_on rfl rfl (by first | rfl | assumption) (by first | exact h_move (v := .s _) rfl | exact h_move (v := .agg _) rfl | exact h_move (v := .tup _) rfl) ?_ | refine s_off rfl rfl (by first | rfl | assumption) ?_
  first | refine s_on rfl rfl (by first | rfl | assumption) (h_nilCheck rfl) ?_ | refine s_off rfl rfl (by first | rfl | assumption) ?_
  first | refine s_on rfl rfl (by first | rfl | assumption) (h_field rfl Tryz.underlying84 rfl Tryz.sizeOf82 (by decide)) ?_ | refine s_off rfl rfl (by first | rfl | assumption) ?_
  first | refine s_on rfl rfl (by first | rfl | assumption) (by first | exact h_load_ints rfl rfl rfl (by omega) rfl Tryz.isAgg82 | exact h_load_one rfl rfl rfl Tryz.isAgg82) ?_ | refine s_off rfl rfl (by first | rfl | assumption) ?_
  first | refine s_on rfl rfl (by first | rfl | assumption) (h_litb (r := .bool false) (z := .bool false) rfl rfl rfl rfl (fun w => by kernel_rfl) (fun w => by kernel_rfl) rfl rfl) ?_ | refine s_off rfl rfl (by first | rfl | assumption) ?_
  refine s_p (by first | exact h_pick_t rfl (by first | rfl | assumption) rfl | exact h_pick_f rfl (by first | rfl | assumption) rfl) ?_
  refine s_p (by first | exact h_assign (v := .s _) rfl | exact h_assign (v := .agg _) rfl | exact h_assign (v := .tup _) rfl) ?_
  refine s_nil ?_
  refine n_wp ?_
  refine w_ret ?_
  exact ⟨.inl rfl, ret_tmp Tryz.results61 rfl⟩

set_option maxRecDepth 100000 in
set_option maxHeartbeats 4000000 in
theorem there_zero (H : Heap) (id : Nat) (bk : Blk) (h : H[id]? = some (some bk)) (hs : bk.segs = S84)  : ACall Tryz.prog 61 H [.s (.ptr id 0 0)] (.s (.bool false)) [] := by
  refine acall_gen (args0 := [.s (.ptr 0 0 0)]) (H0 := [some ⟨false, S84⟩]) (vf := fun _ => (.s (.bool false))) [(id, 0)] Tryz.func61 rfl Tryz.ntmps61 (by simp) rfl (foot1 rfl h (fun i x hx => by rw [Nat.zero_add, hs]; exact hx) rfl) rfl (fun i x0 x h0 h1 ρ u hr => by match i, h0, h1 with | 0, h0, h1 => (simp at h0 h1; subst h0; subst h1; exact arg_ptr (by rfl) hr) | i + 1, h0, _ => simp at h0) rfl (ren_free rfl) (fun W w ρ0 hW hdom => ?_)
  refine w_seq ?_
  refine c_reg (by kernel_rfl) rfl ?_
  refine s_p (by first | exact h_assign (v := .s _) rfl | exact h_assign (v := .agg _) rfl | exact h_assign (v := .tup _) rfl) ?_
  refine s_nil ?_
  refine n_wp ?_
  refine w_seq ?_
  refine c_reg (by kernel_rfl) rfl ?_
  refine s_p (by first | exact h_move (v := .s _) rfl | exact h_move (v := .agg _) rfl | exact h_move (v := .tup _) rfl) ?_
  refine s_p (by first | exact h_nen rfl rfl Tryz.underlying79 | exact h_litb (r := .bool false) (z := .bool false) rfl rfl rfl rfl (fun w => by kernel_rfl) (fun w => by kernel_rfl) rfl rfl) ?_
  refine s_p (by first | exact h_move (v := .s _) rfl | exact h_move (v := .agg _) rfl | exact h_move (v := .tup _) rfl) ?_
  first | refine s_on rfl rfl (by first | rfl | assumption) (by first | exact h_move (v := .s _) rfl | exact h_move (v := .agg _) rfl | exact h_move (v := .tup _) rfl) ?_ | refine s_off rfl rfl (by first | rfl | assumption) ?_
  first | refine s_on rfl rfl (by first | rfl | assumption) (h_nilCheck rfl) ?_ | refine s_off rfl rfl (by first | rfl | assumption) ?_
  first | refine s_on rfl rfl (by first | rfl | assumption) (h_field rfl Tryz.underlying84 rfl Tryz.sizeOf82 (by decide)) ?_ | refine s_off rfl rfl (by first | rfl | assumption) ?_
  first | refine s_on rfl rfl (by first | rfl | assumption) (by first | exact h_load_ints rfl rfl rfl (by omega) rfl Tryz.isAgg82 | exact h_load_one rfl rfl rfl Tryz.isAgg82) ?_ | refine s_off rfl rfl (by first | rfl | assumption) ?_
  first | refine s_on rfl rfl (by first | rfl | assumption) (h_litb (r := .bool false) (z := .bool false) rfl rfl rfl rfl (fun w => by kernel_rfl) (fun w => by kernel_rfl) rfl rfl) ?_ | refine s_off rfl rfl (by first | rfl | assumption) ?_
  refine s_p (by first | exact h_pick_t rfl (by first | rfl | assumption) rfl | exact h_pick_f rfl (by first | rfl | assumption) rfl) ?_
  refine s_p (by first | exact h_assign (v := .s _) rfl | exact h_assign (v := .agg _) rfl | exact h_assign (v := .tup _) rfl) ?_
  refine s_nil ?_
  refine n_wp ?_
  refine w_ret ?_
  exact done0 (ret_tmp Tryz.results61 rfl)

set_option maxRecDepth 100000 in
set_option maxHeartbeats 4000000 in
theorem good_nil (H : Heap) (n : Int) : ACall Tryz.prog 65 H [.s .nilp, .s (.int .u64 n)] (.tup [.agg [.one (.int .i64 0), .one (.int .i64 0), .ints .u64 4 (List.replicate 4 0), .ints .u64 4 (List.replicate 4 0), .one (.int .u8 0), .ints .u8 16 (List.replicate 16 0), .ints .u8 16 (List.replicate 16 0), .one .nils], .s (.int .i64 2)]) [] := by
  refine acall_free Tryz.func65 rfl Tryz.ntmps65 (by simp) rfl rfl (fun W w hW => ?_) H
  refine w_seq ?_
  refine c_reg (by kernel_rfl) rfl ?_
  refine s_a (h_alloc (segs := [.one (.int .i64 0), .one (.int .i64 0), .ints .u64 4 (List.replicate 4 0), .ints .u64 4 (List.replicate 4 0), .one (.int .u8 0), .ints .u8 16 (List.replicate 16 0), .ints .u8 16 (List.replicate 16 0), .one .nils]) Tryz.zeroValue163 (by kernel_rfl) rfl) rfl ?_
  refine s_p (by first | exact h_assign (v := .s _) rfl | exact h_assign (v := .agg _) rfl | exact h_assign (v := .tup _) rfl) ?_
  refine s_nil ?_
  refine n_wp ?_
  refine w_seq ?_
  refine w_seq ?_
  refine c_reg (by kernel_rfl) rfl ?_
  refine s_p (by first | exact h_move (v := .s _) rfl | exact h_move (v := .agg _) rfl | exact h_move (v := .tup _) rfl) ?_
  refine s_p (h_call callable_61 rfl (by first | exact there_nil _ | exact there_zero _ _ _ rfl rfl)) ?_
  refine s_p (h_not rfl) ?_
  refine s_nil ?_
  refine n_wp ?_
  refine w_cond rfl (fun hc_t10 => ?_) (fun hc_t10 => ?_)
  rotate_left
  · exact absurd hc_t10 (by simp)
  refine w_seq ?_
  refine c_reg (by kernel_rfl) rfl ?_
  refine s_p (h_build0 (segs := [.one (.int .i64 0), .one (.int .i64 0), .ints .u64 4 (List.replicate 4 0), .ints .u64 4 (List.replicate 4 0), .one (.int .u8 0), .ints .u8 16 (List.replicate 16 0), .ints .u8 16 (List.replicate 16 0), .one .nils]) build0_163 (by kernel_rfl)) ?_
  refine s_st (by first | exact m_store_agg rfl rfl rfl (.whole (Nat.le_of_ble_eq_true rfl) rfl rfl) Tryz.sizeOf163 rfl | exact m_store_agg rfl rfl rfl (.seg (Nat.le_of_ble_eq_true rfl) rfl rfl rfl) Tryz.sizeOf163 rfl | exact m_store_agg rfl rfl rfl (.ints (Nat.le_of_ble_eq_true rfl) rfl (by omega)) Tryz.sizeOf163 rfl) ?_
  refine s_p (by first | exact h_assign (v := .s _) rfl | exact h_assign (v := .agg _) rfl | exact h_assign (v := .tup _) rfl) ?_
  refine s_nil ?_
  refine n_wp ?_
  refine w_ret ?_
  refine r_thn ?_
  exact ⟨.inl rfl, ret_cell_tmp Tryz.results65 rfl rfl (.whole rfl) Tryz.isAgg163 Tryz.sizeOf163 rfl⟩

set_option maxRecDepth 100000 in
set_option maxHeartbeats 4000000 in
theorem good_zero (H : Heap) (id : Nat) (bk : Blk) (h : H[id]? = some (some bk)) (hs : bk.segs = S84) (n : Int) : ACall Tryz.prog 65 H [.s (.ptr id 0 0), .s (.int .u64 n)] (.tup [.agg [.one (.int .i64 0), .one (.int .i64 0), .ints .u64 4 (List.replicate 4 0), .ints .u64 4 (List.replicate 4 0), .one (.int .u8 0), .ints .u8 16 (List.replicate 16 0), .ints .u8 16 (List.replicate 16 0), .one .nils], .s (.int .i64 2)]) [] := by
  refine acall_gen (args0 := [.s (.ptr 0 0 0), .s (.int .u64 n)]) (H0 := [some ⟨false, S84⟩]) (vf := fun _ => (.tup [.agg [.one (.int .i64 0), .one (.int .i64 0), .ints .u64 4 (List.replicate 4 0), .ints .u64 4 (List.replicate 4 0), .one (.int .u8 0), .ints .u8 16 (List.replicate 16 0), .ints .u8 16 (List.replicate 16 0), .one .nils], .s (.int .i64 2)])) [(id, 0)] Tryz.func65 rfl Tryz.ntmps65 (by simp) rfl (foot1 rfl h (fun i x hx => by rw [Nat.zero_add, hs]; exact hx) rfl) rfl (fun i x0 x h0 h1 ρ u hr => by match i, h0, h1 with | 0, h0, h1 => (simp at h0 h1; subst h0; subst h1; exact arg_ptr (by rfl) hr) | 1, h0, h1 => (simp at h0 h1; subst h0; subst h1; exact arg_free (by rfl) hr) | i + 2, h0, _ => simp at h0) rfl (ren_free rfl) (fun W w ρ0 hW hdom => ?_)
  refine w_seq ?_
  refine c_reg (by kernel_rfl) rfl ?_
  refine s_a (h_alloc (segs := [.one (.int .i64 0), .one (.int .i64 0), .ints .u64 4 (List.replicate 4 0), .ints .u64 4 (List.replicate 4 0), .one (.int .u8 0), .ints .u8 16 (List.replicate 16 0), .ints .u8 16 (List.replicate 16 0), .one .nils]) Tryz.zeroValue163 (by kernel_rfl) rfl) rfl ?_
  refine s_p (by first | exact h_assign (v := .s _) rfl | exact h_assign (v := .agg _) rfl | exact h_assign (v := .tup _) rfl) ?_
  refine s_nil ?_
  refine n_wp ?_
  refine w_seq ?_
  refine w_seq ?_
  refine c_reg (by kernel_rfl) rfl ?_
  refine s_p (by first | exact h_move (v := .s _) rfl | exact h_move (v := .agg _) rfl | exact h_move (v := .tup _) rfl) ?_
  refine s_p (h_call callable_61 rfl (by first | exact there_nil _ | exact there_zero _ _ _ rfl rfl)) ?_
  refine s_p (h_not rfl) ?_
  refine s_nil ?_
  refine n_wp ?_
  refine w_cond rfl (fun hc_t10 => ?_) (fun hc_t10 => ?_)
  rotate_left
  · exact absurd hc_t10 (by simp)
  refine w_seq ?_
  refine c_reg (by kernel_rfl) rfl ?_
  refine s_p (h_build0 (segs := [.one (.int .i64 0), .one (.int .i64 0), .ints .u64 4 (List.replicate 4 0), .ints .u64 4 (List.replicate 4 0), .one (.int .u8 0), .ints .u8 16 (List.replicate 16 0), .ints .u8 16 (List.replicate 16 0), .one .nils]) build0_163 (by kernel_rfl)) ?_
  refine s_st (by first | exact m_store_agg rfl rfl rfl (.whole (Nat.le_of_ble_eq_true rfl) rfl rfl) Tryz.sizeOf163 rfl | exact m_store_agg rfl rfl rfl (.seg (Nat.le_of_ble_eq_true rfl) rfl rfl rfl) Tryz.sizeOf163 rfl | exact m_store_agg rfl rfl rfl (.ints (Nat.le_of_ble_eq_true rfl) rfl (by omega)) Tryz.sizeOf163 rfl) ?_
  refine s_p (by first | exact h_assign (v := .s _) rfl | exact h_assign (v := .agg _) rfl | exact h_assign (v := .tup _) rfl) ?_
  refine s_nil ?_
  refine n_wp ?_
  refine w_ret ?_
  refine r_thn ?_
  exact done0 (ret_cell_tmp Tryz.results65 rfl rfl (.whole rfl) Tryz.isAgg163 Tryz.sizeOf163 rfl)

set_option maxRecDepth 100000 in
set_option maxHeartbeats 4000000 in
theorem Ready_nil (H : Heap) (tg : List Int) (sp : Int) (bd : List Int) : ACall Tryz.prog 19 H [.s .nilp, .agg [.ints .u8 16 tg, .one (.int .u32 sp), .ints .u8 32 bd]] (.tup [.agg [.one (.int .u8 0), .ints .u8 16 (List.replicate 16 0), .ints .u8 16 (List.replicate 16 0), .one .nils], .s (.int .i64 2)]) [] := by
  refine acall_free Tryz.func19 rfl Tryz.ntmps19 (by simp) rfl rfl (fun W w hW => ?_) H
  refine w_seq ?_
  refine c_reg (by kernel_rfl) rfl ?_
  refine s_a (by first | exact h_box_agg rfl rfl | exact h_box rfl (by simp) rfl) rfl ?_
  refine s_a (h_alloc (segs := [.one (.int .u8 0), .ints .u8 16 (List.replicate 16 0), .ints .u8 16 (List.replicate 16 0), .one .nils]) Tryz.zeroValue27 (by kernel_rfl) rfl) rfl ?_
  refine s_p (by first | exact h_assign (v := .s _) rfl | exact h_assign (v := .agg _) rfl | exact h_assign (v := .tup _) rfl) ?_
  refine s_nil ?_
  refine n_wp ?_
  refine w_seq ?_
  refine w_block ?_
  refine w_seq ?_
  refine c_reg (by kernel_rfl) rfl ?_
  refine s_p (by first | exact h_move (v := .s _) rfl | exact h_move (v := .agg _) rfl | exact h_move (v := .tup _) rfl) ?_
  refine s_p (h_call callable_61 rfl (by first | exact there_nil _ | exact there_zero _ _ _ rfl rfl)) ?_
  refine s_p (h_not rfl) ?_
  refine s_p (by first | exact h_assign (v := .s _) rfl | exact h_assign (v := .agg _) rfl | exact h_assign (v := .tup _) rfl) ?_
  refine s_nil ?_
  refine n_wp ?_
  refine w_cond rfl (fun hc_t12 => ?_) (fun hc_t12 => ?_)
  rotate_left
  · exact absurd hc_t12 (by simp)
  refine w_seq ?_
  refine c_reg (by kernel_rfl) rfl ?_
  refine s_p (h_build0 (segs := [.one (.int .u8 0), .ints .u8 16 (List.replicate 16 0), .ints .u8 16 (List.replicate 16 0), .one .nils]) build0_27 (by kernel_rfl)) ?_
  refine s_st (by first | exact m_store_agg rfl rfl rfl (.whole (Nat.le_of_ble_eq_true rfl) rfl rfl) Tryz.sizeOf27 rfl | exact m_store_agg rfl rfl rfl (.seg (Nat.le_of_ble_eq_true rfl) rfl rfl rfl) Tryz.sizeOf27 rfl | exact m_store_agg rfl rfl rfl (.ints (Nat.le_of_ble_eq_true rfl) rfl (by omega)) Tryz.sizeOf27 rfl) ?_
  refine s_p (by first | exact h_assign (v := .s _) rfl | exact h_assign (v := .agg _) rfl | exact h_assign (v := .tup _) rfl) ?_
  refine s_nil ?_
  refine n_wp ?_
  refine w_ret ?_
  refine r_blo ?_
  refine r_thn ?_
  exact ⟨.inl rfl, ret_cell_tmp Tryz.results19 rfl rfl (.whole rfl) Tryz.isAgg27 Tryz.sizeOf27 rfl⟩

set_option maxRecDepth 100000 in
set_option maxHeartbeats 4000000 in
theorem Ready_zero (H : Heap) (id : Nat) (bk : Blk) (h : H[id]? = some (some bk)) (hs : bk.segs = S84) (tg : List Int) (sp : Int) (bd : List Int) : ACall Tryz.prog 19 H [.s (.ptr id 0 0), .agg [.ints .u8 16 tg, .one (.int .u32 sp), .ints .u8 32 bd]] (.tup [.agg [.one (.int .u8 0), .ints .u8 16 (List.replicate 16 0), .ints .u8 16 (List.replicate 16 0), .one .nils], .s (.int .i64 2)]) [] := by
  refine acall_gen (args0 := [.s (.ptr 0 0 0), .agg [.ints .u8 16 tg, .one (.int .u32 sp), .ints .u8 32 bd]]) (H0 := [some ⟨false, S84⟩]) (vf := fun _ => (.tup [.agg [.one (.int .u8 0), .ints .u8 16 (List.replicate 16 0), .ints .u8 16 (List.replicate 16 0), .one .nils], .s (.int .i64 2)])) [(id, 0)] Tryz.func19 rfl Tryz.ntmps19 (by simp) rfl (foot1 rfl h (fun i x hx => by rw [Nat.zero_add, hs]; exact hx) rfl) rfl (fun i x0 x h0 h1 ρ u hr => by match i, h0, h1 with | 0, h0, h1 => (simp at h0 h1; subst h0; subst h1; exact arg_ptr (by rfl) hr) | 1, h0, h1 => (simp at h0 h1; subst h0; subst h1; exact arg_free (by rfl) hr) | i + 2, h0, _ => simp at h0) rfl (ren_free rfl) (fun W w ρ0 hW hdom => ?_)
  refine w_seq ?_
  refine c_reg (by kernel_rfl) rfl ?_
  refine s_a (by first | exact h_box_agg rfl rfl | exact h_box rfl (by simp) rfl) rfl ?_
  refine s_a (h_alloc (segs := [.one (.int .u8 0), .ints .u8 16 (List.replicate 16 0), .ints .u8 16 (List.replicate 16 0), .one .nils]) Tryz.zeroValue27 (by kernel_rfl) rfl) rfl ?_
  refine s_p (by first | exact h_assign (v := .s _) rfl | exact h_assign (v := .agg _) rfl | exact h_assign (v := .tup _) rfl) ?_
  refine s_nil ?_
  refine n_wp ?_
  refine w_seq ?_
  refine w_block ?_
  refine w_seq ?_
  refine c_reg (by kernel_rfl) rfl ?_
  refine s_p (by first | exact h_move (v := .s _) rfl | exact h_move (v := .agg _) rfl | exact h_move (v := .tup _) rfl) ?_
  refine s_p (h_call callable_61 rfl (by first | exact there_nil _ | exact there_zero _ _ _ rfl rfl)) ?_
  refine s_p (h_not rfl) ?_
  refine s_p (by first | exact h_assign (v := .s _) rfl | exact h_assign (v := .agg _) rfl | exact h_assign (v := .tup _) rfl) ?_
  refine s_nil ?_
  refine n_wp ?_
  refine w_cond rfl (fun hc_t12 => ?_) (fun hc_t12 => ?_)
  rotate_left
  · exact absurd hc_t12 (by simp)
  refine w_seq ?_
  refine c_reg (by kernel_rfl) rfl ?_
  refine s_p (h_build0 (segs := [.one (.int .u8 0), .ints .u8 16 (List.replicate 16 0), .ints .u8 16 (List.replicate 16 0), .one .nils]) build0_27 (by kernel_rfl)) ?_
  refine s_st (by first | exact m_store_agg rfl rfl rfl (.whole (Nat.le_of_ble_eq_true rfl) rfl rfl) Tryz.sizeOf27 rfl | exact m_store_agg rfl rfl rfl (.seg (Nat.le_of_ble_eq_true rfl) rfl rfl rfl) Tryz.sizeOf27 rfl | exact m_store_agg rfl rfl rfl (.ints (Nat.le_of_ble_eq_true rfl) rfl (by omega)) Tryz.sizeOf27 rfl) ?_
  refine s_p (by first | exact h_assign (v := .s _) rfl | exact h_assign (v := .agg _) rfl | exact h_assign (v := .tup _) rfl) ?_
  refine s_nil ?_
  refine n_wp ?_
  refine w_ret ?_
  refine r_blo ?_
  refine r_thn ?_
  exact done0 (ret_cell_tmp Tryz.results19 rfl rfl (.whole rfl) Tryz.isAgg27 Tryz.sizeOf27 rfl)

set_option maxRecDepth 100000 in
set_option maxHeartbeats 4000000 in
theorem Puzzle_nil (H : Heap) (n : Int) (tg : List Int) (sp : Int) (bd : List Int) : ACall Tryz.prog 21 H [.s .nilp, .s (.int .u64 n), .agg [.ints .u8 16 tg, .one (.int .u32 sp), .ints .u8 32 bd]] (.tup [.agg [.one (.int .u8 0), .one (.int .u64 0), .ints .u8 32 (List.replicate 32 0)], .s (.int .i64 2)]) [] := by
  refine acall_free Tryz.func21 rfl Tryz.ntmps21 (by simp) rfl rfl (fun W w hW => ?_) H
  refine w_seq ?_
  refine c_reg (by kernel_rfl) rfl ?_
  refine s_a (by first | exact h_box_agg rfl rfl | exact h_box rfl (by simp) rfl) rfl ?_
  refine s_a (h_alloc (segs := [.one (.int .u8 0), .one (.int .u64 0), .ints .u8 32 (List.replicate 32 0)]) Tryz.zeroValue92 (by kernel_rfl) rfl) rfl ?_
  refine s_p (by first | exact h_assign (v := .s _) rfl | exact h_assign (v := .agg _) rfl | exact h_assign (v := .tup _) rfl) ?_
  refine s_nil ?_
  refine n_wp ?_
  refine w_seq ?_
  refine w_seq ?_
  refine c_reg (by kernel_rfl) rfl ?_
  refine s_p (by first | exact h_move (v := .s _) rfl | exact h_move (v := .agg _) rfl | exact h_move (v := .tup _) rfl) ?_
  refine s_p (h_call callable_61 rfl (by first | exact there_nil _ | exact there_zero _ _ _ rfl rfl)) ?_
  refine s_p (by first | exact h_move (v := .s _) rfl | exact h_move (v := .agg _) rfl | exact h_move (v := .tup _) rfl) ?_
  first | refine s_on rfl rfl (by first | rfl | assumption) (h_field rfl Tryz.underlying89 rfl Tryz.sizeOf46 (by decide)) ?_ | refine s_off rfl rfl (by first | rfl | assumption) ?_
  first | refine s_on rfl rfl (by first | rfl | assumption) (by first | exact h_load_ints rfl rfl rfl (by omega) rfl Tryz.isAgg46 | exact h_load_one rfl rfl rfl Tryz.isAgg46) ?_ | refine s_off rfl rfl (by first | rfl | assumption) ?_
  first | refine s_on rfl rfl (by first | rfl | assumption) (h_bin rfl rfl (b_eql rfl)) ?_ | refine s_off rfl rfl (by first | rfl | assumption) ?_
  refine s_p (by first | exact h_pick_t rfl (by first | rfl | assumption) rfl | exact h_pick_f rfl (by first | rfl | assumption) rfl) ?_
  refine s_nil ?_
  refine n_wp ?_
  refine w_cond rfl (fun hc_t16 => ?_) (fun hc_t16 => ?_)
  · exact absurd hc_t16 (by simp)
  refine w_skip ?_
  refine n_wp ?_
  refine w_seq ?_
  refine c_reg (by kernel_rfl) rfl ?_
  refine s_p (by first | exact h_move (v := .s _) rfl | exact h_move (v := .agg _) rfl | exact h_move (v := .tup _) rfl) ?_
  refine s_p (by first | exact h_move (v := .s _) rfl | exact h_move (v := .agg _) rfl | exact h_move (v := .tup _) rfl) ?_
  refine s_p (h_call callable_65 rfl (by first | exact good_nil _ _ | exact good_zero _ _ _ rfl rfl _)) ?_
  refine s_p (by first | exact h_move (v := .s _) rfl | exact h_move (v := .agg _) rfl | exact h_move (v := .tup _) rfl) ?_
  refine s_p (h_extract rfl rfl (by simp)) ?_
  refine s_p (h_extract rfl rfl (by simp)) ?_
  refine s_a (h_alloc (segs := [.one (.int .i64 0), .one (.int .i64 0), .ints .u64 4 (List.replicate 4 0), .ints .u64 4 (List.replicate 4 0), .one (.int .u8 0), .ints .u8 16 (List.replicate 16 0), .ints .u8 16 (List.replicate 16 0), .one .nils]) Tryz.zeroValue163 (by kernel_rfl) rfl) rfl ?_
  refine s_st (by first | exact m_store_agg rfl rfl rfl (.whole (Nat.le_of_ble_eq_true rfl) rfl rfl) Tryz.sizeOf163 rfl | exact m_store_agg rfl rfl rfl (.seg (Nat.le_of_ble_eq_true rfl) rfl rfl rfl) Tryz.sizeOf163 rfl | exact m_store_agg rfl rfl rfl (.ints (Nat.le_of_ble_eq_true rfl) rfl (by omega)) Tryz.sizeOf163 rfl) ?_
  refine s_p (by first | exact h_assign (v := .s _) rfl | exact h_assign (v := .agg _) rfl | exact h_assign (v := .tup _) rfl) ?_
  refine s_nil ?_
  refine n_wp ?_
  refine w_seq ?_
  refine w_seq ?_
  refine c_reg (by kernel_rfl) rfl ?_
  refine s_p (by first | exact h_move (v := .s _) rfl | exact h_move (v := .agg _) rfl | exact h_move (v := .tup _) rfl) ?_
  refine s_p (h_bin rfl rfl (b_neq rfl)) ?_
  refine s_nil ?_
  refine n_wp ?_
  refine w_cond rfl (fun hc_t25 => ?_) (fun hc_t25 => ?_)
  rotate_left
  · exact absurd hc_t25 (by simp)
  refine w_seq ?_
  refine c_reg (by kernel_rfl) rfl ?_
  refine s_p (h_build0 (segs := [.one (.int .u8 0), .one (.int .u64 0), .ints .u8 32 (List.replicate 32 0)]) build0_92 (by kernel_rfl)) ?_
  refine s_p (by first | exact h_move (v := .s _) rfl | exact h_move (v := .agg _) rfl | exact h_move (v := .tup _) rfl) ?_
  refine s_st (by first | exact m_store_agg rfl rfl rfl (.whole (Nat.le_of_ble_eq_true rfl) rfl rfl) Tryz.sizeOf92 rfl | exact m_store_agg rfl rfl rfl (.seg (Nat.le_of_ble_eq_true rfl) rfl rfl rfl) Tryz.sizeOf92 rfl | exact m_store_agg rfl rfl rfl (.ints (Nat.le_of_ble_eq_true rfl) rfl (by omega)) Tryz.sizeOf92 rfl) ?_
  refine s_p (by first | exact h_assign (v := .s _) rfl | exact h_assign (v := .agg _) rfl | exact h_assign (v := .tup _) rfl) ?_
  refine s_nil ?_
  refine n_wp ?_
  refine w_ret ?_
  refine r_thn ?_
  exact ⟨.inl rfl, ret_cell_tmp Tryz.results21 rfl rfl (.whole rfl) Tryz.isAgg92 Tryz.sizeOf92 rfl⟩

set_option maxRecDepth 100000 in
set_option maxHeartbeats 4000000 in
theorem Puzzle_zero (H : Heap) (id : Nat) (bk : Blk) (h : H[id]? = some (some bk)) (hs : bk.segs = S84) (n : Int) (tg : List Int) (sp : Int) (bd : List Int) : ACall Tryz.prog 21 H [.s (.ptr id 0 0), .s (.int .u64 n), .agg [.ints .u8 16 tg, .one (.int .u32 sp), .ints .u8 32 bd]] (.tup [.agg [.one (.int .u8 0), .one (.int .u64 0), .ints .u8 32 (List.replicate 32 0)], .s (.int .i64 2)]) [] := by
  refine acall_gen (args0 := [.s (.ptr 0 0 0), .s (.int .u64 n), .agg [.ints .u8 16 tg, .one (.int .u32 sp), .ints .u8 32 bd]]) (H0 := [some ⟨false, S84⟩]) (vf := fun _ => (.tup [.agg [.one (.int .u8 0), .one (.int .u64 0), .ints .u8 32 (List.replicate 32 0)], .s (.int .i64 2)])) [(id, 0)] Tryz.func21 rfl Tryz.ntmps21 (by simp) rfl (foot1 rfl h (fun i x hx => by rw [Nat.zero_add, hs]; exact hx) rfl) rfl (fun i x0 x h0 h1 ρ u hr => by match i, h0, h1 with | 0, h0, h1 => (simp at h0 h1; subst h0; subst h1; exact arg_ptr (by rfl) hr) | 1, h0, h1 => (simp at h0 h1; subst h0; subst h1; exact arg_free (by rfl) hr) | 2, h0, h1 => (simp at h0 h1; subst h0; subst h1; exact arg_free (by rfl) hr) | i + 3, h0, _ => simp at h0) rfl (ren_free rfl) (fun W w ρ0 hW hdom => ?_)
  refine w_seq ?_
  refine c_reg (by kernel_rfl) rfl ?_
  refine s_a (by first | exact h_box_agg rfl rfl | exact h_box rfl (by simp) rfl) rfl ?_
  refine s_a (h_alloc (segs := [.one (.int .u8 0), .one (.int .u64 0), .ints .u8 32 (List.replicate 32 0)]) Tryz.zeroValue92 (by kernel_rfl) rfl) rfl ?_
  refine s_p (by first | exact h_assign (v := .s _) rfl | exact h_assign (v := .agg _) rfl | exact h_assign (v := .tup _) rfl) ?_
  refine s_nil ?_
  refine n_wp ?_
  refine w_seq ?_
  refine w_seq ?_
  refine c_reg (by kernel_rfl) rfl ?_
  refine s_p (by first | exact h_move (v := .s _) rfl | exact h_move (v := .agg _) rfl | exact h_move (v := .tup _) rfl) ?_
  refine s_p (h_call callable_61 rfl (by first | exact there_nil _ | exact there_zero _ _ _ rfl rfl)) ?_
  refine s_p (by first | exact h_move (v := .s _) rfl | exact h_move (v := .agg _) rfl | exact h_move (v := .tup _) rfl) ?_
  first | refine s_on rfl rfl (by first | rfl | assumption) (h_field rfl Tryz.underlying89 rfl Tryz.sizeOf46 (by decide)) ?_ | refine s_off rfl rfl (by first | rfl | assumption) ?_
  first | refine s_on rfl rfl (by first | rfl | assumption) (by first | exact h_load_ints rfl rfl rfl (by omega) rfl Tryz.isAgg46 | exact h_load_one rfl rfl rfl Tryz.isAgg46) ?_ | refine s_off rfl rfl (by first | rfl | assumption) ?_
  first | refine s_on rfl rfl (by first | rfl | assumption) (h_bin rfl rfl (b_eql rfl)) ?_ | refine s_off rfl rfl (by first | rfl | assumption) ?_
  refine s_p (by first | exact h_pick_t rfl (by first | rfl | assumption) rfl | exact h_pick_f rfl (by first | rfl | assumption) rfl) ?_
  refine s_nil ?_
  refine n_wp ?_
  refine w_cond rfl (fun hc_t16 => ?_) (fun hc_t16 => ?_)
  · exact absurd hc_t16 (by simp)
  refine w_skip ?_
  refine n_wp ?_
  refine w_seq ?_
  refine c_reg (by kernel_rfl) rfl ?_
  refine s_p (by first | exact h_move (v := .s _) rfl | exact h_move (v := .agg _) rfl | exact h_move (v := .tup _) rfl) ?_
  refine s_p (by first | exact h_move (v := .s _) rfl | exact h_move (v := .agg _) rfl | exact h_move (v := .tup _) rfl) ?_
  refine s_p (h_call callable_65 rfl (by first | exact good_nil _ _ | exact good_zero _ _ _ rfl rfl _)) ?_
  refine s_p (by first | exact h_move (v := .s _) rfl | exact h_move (v := .agg _) rfl | exact h_move (v := .tup _) rfl) ?_
  refine s_p (h_extract rfl rfl (by simp)) ?_
  refine s_p (h_extract rfl rfl (by simp)) ?_
  refine s_a (h_alloc (segs := [.one (.int .i64 0), .one (.int .i64 0), .ints .u64 4 (List.replicate 4 0), .ints .u64 4 (List.replicate 4 0), .one (.int .u8 0), .ints .u8 16 (List.replicate 16 0), .ints .u8 16 (List.replicate 16 0), .one .nils]) Tryz.zeroValue163 (by kernel_rfl) rfl) rfl ?_
  refine s_st (by first | exact m_store_agg rfl rfl rfl (.whole (Nat.le_of_ble_eq_true rfl) rfl rfl) Tryz.sizeOf163 rfl | exact m_store_agg rfl rfl rfl (.seg (Nat.le_of_ble_eq_true rfl) rfl rfl rfl) Tryz.sizeOf163 rfl | exact m_store_agg rfl rfl rfl (.ints (Nat.le_of_ble_eq_true rfl) rfl (by omega)) Tryz.sizeOf163 rfl) ?_
  refine s_p (by first | exact h_assign (v := .s _) rfl | exact h_assign (v := .agg _) rfl | exact h_assign (v := .tup _) rfl) ?_
  refine s_nil ?_
  refine n_wp ?_
  refine w_seq ?_
  refine w_seq ?_
  refine c_reg (by kernel_rfl) rfl ?_
  refine s_p (by first | exact h_move (v := .s _) rfl | exact h_move (v := .agg _) rfl | exact h_move (v := .tup _) rfl) ?_
  refine s_p (h_bin rfl rfl (b_neq rfl)) ?_
  refine s_nil ?_
  refine n_wp ?_
  refine w_cond rfl (fun hc_t25 => ?_) (fun hc_t25 => ?_)
  rotate_left
  · exact absurd hc_t25 (by simp)
  refine w_seq ?_
  refine c_reg (by kernel_rfl) rfl ?_
  refine s_p (h_build0 (segs := [.one (.int .u8 0), .one (.int .u64 0), .ints .u8 32 (List.replicate 32 0)]) build0_92 (by kernel_rfl)) ?_
  refine s_p (by first | exact h_move (v := .s _) rfl | exact h_move (v := .agg _) rfl | exact h_move (v := .tup _) rfl) ?_
  refine s_st (by first | exact m_store_agg rfl rfl rfl (.whole (Nat.le_of_ble_eq_true rfl) rfl rfl) Tryz.sizeOf92 rfl | exact m_store_agg rfl rfl rfl (.seg (Nat.le_of_ble_eq_true rfl) rfl rfl rfl) Tryz.sizeOf92 rfl | exact m_store_agg rfl rfl rfl (.ints (Nat.le_of_ble_eq_true rfl) rfl (by omega)) Tryz.sizeOf92 rfl) ?_
  refine s_p (by first | exact h_assign (v := .s _) rfl | exact h_assign (v := .agg _) rfl | exact h_assign (v := .tup _) rfl) ?_
  refine s_nil ?_
  refine n_wp ?_
  refine w_ret ?_
  refine r_thn ?_
  exact done0 (ret_cell_tmp Tryz.results21 rfl rfl (.whole rfl) Tryz.isAgg92 Tryz.sizeOf92 rfl)

set_option maxRecDepth 100000 in
set_option maxHeartbeats 4000000 in
theorem Secret_nil (H : Heap) (n : Int) : ACall Tryz.prog 22 H [.s .nilp, .s (.int .u64 n)] (.tup [.agg [.ints .u64 4 (List.replicate 4 0)], .s (.int .i64 2)]) [] := by
  refine acall_free Tryz.func22 rfl Tryz.ntmps22 (by simp) rfl rfl (fun W w hW => ?_) H
  refine w_seq ?_
  refine c_reg (by kernel_rfl) rfl ?_
  refine s_a (h_alloc (segs := [.ints .u64 4 (List.replicate 4 0)]) Tryz.zeroValue34 (by kernel_rfl) rfl) rfl ?_
  refine s_p (by first | exact h_assign (v := .s _) rfl | exact h_assign (v := .agg _) rfl | exact h_assign (v := .tup _) rfl) ?_
  refine s_nil ?_
  refine n_wp ?_
  refine w_seq ?_
  refine c_reg (by kernel_rfl) rfl ?_
  refine s_p (by first | exact h_move (v := .s _) rfl | exact h_move (v := .agg _) rfl | exact h_move (v := .tup _) rfl) ?_
  refine s_p (by first | exact h_move (v := .s _) rfl | exact h_move (v := .agg _) rfl | exact h_move (v := .tup _) rfl) ?_
  refine s_p (h_call callable_65 rfl (by first | exact good_nil _ _ | exact good_zero _ _ _ rfl rfl _)) ?_
  refine s_p (by first | exact h_move (v := .s _) rfl | exact h_move (v := .agg _) rfl | exact h_move (v := .tup _) rfl) ?_
  refine s_p (h_extract rfl rfl (by simp)) ?_
  refine s_p (h_extract rfl rfl (by simp)) ?_
  refine s_a (h_alloc (segs := [.one (.int .i64 0), .one (.int .i64 0), .ints .u64 4 (List.replicate 4 0), .ints .u64 4 (List.replicate 4 0), .one (.int .u8 0), .ints .u8 16 (List.replicate 16 0), .ints .u8 16 (List.replicate 16 0), .one .nils]) Tryz.zeroValue163 (by kernel_rfl) rfl) rfl ?_
  refine s_st (by first | exact m_store_agg rfl rfl rfl (.whole (Nat.le_of_ble_eq_true rfl) rfl rfl) Tryz.sizeOf163 rfl | exact m_store_agg rfl rfl rfl (.seg (Nat.le_of_ble_eq_true rfl) rfl rfl rfl) Tryz.sizeOf163 rfl | exact m_store_agg rfl rfl rfl (.ints (Nat.le_of_ble_eq_true rfl) rfl (by omega)) Tryz.sizeOf163 rfl) ?_
  refine s_p (by first | exact h_assign (v := .s _) rfl | exact h_assign (v := .agg _) rfl | exact h_assign (v := .tup _) rfl) ?_
  refine s_nil ?_
  refine n_wp ?_
  refine w_seq ?_
  refine c_reg (by kernel_rfl) rfl ?_
  refine s_p (h_field rfl Tryz.underlying163 rfl Tryz.sizeOf34 (by decide)) ?_
  refine s_p (by first | exact h_load_agg rfl rfl (.whole rfl) Tryz.isAgg34 Tryz.sizeOf34 | exact h_load_agg rfl rfl (.seg rfl rfl) Tryz.isAgg34 Tryz.sizeOf34 | exact h_load_agg rfl rfl (.ints rfl (by omega)) Tryz.isAgg34 Tryz.sizeOf34) ?_
  refine s_p (by first | exact h_move (v := .s _) rfl | exact h_move (v := .agg _) rfl | exact h_move (v := .tup _) rfl) ?_
  refine s_st (by first | exact m_store_agg rfl rfl rfl (.whole (Nat.le_of_ble_eq_true rfl) rfl rfl) Tryz.sizeOf34 rfl | exact m_store_agg rfl rfl rfl (.seg (Nat.le_of_ble_eq_true rfl) rfl rfl rfl) Tryz.sizeOf34 rfl | exact m_store_agg rfl rfl rfl (.ints (Nat.le_of_ble_eq_true rfl) rfl (by omega)) Tryz.sizeOf34 rfl) ?_
  refine s_p (by first | exact h_assign (v := .s _) rfl | exact h_assign (v := .agg _) rfl | exact h_assign (v := .tup _) rfl) ?_
  refine s_nil ?_
  refine n_wp ?_
  refine w_ret ?_
  exact ⟨.inl rfl, ret_cell_tmp Tryz.results22 rfl rfl (.whole rfl) Tryz.isAgg34 Tryz.sizeOf34 rfl⟩

set_option maxRecDepth 100000 in
set_option maxHeartbeats 4000000 in
theorem Secret_zero (H : Heap) (id : Nat) (bk : Blk) (h : H[id]? = some (some bk)) (hs : bk.segs = S84) (n : Int) : ACall Tryz.prog 22 H [.s (.ptr id 0 0), .s (.int .u64 n)] (.tup [.agg [.ints .u64 4 (List.replicate 4 0)], .s (.int .i64 2)]) [] := by
  refine acall_gen (args0 := [.s (.ptr 0 0 0), .s (.int .u64 n)]) (H0 := [some ⟨false, S84⟩]) (vf := fun _ => (.tup [.agg [.ints .u64 4 (List.replicate 4 0)], .s (.int .i64 2)])) [(id, 0)] Tryz.func22 rfl Tryz.ntmps22 (by simp) rfl (foot1 rfl h (fun i x hx => by rw [Nat.zero_add, hs]; exact hx) rfl) rfl (fun i x0 x h0 h1 ρ u hr => by match i, h0, h1 with | 0, h0, h1 => (simp at h0 h1; subst h0; subst h1; exact arg_ptr (by rfl) hr) | 1, h0, h1 => (simp at h0 h1; subst h0; subst h1; exact arg_free (by rfl) hr) | i + 2, h0, _ => simp at h0) rfl (ren_free rfl) (fun W w ρ0 hW hdom => ?_)
  refine w_seq ?_
  refine c_reg (by kernel_rfl) rfl ?_
  refine s_a (h_alloc (segs := [.ints .u64 4 (List.replicate 4 0)]) Tryz.zeroValue34 (by kernel_rfl) rfl) rfl ?_
  refine s_p (by first | exact h_assign (v := .s _) rfl | exact h_assign (v := .agg _) rfl | exact h_assign (v := .tup _) rfl) ?_
  refine s_nil ?_
  refine n_wp ?_
  refine w_seq ?_
  refine c_reg (by kernel_rfl) rfl ?_
  refine s_p (by first | exact h_move (v := .s _) rfl | exact h_move (v := .agg _) rfl | exact h_move (v := .tup _) rfl) ?_
  refine s_p (by first | exact h_move (v := .s _) rfl | exact h_move (v := .agg _) rfl | exact h_move (v := .tup _) rfl) ?_
  refine s_p (h_call callable_65 rfl (by first | exact good_nil _ _ | exact good_zero _ _ _ rfl rfl _)) ?_
  refine s_p (by first | exact h_move (v := .s _) rfl | exact h_move (v := .agg _) rfl | exact h_move (v := .tup _) rfl) ?_
  refine s_p (h_extract rfl rfl (by simp)) ?_
  refine s_p (h_extract rfl rfl (by simp)) ?_
  refine s_a (h_alloc (segs := [.one (.int .i64 0), .one (.int .i64 0), .ints .u64 4 (List.replicate 4 0), .ints .u64 4 (List.replicate 4 0), .one (.int .u8 0), .ints .u8 16 (List.replicate 16 0), .ints .u8 16 (List.replicate 16 0), .one .nils]) Tryz.zeroValue163 (by kernel_rfl) rfl) rfl ?_
  refine s_st (by first | exact m_store_agg rfl rfl rfl (.whole (Nat.le_of_ble_eq_true rfl) rfl rfl) Tryz.sizeOf163 rfl | exact m_store_agg rfl rfl rfl (.seg (Nat.le_of_ble_eq_true rfl) rfl rfl rfl) Tryz.sizeOf163 rfl | exact m_store_agg rfl rfl rfl (.ints (Nat.le_of_ble_eq_true rfl) rfl (by omega)) Tryz.sizeOf163 rfl) ?_
  refine s_p (by first | exact h_assign (v := .s _) rfl | exact h_assign (v := .agg _) rfl | exact h_assign (v := .tup _) rfl) ?_
  refine s_nil ?_
  refine n_wp ?_
  refine w_seq ?_
  refine c_reg (by kernel_rfl) rfl ?_
  refine s_p (h_field rfl Tryz.underlying163 rfl Tryz.sizeOf34 (by decide)) ?_
  refine s_p (by first | exact h_load_agg rfl rfl (.whole rfl) Tryz.isAgg34 Tryz.sizeOf34 | exact h_load_agg rfl rfl (.seg rfl rfl) Tryz.isAgg34 Tryz.sizeOf34 | exact h_load_agg rfl rfl (.ints rfl (by omega)) Tryz.isAgg34 Tryz.sizeOf34) ?_
  refine s_p (by first | exact h_move (v := .s _) rfl | exact h_move (v := .agg _) rfl | exact h_move (v := .tup _) rfl) ?_
  refine s_st (by first | exact m_store_agg rfl rfl rfl (.whole (Nat.le_of_ble_eq_true rfl) rfl rfl) Tryz.sizeOf34 rfl | exact m_store_agg rfl rfl rfl (.seg (Nat.le_of_ble_eq_true rfl) rfl rfl rfl) Tryz.sizeOf34 rfl | exact m_store_agg rfl rfl rfl (.ints (Nat.le_of_ble_eq_true rfl) rfl (by omega)) Tryz.sizeOf34 rfl) ?_
  refine s_p (by first | exact h_assign (v := .s _) rfl | exact h_assign (v := .agg _) rfl | exact h_assign (v := .tup _) rfl) ?_
  refine s_nil ?_
  refine n_wp ?_
  refine w_ret ?_
  exact done0 (ret_cell_tmp Tryz.results22 rfl rfl (.whole rfl) Tryz.isAgg34 Tryz.sizeOf34 rfl)

set_option maxRecDepth 100000 in
set_option maxHeartbeats 4000000 in
theorem Public_nil (H : Heap) (n : Int) : ACall Tryz.prog 23 H [.s .nilp, .s (.int .u64 n)] (.tup [.agg [.ints .u64 4 (List.replicate 4 0)], .s (.int .i64 2)]) [] := by
  refine acall_free Tryz.func23 rfl Tryz.ntmps23 (by simp) rfl rfl (fun W w hW => ?_) H
  refine w_seq ?_
  refine c_reg (by kernel_rfl) rfl ?_
  refine s_a (h_alloc (segs := [.ints .u64 4 (List.replicate 4 0)]) Tryz.zeroValue34 (by kernel_rfl) rfl) rfl ?_
  refine s_p (by first | exact h_assign (v := .s _) rfl | exact h_assign (v := .agg _) rfl | exact h_assign (v := .tup _) rfl) ?_
  refine s_nil ?_
  refine n_wp ?_
  refine w_seq ?_
  refine c_reg (by kernel_rfl) rfl ?_
  refine s_p (by first | exact h_move (v := .s _) rfl | exact h_move (v := .agg _) rfl | exact h_move (v := .tup _) rfl) ?_
  refine s_p (by first | exact h_move (v := .s _) rfl | exact h_move (v := .agg _) rfl | exact h_move (v := .tup _) rfl) ?_
  refine s_p (h_call callable_65 rfl (by first | exact good_nil _ _ | exact good_zero _ _ _ rfl rfl _)) ?_
  refine s_p (by first | exact h_move (v := .s _) rfl | exact h_move (v := .agg _) rfl | exact h_move (v := .tup _) rfl) ?_
  refine s_p (h_extract rfl rfl (by simp)) ?_
  refine s_p (h_extract rfl rfl (by simp)) ?_
  refine s_a (h_alloc (segs := [.one (.int .i64 0), .one (.int .i64 0), .ints .u64 4 (List.replicate 4 0), .ints .u64 4 (List.replicate 4 0), .one (.int .u8 0), .ints .u8 16 (List.replicate 16 0), .ints .u8 16 (List.replicate 16 0), .one .nils]) Tryz.zeroValue163 (by kernel_rfl) rfl) rfl ?_
  refine s_st (by first | exact m_store_agg rfl rfl rfl (.whole (Nat.le_of_ble_eq_true rfl) rfl rfl) Tryz.sizeOf163 rfl | exact m_store_agg rfl rfl rfl (.seg (Nat.le_of_ble_eq_true rfl) rfl rfl rfl) Tryz.sizeOf163 rfl | exact m_store_agg rfl rfl rfl (.ints (Nat.le_of_ble_eq_true rfl) rfl (by omega)) Tryz.sizeOf163 rfl) ?_
  refine s_p (by first | exact h_assign (v := .s _) rfl | exact h_assign (v := .agg _) rfl | exact h_assign (v := .tup _) rfl) ?_
  refine s_nil ?_
  refine n_wp ?_
  refine w_seq ?_
  refine c_reg (by kernel_rfl) rfl ?_
  refine s_p (h_field rfl Tryz.underlying163 rfl Tryz.sizeOf34 (by decide)) ?_
  refine s_p (by first | exact h_load_agg rfl rfl (.whole rfl) Tryz.isAgg34 Tryz.sizeOf34 | exact h_load_agg rfl rfl (.seg rfl rfl) Tryz.isAgg34 Tryz.sizeOf34 | exact h_load_agg rfl rfl (.ints rfl (by omega)) Tryz.isAgg34 Tryz.sizeOf34) ?_
  refine s_p (by first | exact h_move (v := .s _) rfl | exact h_move (v := .agg _) rfl | exact h_move (v := .tup _) rfl) ?_
  refine s_st (by first | exact m_store_agg rfl rfl rfl (.whole (Nat.le_of_ble_eq_true rfl) rfl rfl) Tryz.sizeOf34 rfl | exact m_store_agg rfl rfl rfl (.seg (Nat.le_of_ble_eq_true rfl) rfl rfl rfl) Tryz.sizeOf34 rfl | exact m_store_agg rfl rfl rfl (.ints (Nat.le_of_ble_eq_true rfl) rfl (by omega)) Tryz.sizeOf34 rfl) ?_
  refine s_p (by first | exact h_assign (v := .s _) rfl | exact h_assign (v := .agg _) rfl | exact h_assign (v := .tup _) rfl) ?_
  refine s_nil ?_
  refine n_wp ?_
  refine w_ret ?_
  exact ⟨.inl rfl, ret_cell_tmp Tryz.results23 rfl rfl (.whole rfl) Tryz.isAgg34 Tryz.sizeOf34 rfl⟩

set_option maxRecDepth 100000 in
set_option maxHeartbeats 4000000 in
theorem Public_zero (H : Heap) (id : Nat) (bk : Blk) (h : H[id]? = some (some bk)) (hs : bk.segs = S84) (n : Int) : ACall Tryz.prog 23 H [.s (.ptr id 0 0), .s (.int .u64 n)] (.tup [.agg [.ints .u64 4 (List.replicate 4 0)], .s (.int .i64 2)]) [] := by
  refine acall_gen (args0 := [.s (.ptr 0 0 0), .s (.int .u64 n)]) (H0 := [some ⟨false, S84⟩]) (vf := fun _ => (.tup [.agg [.ints .u64 4 (List.replicate 4 0)], .s (.int .i64 2)])) [(id, 0)] Tryz.func23 rfl Tryz.ntmps23 (by simp) rfl (foot1 rfl h (fun i x hx => by rw [Nat.zero_add, hs]; exact hx) rfl) rfl (fun i x0 x h0 h1 ρ u hr => by match i, h0, h1 with | 0, h0, h1 => (simp at h0 h1; subst h0; subst h1; exact arg_ptr (by rfl) hr) | 1, h0, h1 => (simp at h0 h1; subst h0; subst h1; exact arg_free (by rfl) hr) | i + 2, h0, _ => simp at h0) rfl (ren_free rfl) (fun W w ρ0 hW hdom => ?_)
  refine w_seq ?_
  refine c_reg (by kernel_rfl) rfl ?_
  refine s_a (h_alloc (segs := [.ints .u64 4 (List.replicate 4 0)]) Tryz.zeroValue34 (by kernel_rfl) rfl) rfl ?_
  refine s_p (by first | exact h_assign (v := .s _) rfl | exact h_assign (v := .agg _) rfl | exact h_assign (v := .tup _) rfl) ?_
  refine s_nil ?_
  refine n_wp ?_
  refine w_seq ?_
  refine c_reg (by kernel_rfl) rfl ?_
  refine s_p (by first | exact h_move (v := .s _) rfl | exact h_move (v := .agg _) rfl | exact h_move (v := .tup _) rfl) ?_
  refine s_p (by first | exact h_move (v := .s _) rfl | exact h_move (v := .agg _) rfl | exact h_move (v := .tup _) rfl) ?_
  refine s_p (h_call callable_65 rfl (by first | exact good_nil _ _ | exact good_zero _ _ _ rfl rfl _)) ?_
  refine s_p (by first | exact h_move (v := .s _) rfl | exact h_move (v := .agg _) rfl | exact h_move (v := .tup _) rfl) ?_
  refine s_p (h_extract rfl rfl (by simp)) ?_
  refine s_p (h_extract rfl rfl (by simp)) ?_
  refine s_a (h_alloc (segs := [.one (.int .i64 0), .one (.int .i64 0), .ints .u64 4 (List.replicate 4 0), .ints .u64 4 (List.replicate 4 0), .one (.int .u8 0), .ints .u8 16 (List.replicate 16 0), .ints .u8 16 (List.replicate 16 0), .one .nils]) Tryz.zeroValue163 (by kernel_rfl) rfl) rfl ?_
  refine s_st (by first | exact m_store_agg rfl rfl rfl (.whole (Nat.le_of_ble_eq_true rfl) rfl rfl) Tryz.sizeOf163 rfl | exact m_store_agg rfl rfl rfl (.seg (Nat.le_of_ble_eq_true rfl) rfl rfl rfl) Tryz.sizeOf163 rfl | exact m_store_agg rfl rfl rfl (.ints (Nat.le_of_ble_eq_true rfl) rfl (by omega)) Tryz.sizeOf163 rfl) ?_
  refine s_p (by first | exact h_assign (v := .s _) rfl | exact h_assign (v := .agg _) rfl | exact h_assign (v := .tup _) rfl) ?_
  refine s_nil ?_
  refine n_wp ?_
  refine w_seq ?_
  refine c_reg (by kernel_rfl) rfl ?_
  refine s_p (h_field rfl Tryz.underlying163 rfl Tryz.sizeOf34 (by decide)) ?_
  refine s_p (by first | exact h_load_agg rfl rfl (.whole rfl) Tryz.isAgg34 Tryz.sizeOf34 | exact h_load_agg rfl rfl (.seg rfl rfl) Tryz.isAgg34 Tryz.sizeOf34 | exact h_load_agg rfl rfl (.ints rfl (by omega)) Tryz.isAgg34 Tryz.sizeOf34) ?_
  refine s_p (by first | exact h_move (v := .s _) rfl | exact h_move (v := .agg _) rfl | exact h_move (v := .tup _) rfl) ?_
  refine s_st (by first | exact m_store_agg rfl rfl rfl (.whole (Nat.le_of_ble_eq_true rfl) rfl rfl) Tryz.sizeOf34 rfl | exact m_store_agg rfl rfl rfl (.seg (Nat.le_of_ble_eq_true rfl) rfl rfl rfl) Tryz.sizeOf34 rfl | exact m_store_agg rfl rfl rfl (.ints (Nat.le_of_ble_eq_true rfl) rfl (by omega)) Tryz.sizeOf34 rfl) ?_
  refine s_p (by first | exact h_assign (v := .s _) rfl | exact h_assign (v := .agg _) rfl | exact h_assign (v := .tup _) rfl) ?_
  refine s_nil ?_
  refine n_wp ?_
  refine w_ret ?_
  exact done0 (ret_cell_tmp Tryz.results23 rfl rfl (.whole rfl) Tryz.isAgg34 Tryz.sizeOf34 rfl)

set_option maxRecDepth 100000 in
set_option maxHeartbeats 4000000 in
theorem Tick_nil (H : Heap)  : ACall Tryz.prog 24 H [.s .nilp] (.s (.int .i64 2)) [] := by
  refine acall_free Tryz.func24 rfl Tryz.ntmps24 (by simp) rfl rfl (fun W w hW => ?_) H
  refine w_seq ?_
  refine c_reg (by kernel_rfl) rfl ?_
  refine s_p (by first | exact h_assign (v := .s _) rfl | exact h_assign (v := .agg _) rfl | exact h_assign (v := .tup _) rfl) ?_
  refine s_nil ?_
  refine n_wp ?_
  refine w_seq ?_
  refine w_seq ?_
  refine c_reg (by kernel_rfl) rfl ?_
  refine s_p (by first | exact h_move (v := .s _) rfl | exact h_move (v := .agg _) rfl | exact h_move (v := .tup _) rfl) ?_
  refine s_p (h_call callable_61 rfl (by first | exact there_nil _ | exact there_zero _ _ _ rfl rfl)) ?_
  refine s_p (h_not rfl) ?_
  refine s_nil ?_
  refine n_wp ?_
  refine w_cond rfl (fun hc_t7 => ?_) (fun hc_t7 => ?_)
  rotate_left
  · exact absurd hc_t7 (by simp)
  refine w_seq ?_
  refine c_reg (by kernel_rfl) rfl ?_
  refine s_p (by first | exact h_assign (v := .s _) rfl | exact h_assign (v := .agg _) rfl | exact h_assign (v := .tup _) rfl) ?_
  refine s_nil ?_
  refine n_wp ?_
  refine w_ret ?_
  refine r_thn ?_
  exact ⟨.inl rfl, ret_tmp Tryz.results24 rfl⟩

set_option maxRecDepth 100000 in
set_option maxHeartbeats 4000000 in
theorem Tick_zero (H : Heap) (id : Nat) (bk : Blk) (h : H[id]? = some (some bk)) (hs : bk.segs = S84)  : ACall Tryz.prog 24 H [.s (.ptr id 0 0)] (.s (.int .i64 2)) [] := by
  refine acall_gen (args0 := [.s (.ptr 0 0 0)]) (H0 := [some ⟨false, S84⟩]) (vf := fun _ => (.s (.int .i64 2))) [(id, 0)] Tryz.func24 rfl Tryz.ntmps24 (by simp) rfl (foot1 rfl h (fun i x hx => by rw [Nat.zero_add, hs]; exact hx) rfl) rfl (fun i x0 x h0 h1 ρ u hr => by match i, h0, h1 with | 0, h0, h1 => (simp at h0 h1; subst h0; subst h1; exact arg_ptr (by rfl) hr) | i + 1, h0, _ => simp at h0) rfl (ren_free rfl) (fun W w ρ0 hW hdom => ?_)
  refine w_seq ?_
  refine c_reg (by kernel_rfl) rfl ?_
  refine s_p (by first | exact h_assign (v := .s _) rfl | exact h_assign (v := .agg _) rfl | exact h_assign (v := .tup _) rfl) ?_
  refine s_nil ?_
  refine n_wp ?_
  refine w_seq ?_
  refine w_seq ?_
  refine c_reg (by kernel_rfl) rfl ?_
  refine s_p (by first | exact h_move (v := .s _) rfl | exact h_move (v := .agg _) rfl | exact h_move (v := .tup _) rfl) ?_
  refine s_p (h_call callable_61 rfl (by first | exact there_nil _ | exact there_zero _ _ _ rfl rfl)) ?_
  refine s_p (h_not rfl) ?_
  refine s_nil ?_
  refine n_wp ?_
  refine w_cond rfl (fun hc_t7 => ?_) (fun hc_t7 => ?_)
  rotate_left
  · exact absurd hc_t7 (by simp)
  refine w_seq ?_
  refine c_reg (by kernel_rfl) rfl ?_
  refine s_p (by first | exact h_assign (v := .s _) rfl | exact h_assign (v := .agg _) rfl | exact h_assign (v := .tup _) rfl) ?_
  refine s_nil ?_
  refine n_wp ?_
  refine w_ret ?_
  refine r_thn ?_
  exact done0 (ret_tmp Tryz.results24 rfl)

set_option maxRecDepth 100000 in
set_option maxHeartbeats 4000000 in
theorem Gens_nil (H : Heap)  : ACall Tryz.prog 25 H [.s .nilp] (.s .nils) [] := by
  refine acall_free Tryz.func25 rfl Tryz.ntmps25 (by simp) rfl rfl (fun W w hW => ?_) H
  refine w_seq ?_
  refine c_reg (by kernel_rfl) rfl ?_
  refine s_p (by first | exact h_assign (v := .s _) rfl | exact h_assign (v := .agg _) rfl | exact h_assign (v := .tup _) rfl) ?_
  refine s_nil ?_
  refine n_wp ?_
  refine w_seq ?_
  refine w_seq ?_
  refine c_reg (by kernel_rfl) rfl ?_
  refine s_p (by first | exact h_move (v := .s _) rfl | exact h_move (v := .agg _) rfl | exact h_move (v := .tup _) rfl) ?_
  refine s_p (h_call callable_61 rfl (by first | exact there_nil _ | exact there_zero _ _ _ rfl rfl)) ?_
  refine s_p (h_not rfl) ?_
  refine s_nil ?_
  refine n_wp ?_
  refine w_cond rfl (fun hc_t5 => ?_) (fun hc_t5 => ?_)
  rotate_left
  · exact absurd hc_t5 (by simp)
  refine w_seq ?_
  refine c_reg (by kernel_rfl) rfl ?_
  refine s_p (by first | exact h_assign (v := .s _) rfl | exact h_assign (v := .agg _) rfl | exact h_assign (v := .tup _) rfl) ?_
  refine s_nil ?_
  refine n_wp ?_
  refine w_ret ?_
  refine r_thn ?_
  exact ⟨.inl rfl, ret_tmp Tryz.results25 rfl⟩

set_option maxRecDepth 100000 in
set_option maxHeartbeats 4000000 in
theorem Gens_zero (H : Heap) (id : Nat) (bk : Blk) (h : H[id]? = some (some bk)) (hs : bk.segs = S84)  : ACall Tryz.prog 25 H [.s (.ptr id 0 0)] (.s .nils) [] := by
  refine acall_gen (args0 := [.s (.ptr 0 0 0)]) (H0 := [some ⟨false, S84⟩]) (vf := fun _ => (.s .nils)) [(id, 0)] Tryz.func25 rfl Tryz.ntmps25 (by simp) rfl (foot1 rfl h (fun i x hx => by rw [Nat.zero_add, hs]; exact hx) rfl) rfl (fun i x0 x h0 h1 ρ u hr => by match i, h0, h1 with | 0, h0, h1 => (simp at h0 h1; subst h0; subst h1; exact arg_ptr (by rfl) hr) | i + 1, h0, _ => simp at h0) rfl (ren_free rfl) (fun W w ρ0 hW hdom => ?_)
  refine w_seq ?_
  refine c_reg (by kernel_rfl) rfl ?_
  refine s_p (by first | exact h_assign (v := .s _) rfl | exact h_assign (v := .agg _) rfl | exact h_assign (v := .tup _) rfl) ?_
  refine s_nil ?_
  refine n_wp ?_
  refine w_seq ?_
  refine w_seq ?_
  refine c_reg (by kernel_rfl) rfl ?_
  refine s_p (by first | exact h_move (v := .s _) rfl | exact h_move (v := .agg _) rfl | exact h_move (v := .tup _) rfl) ?_
  refine s_p (h_call callable_61 rfl (by first | exact there_nil _ | exact there_zero _ _ _ rfl rfl)) ?_
  refine s_p (h_not rfl) ?_
  refine s_nil ?_
  refine n_wp ?_
  refine w_cond rfl (fun hc_t5 => ?_) (fun hc_t5 => ?_)
  rotate_left
  · exact absurd hc_t5 (by simp)
  refine w_seq ?_
  refine c_reg (by kernel_rfl) rfl ?_
  refine s_p (by first | exact h_assign (v := .s _) rfl | exact h_assign (v := .agg _) rfl | exact h_assign (v := .tup _) rfl) ?_
  refine s_nil ?_
  refine n_wp ?_
  refine w_ret ?_
  refine r_thn ?_
  exact done0 (ret_tmp Tryz.results25 rfl)

set_option maxRecDepth 100000 in
set_option maxHeartbeats 4000000 in
theorem Asker_c (H : Heap) (kd : Int) (tg : List Int) (sp : Int) (bd : List Int) (gn mn : Int) : ACall Tryz.prog 20 H [.agg [.one (.int .u8 kd), .ints .u8 16 tg, .one (.int .u32 sp), .ints .u8 32 bd, .one (.int .u64 gn), .one (.int .u8 mn)]] (.agg [.ints .u8 16 tg, .one (.int .u32 sp), .ints .u8 32 bd]) [] := by
  refine acall_free Tryz.func20 rfl Tryz.ntmps20 (by simp) rfl rfl (fun W w hW => ?_) H
  refine w_seq ?_
  refine c_reg (by kernel_rfl) rfl ?_
  refine s_a (by first | exact h_box_agg rfl rfl | exact h_box rfl (by simp) rfl) rfl ?_
  refine s_a (h_alloc (segs := [.ints .u8 16 (List.replicate 16 0), .one (.int .u32 0), .ints .u8 32 (List.replicate 32 0)]) Tryz.zeroValue89 (by kernel_rfl) rfl) rfl ?_
  refine s_nil ?_
  refine n_wp ?_
  refine w_seq ?_
  refine c_reg (by kernel_rfl) rfl ?_
  refine s_p (h_field rfl Tryz.underlying78 rfl Tryz.sizeOf24 (by decide)) ?_
  refine s_p (by first | exact h_load_agg rfl rfl (.whole rfl) Tryz.isAgg24 Tryz.sizeOf24 | exact h_load_agg rfl rfl (.seg rfl rfl) Tryz.isAgg24 Tryz.sizeOf24 | exact h_load_agg rfl rfl (.ints rfl (by omega)) Tryz.isAgg24 Tryz.sizeOf24) ?_
  refine s_p (h_field rfl Tryz.underlying78 rfl Tryz.sizeOf46 (by decide)) ?_
  refine s_p (by first | exact h_load_ints rfl rfl rfl (by omega) rfl Tryz.isAgg46 | exact h_load_one rfl rfl rfl Tryz.isAgg46) ?_
  refine s_p (h_field rfl Tryz.underlying78 rfl Tryz.sizeOf38 (by decide)) ?_
  refine s_p (by first | exact h_load_agg rfl rfl (.whole rfl) Tryz.isAgg38 Tryz.sizeOf38 | exact h_load_agg rfl rfl (.seg rfl rfl) Tryz.isAgg38 Tryz.sizeOf38 | exact h_load_agg rfl rfl (.ints rfl (by omega)) Tryz.isAgg38 Tryz.sizeOf38) ?_
  refine s_p (h_bld3 (n := 16) (m := 1) (l := 32) rfl rfl rfl rfl rfl rfl Tryz.underlying89 Tryz.zeroValue89 (fun w => by kernel_rfl) rfl rfl rfl rfl (by kernel_rfl) rfl) ?_
  refine s_st (by first | exact m_store_agg rfl rfl rfl (.whole (Nat.le_of_ble_eq_true rfl) rfl rfl) Tryz.sizeOf89 rfl | exact m_store_agg rfl rfl rfl (.seg (Nat.le_of_ble_eq_true rfl) rfl rfl rfl) Tryz.sizeOf89 rfl | exact m_store_agg rfl rfl rfl (.ints (Nat.le_of_ble_eq_true rfl) rfl (by omega)) Tryz.sizeOf89 rfl) ?_
  refine s_nil ?_
  refine n_wp ?_
  refine w_ret ?_
  exact ⟨.inl rfl, ret_cell_agg Tryz.results20 rfl rfl (.whole rfl) Tryz.isAgg89 Tryz.sizeOf89⟩

def I5 (kd : Int) (tg : List Int) (sp : Int) (bd : List Int) (gn mn : Int) (n : Nat) (T : Tm) (H : Heap) : Prop := ∃ k : Nat, k ≤ 2 ∧ n = 2 - k ∧ T = [(1, .s (.ptr 0 0 0)), (4, .s (.int .i64 1)), (5, .s (.slice 2 0 0 2 2)), (6, .s (.int .i64 k))] ∧ H = [some ⟨true, [.one (.int .u8 kd), .ints .u8 16 tg, .one (.int .u32 sp), .ints .u8 32 bd, .one (.int .u64 gn), .one (.int .u8 mn)]⟩, some ⟨true, S84⟩, some ⟨true, [.one .nilp, .one (.ptr 1 0 0)]⟩]
end Go.Proofs.X
