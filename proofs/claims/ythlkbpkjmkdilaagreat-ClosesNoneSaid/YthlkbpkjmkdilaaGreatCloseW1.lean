/- A part of the proofs of this claim: CloseW1 (CloseW1). No conditions. -/
import Derived.Test.YthlkbpkjmkdilaaGreatTagW2
import Derived.Test.YthlkbpkjmkdilaaGreatPoolW1
import Derived.Test.YthlkbpkjmkdilaaGreatAbF
set_option linter.unusedVariables false
set_option linter.unusedSimpArgs false
open Go Go.Ab Go.Proofs
namespace Go.Proofs.X
theorem callable_38 : Callable Tryz.prog 38 := ⟨_, Tryz.func38, by kernel_rfl, rfl⟩
theorem callable_7 : Callable Tryz.prog 7 := ⟨_, Tryz.func7, by kernel_rfl, rfl⟩
theorem callable_42 : Callable Tryz.prog 42 := ⟨_, Tryz.func42, by kernel_rfl, rfl⟩
theorem callable_8 : Callable Tryz.prog 8 := ⟨_, Tryz.func8, by kernel_rfl, rfl⟩
theorem callable_9 : Callable Tryz.prog 9 := ⟨_, Tryz.func9, by kernel_rfl, rfl⟩
theorem callable_10 : Callable Tryz.prog 10 := ⟨_, Tryz.func10, by kernel_rfl, rfl⟩
theorem build0_45 (w : World) : (Instr.build 45 #[]).run Tryz.prog w = .ok (.agg (List.replicate 32 (Value.int .u8 0) ++ List.replicate 16 (Value.int .u8 0) ++ [Value.int .u32 0] ++ List.replicate 32 (Value.int .u8 0) ++ List.replicate 16 (Value.int .u8 0) ++ List.replicate 32 (Value.int .u8 0) ++ List.replicate 16 (Value.int .u8 0) ++ List.replicate 32 (Value.int .u8 0) ++ List.replicate 32 (Value.int .u8 0)).toArray) w := by kernel_rfl
theorem build0_38 (w : World) : (Instr.build 38 #[]).run Tryz.prog w = .ok (.agg (List.replicate 32 (Value.int .u8 0)).toArray) w := by kernel_rfl
theorem build0_48 (w : World) : (Instr.build 48 #[]).run Tryz.prog w = .ok (.agg (List.replicate 4 (Value.int .u64 0) ++ List.replicate 4 (Value.int .u64 0) ++ List.replicate 4 (Value.int .u64 0) ++ List.replicate 4 (Value.int .u64 0) ++ List.replicate 32 (Value.int .u8 0) ++ List.replicate 32 (Value.int .u8 0) ++ List.replicate 16 (Value.int .u8 0) ++ [Value.int .u32 0] ++ List.replicate 32 (Value.int .u8 0) ++ List.replicate 16 (Value.int .u8 0) ++ List.replicate 32 (Value.int .u8 0) ++ List.replicate 16 (Value.int .u8 0) ++ List.replicate 32 (Value.int .u8 0) ++ List.replicate 32 (Value.int .u8 0) ++ List.replicate 16 (Value.int .u8 0)).toArray) w := by kernel_rfl
theorem build0_54 (w : World) : (Instr.build 54 #[]).run Tryz.prog w = .ok (.agg (List.replicate 4 (Value.int .u64 0) ++ List.replicate 4 (Value.int .u64 0) ++ List.replicate 4 (Value.int .u64 0) ++ List.replicate 4 (Value.int .u64 0) ++ List.replicate 32 (Value.int .u8 0) ++ List.replicate 32 (Value.int .u8 0) ++ List.replicate 16 (Value.int .u8 0) ++ [Value.int .u32 0] ++ List.replicate 32 (Value.int .u8 0) ++ List.replicate 16 (Value.int .u8 0) ++ List.replicate 32 (Value.int .u8 0) ++ List.replicate 16 (Value.int .u8 0) ++ List.replicate 32 (Value.int .u8 0) ++ List.replicate 32 (Value.int .u8 0) ++ List.replicate 16 (Value.int .u8 0) ++ List.replicate 4 (Value.int .u64 0) ++ List.replicate 32 (Value.int .u8 0) ++ [Value.int .u32 0] ++ [Value.int .u32 0] ++ [Value.slice none 0 0] ++ [Value.int .i64 0] ++ [Value.int .i64 0] ++ [Value.slice none 0 0]).toArray) w := by kernel_rfl
def S54 : List Seg := [.ints .u64 4 (List.replicate 4 0), .ints .u64 4 (List.replicate 4 0), .ints .u64 4 (List.replicate 4 0), .ints .u64 4 (List.replicate 4 0), .ints .u8 32 (List.replicate 32 0), .ints .u8 32 (List.replicate 32 0), .ints .u8 16 (List.replicate 16 0), .one (.int .u32 0), .ints .u8 32 (List.replicate 32 0), .ints .u8 16 (List.replicate 16 0), .ints .u8 32 (List.replicate 32 0), .ints .u8 16 (List.replicate 16 0), .ints .u8 32 (List.replicate 32 0), .ints .u8 32 (List.replicate 32 0), .ints .u8 16 (List.replicate 16 0), .ints .u64 4 (List.replicate 4 0), .ints .u8 32 (List.replicate 32 0), .one (.int .u32 0), .one (.int .u32 0), .one .nils, .one (.int .i64 0), .one (.int .i64 0), .one .nils]
def S48 : List Seg := [.ints .u64 4 (List.replicate 4 0), .ints .u64 4 (List.replicate 4 0), .ints .u64 4 (List.replicate 4 0), .ints .u64 4 (List.replicate 4 0), .ints .u8 32 (List.replicate 32 0), .ints .u8 32 (List.replicate 32 0), .ints .u8 16 (List.replicate 16 0), .one (.int .u32 0), .ints .u8 32 (List.replicate 32 0), .ints .u8 16 (List.replicate 16 0), .ints .u8 32 (List.replicate 32 0), .ints .u8 16 (List.replicate 16 0), .ints .u8 32 (List.replicate 32 0), .ints .u8 32 (List.replicate 32 0), .ints .u8 16 (List.replicate 16 0)]
def S45 : List Seg := [.ints .u8 32 (List.replicate 32 0), .ints .u8 16 (List.replicate 16 0), .one (.int .u32 0), .ints .u8 32 (List.replicate 32 0), .ints .u8 16 (List.replicate 16 0), .ints .u8 32 (List.replicate 32 0), .ints .u8 16 (List.replicate 16 0), .ints .u8 32 (List.replicate 32 0), .ints .u8 32 (List.replicate 32 0)]
set_option maxRecDepth 100000 in
set_option maxHeartbeats 4000000 in
theorem is_z (H : Heap)  : ACall Tryz.prog 38 H [.agg [.ints .u64 4 (List.replicate 4 0), .ints .u64 4 (List.replicate 4 0), .ints .u64 4 (List.replicate 4 0), .ints .u64 4 (List.replicate 4 0), .ints .u8 32 (List.replicate 32 0)], .agg S45] (.tup [.agg S48, .s (.int .i64 1)]) [] := by
  refine acall_free Tryz.func38 rfl Tryz.ntmps38 (by simp) rfl rfl (fun W w hW => ?_) H
  refine w_seq ?_
  refine c_reg (by kernel_rfl) rfl ?_
  refine s_a (by first | exact h_box_agg rfl rfl | exact h_box rfl (by simp) rfl) rfl ?_
  refine s_a (by first | exact h_box_agg rfl rfl | exact h_box rfl (by simp) rfl) rfl ?_
  refine s_a (h_alloc (segs := S48) Tryz.zeroValue48 (by kernel_rfl) rfl) rfl ?_
  refine s_p (by first | exact h_assign (v := .s _) rfl | exact h_assign (v := .agg _) rfl | exact h_assign (v := .tup _) rfl) ?_
  refine s_nil ?_
  refine n_wp ?_
  refine w_seq ?_
  refine c_reg (by kernel_rfl) rfl ?_
  refine s_p (h_field rfl Tryz.underlying40 rfl Tryz.sizeOf36 (by decide)) ?_
  refine s_p (h_load_agg rfl rfl (SubS.two rfl rfl (SubS.two rfl rfl (.seg rfl rfl))) Tryz.isAgg36 Tryz.sizeOf36) ?_
  refine s_p (h_field rfl Tryz.underlying40 rfl Tryz.sizeOf34 (by decide)) ?_
  refine s_p (by first | exact h_load_agg rfl rfl (.whole rfl) Tryz.isAgg34 Tryz.sizeOf34 | exact h_load_agg rfl rfl (.seg rfl rfl) Tryz.isAgg34 Tryz.sizeOf34 | exact h_load_agg rfl rfl (.ints rfl (by omega)) Tryz.isAgg34 Tryz.sizeOf34) ?_
  refine s_p (h_call callable_45 rfl (Key_z _)) ?_
  refine s_p (by first | exact h_move (v := .s _) rfl | exact h_move (v := .agg _) rfl | exact h_move (v := .tup _) rfl) ?_
  refine s_p (h_extract rfl rfl (by simp)) ?_
  refine s_p (h_extract rfl rfl (by simp)) ?_
  refine s_a (h_alloc (segs := [.ints .u64 4 (List.replicate 4 0)]) Tryz.zeroValue34 (by kernel_rfl) rfl) rfl ?_
  refine s_st (by first | exact m_store_agg rfl rfl rfl (.whole (Nat.le_of_ble_eq_true rfl) rfl rfl) Tryz.sizeOf34 rfl | exact m_store_agg rfl rfl rfl (.seg (Nat.le_of_ble_eq_true rfl) rfl rfl rfl) Tryz.sizeOf34 rfl | exact m_store_agg rfl rfl rfl (.ints (Nat.le_of_ble_eq_true rfl) rfl (by omega)) Tryz.sizeOf34 rfl) ?_
  refine s_p (by first | exact h_assign (v := .s _) rfl | exact h_assign (v := .agg _) rfl | exact h_assign (v := .tup _) rfl) ?_
  refine s_nil ?_
  refine n_wp ?_
  refine w_seq ?_
  refine c_any 6 mix (by kernel_rfl) (by kernel_rfl) rfl rfl rfl ?_
  refine t_p (by first | exact h_load_agg rfl rfl (.whole rfl) Tryz.isAgg40 Tryz.sizeOf40 | exact h_load_agg rfl rfl (.seg rfl rfl) Tryz.isAgg40 Tryz.sizeOf40 | exact h_load_agg rfl rfl (.ints rfl (by omega)) Tryz.isAgg40 Tryz.sizeOf40) ?_
  refine t_p (by first | exact h_load_agg rfl rfl (.whole rfl) Tryz.isAgg45 Tryz.sizeOf45 | exact h_load_agg rfl rfl (.seg rfl rfl) Tryz.isAgg45 Tryz.sizeOf45 | exact h_load_agg rfl rfl (.ints rfl (by omega)) Tryz.isAgg45 Tryz.sizeOf45) ?_
  refine t_p (by first | exact h_load_agg rfl rfl (.whole rfl) Tryz.isAgg34 Tryz.sizeOf34 | exact h_load_agg rfl rfl (.seg rfl rfl) Tryz.isAgg34 Tryz.sizeOf34 | exact h_load_agg rfl rfl (.ints rfl (by omega)) Tryz.isAgg34 Tryz.sizeOf34) ?_
  refine t_p (h_call callable_46 rfl (tagOf_c _ (List.replicate 4 0) rfl)) ?_
  refine t_p (h_bld3 (n := 48) (m := 209) (l := 16) (segs := [.ints .u64 4 (List.replicate 4 0), .ints .u64 4 (List.replicate 4 0), .ints .u64 4 (List.replicate 4 0), .ints .u64 4 (List.replicate 4 0), .ints .u8 32 (List.replicate 32 0)] ++ (S45 ++ [.ints .u8 16 (tagL (List.replicate 4 0))])) rfl rfl rfl rfl rfl rfl Tryz.underlying48 Tryz.zeroValue48 (fun w => by kernel_rfl) rfl rfl rfl rfl (by kernel_rfl) rfl) ?_
  refine t_a (h_alloc (segs := S48) Tryz.zeroValue48 (by kernel_rfl) rfl) rfl ?_
  refine t_nil ?_
  refine s_st (m_store_agg (n := 273) (segs := S48) (sub := [.ints .u64 4 (List.replicate 4 0), .ints .u64 4 (List.replicate 4 0), .ints .u64 4 (List.replicate 4 0), .ints .u64 4 (List.replicate 4 0), .ints .u8 32 (List.replicate 32 0)] ++ (S45 ++ [.ints .u8 16 (tagL (List.replicate 4 0))])) (id := 4) (base := 0) (idx := 0) rfl rfl rfl (.whole (Nat.le_of_ble_eq_true rfl) rfl rfl) Tryz.sizeOf48 rfl) ?_
  refine s_nil ?_
  refine n_wp ?_
  refine w_seq ?_
  refine w_seq ?_
  refine c_reg (by kernel_rfl) rfl ?_
  refine s_p (by first | exact h_move (v := .s _) rfl | exact h_move (v := .agg _) rfl | exact h_move (v := .tup _) rfl) ?_
  refine s_p (h_bin rfl rfl (b_neq rfl)) ?_
  refine s_p (by first | exact h_move (v := .s _) rfl | exact h_move (v := .agg _) rfl | exact h_move (v := .tup _) rfl) ?_
  first | refine s_on rfl rfl (by first | rfl | assumption) (h_field rfl Tryz.underlying48 rfl Tryz.sizeOf24 (by decide)) ?_ | refine s_off rfl rfl (by first | rfl | assumption) ?_
  first | refine s_on rfl rfl (by first | rfl | assumption) (by first | exact h_load_agg rfl rfl (.whole rfl) Tryz.isAgg24 Tryz.sizeOf24 | exact h_load_agg rfl rfl (.seg rfl rfl) Tryz.isAgg24 Tryz.sizeOf24 | exact h_load_agg rfl rfl (.ints rfl (by omega)) Tryz.isAgg24 Tryz.sizeOf24) ?_ | refine s_off rfl rfl (by first | rfl | assumption) ?_
  first | refine s_on rfl rfl (by first | rfl | assumption) (h_field rfl Tryz.underlying45 rfl Tryz.sizeOf24 (by decide)) ?_ | refine s_off rfl rfl (by first | rfl | assumption) ?_
  first | refine s_on rfl rfl (by first | rfl | assumption) (by first | exact h_load_agg rfl rfl (.whole rfl) Tryz.isAgg24 Tryz.sizeOf24 | exact h_load_agg rfl rfl (.seg rfl rfl) Tryz.isAgg24 Tryz.sizeOf24 | exact h_load_agg rfl rfl (.ints rfl (by omega)) Tryz.isAgg24 Tryz.sizeOf24) ?_ | refine s_off rfl rfl (by first | rfl | assumption) ?_
  first | refine s_on rfl rfl (by first | rfl | assumption) (h_litb (r := .bool true) (z := .bool true) rfl rfl rfl rfl (fun w => by kernel_rfl) (fun w => by kernel_rfl) rfl rfl) ?_ | refine s_off rfl rfl (by first | rfl | assumption) ?_
  refine s_p (by first | exact h_pick_t rfl (by first | rfl | assumption) rfl | exact h_pick_f rfl (by first | rfl | assumption) rfl) ?_
  refine s_nil ?_
  refine n_wp ?_
  refine w_cond rfl (fun hc_t30 => ?_) (fun hc_t30 => ?_)
  rotate_left
  · exact absurd hc_t30 (by simp)
  refine w_seq ?_
  refine c_reg (by kernel_rfl) rfl ?_
  refine s_p (h_build0 (segs := S48) build0_48 (by kernel_rfl)) ?_
  refine s_st (by first | exact m_store_agg rfl rfl rfl (.whole (Nat.le_of_ble_eq_true rfl) rfl rfl) Tryz.sizeOf48 rfl | exact m_store_agg rfl rfl rfl (.seg (Nat.le_of_ble_eq_true rfl) rfl rfl rfl) Tryz.sizeOf48 rfl | exact m_store_agg rfl rfl rfl (.ints (Nat.le_of_ble_eq_true rfl) rfl (by omega)) Tryz.sizeOf48 rfl) ?_
  refine s_p (by first | exact h_assign (v := .s _) rfl | exact h_assign (v := .agg _) rfl | exact h_assign (v := .tup _) rfl) ?_
  refine s_nil ?_
  refine n_wp ?_
  refine w_ret ?_
  refine r_thn ?_
  exact ⟨.inl rfl, ret_cell_tmp Tryz.results38 rfl rfl (.whole rfl) Tryz.isAgg48 Tryz.sizeOf48 rfl⟩

set_option maxRecDepth 100000 in
set_option maxHeartbeats 4000000 in
theorem CNew_z (H : Heap)  : ACall Tryz.prog 7 H [.agg [.ints .u64 4 (List.replicate 4 0), .ints .u64 4 (List.replicate 4 0), .ints .u64 4 (List.replicate 4 0), .ints .u64 4 (List.replicate 4 0), .ints .u8 32 (List.replicate 32 0)], .agg S45, .agg [.ints .u64 4 (List.replicate 4 0)], .agg [.ints .u8 32 (List.replicate 32 0)], .s (.int .u32 1)] (.tup [.s .nilp, .s (.int .i64 1)]) [] := by
  refine acall_free Tryz.func7 rfl Tryz.ntmps7 (by simp) rfl rfl (fun W w hW => ?_) H
  refine w_seq ?_
  refine c_reg (by kernel_rfl) rfl ?_
  refine s_a (by first | exact h_box_agg rfl rfl | exact h_box rfl (by simp) rfl) rfl ?_
  refine s_a (by first | exact h_box_agg rfl rfl | exact h_box rfl (by simp) rfl) rfl ?_
  refine s_a (by first | exact h_box_agg rfl rfl | exact h_box rfl (by simp) rfl) rfl ?_
  refine s_a (by first | exact h_box_agg rfl rfl | exact h_box rfl (by simp) rfl) rfl ?_
  refine s_p (by first | exact h_assign (v := .s _) rfl | exact h_assign (v := .agg _) rfl | exact h_assign (v := .tup _) rfl) ?_
  refine s_p (by first | exact h_assign (v := .s _) rfl | exact h_assign (v := .agg _) rfl | exact h_assign (v := .tup _) rfl) ?_
  refine s_nil ?_
  refine n_wp ?_
  refine w_seq ?_
  refine c_reg (by kernel_rfl) rfl ?_
  refine s_p (by first | exact h_load_agg rfl rfl (.whole rfl) Tryz.isAgg40 Tryz.sizeOf40 | exact h_load_agg rfl rfl (.seg rfl rfl) Tryz.isAgg40 Tryz.sizeOf40 | exact h_load_agg rfl rfl (.ints rfl (by omega)) Tryz.isAgg40 Tryz.sizeOf40) ?_
  refine s_p (by first | exact h_load_agg rfl rfl (.whole rfl) Tryz.isAgg45 Tryz.sizeOf45 | exact h_load_agg rfl rfl (.seg rfl rfl) Tryz.isAgg45 Tryz.sizeOf45 | exact h_load_agg rfl rfl (.ints rfl (by omega)) Tryz.isAgg45 Tryz.sizeOf45) ?_
  refine s_p (h_call callable_38 rfl (is_z _)) ?_
  refine s_p (by first | exact h_move (v := .s _) rfl | exact h_move (v := .agg _) rfl | exact h_move (v := .tup _) rfl) ?_
  refine s_p (h_extract rfl rfl (by simp)) ?_
  refine s_p (h_extract rfl rfl (by simp)) ?_
  refine s_a (h_alloc (segs := S48) Tryz.zeroValue48 (by kernel_rfl) rfl) rfl ?_
  refine s_st (by first | exact m_store_agg rfl rfl rfl (.whole (Nat.le_of_ble_eq_true rfl) rfl rfl) Tryz.sizeOf48 rfl | exact m_store_agg rfl rfl rfl (.seg (Nat.le_of_ble_eq_true rfl) rfl rfl rfl) Tryz.sizeOf48 rfl | exact m_store_agg rfl rfl rfl (.ints (Nat.le_of_ble_eq_true rfl) rfl (by omega)) Tryz.sizeOf48 rfl) ?_
  refine s_p (by first | exact h_assign (v := .s _) rfl | exact h_assign (v := .agg _) rfl | exact h_assign (v := .tup _) rfl) ?_
  refine s_nil ?_
  refine n_wp ?_
  refine w_seq ?_
  refine w_seq ?_
  refine c_reg (by kernel_rfl) rfl ?_
  refine s_p (by first | exact h_move (v := .s _) rfl | exact h_move (v := .agg _) rfl | exact h_move (v := .tup _) rfl) ?_
  refine s_p (h_bin rfl rfl (b_neq rfl)) ?_
  refine s_p (by first | exact h_move (v := .s _) rfl | exact h_move (v := .agg _) rfl | exact h_move (v := .tup _) rfl) ?_
  first | refine s_on rfl rfl (by first | rfl | assumption) (by first | exact h_move (v := .s _) rfl | exact h_move (v := .agg _) rfl | exact h_move (v := .tup _) rfl) ?_ | refine s_off rfl rfl (by first | rfl | assumption) ?_
  first | refine s_on rfl rfl (by first | rfl | assumption) (h_bin rfl rfl (b_eql rfl)) ?_ | refine s_off rfl rfl (by first | rfl | assumption) ?_
  refine s_p (by first | exact h_pick_t rfl (by first | rfl | assumption) rfl | exact h_pick_f rfl (by first | rfl | assumption) rfl) ?_
  refine s_nil ?_
  refine n_wp ?_
  refine w_cond rfl (fun hc_t28 => ?_) (fun hc_t28 => ?_)
  rotate_left
  · exact absurd hc_t28 (by simp)
  refine w_seq ?_
  refine c_reg (by kernel_rfl) rfl ?_
  refine s_p (by first | exact h_assign (v := .s _) rfl | exact h_assign (v := .agg _) rfl | exact h_assign (v := .tup _) rfl) ?_
  refine s_p (by first | exact h_assign (v := .s _) rfl | exact h_assign (v := .agg _) rfl | exact h_assign (v := .tup _) rfl) ?_
  refine s_nil ?_
  refine n_wp ?_
  refine w_ret ?_
  refine r_thn ?_
  exact ⟨.inl rfl, ret_tmps2 Tryz.results7 rfl rfl⟩

set_option maxRecDepth 100000 in
set_option maxHeartbeats 4000000 in
theorem cthere_nil (H : Heap)  : ACall Tryz.prog 42 H [.s .nilp] (.s (.bool false)) [] := by
  refine acall_free Tryz.func42 rfl Tryz.ntmps42 (by simp) rfl rfl (fun W w hW => ?_) H
  refine w_seq ?_
  refine c_reg (by kernel_rfl) rfl ?_
  refine s_p (by first | exact h_assign (v := .s _) rfl | exact h_assign (v := .agg _) rfl | exact h_assign (v := .tup _) rfl) ?_
  refine s_nil ?_
  refine n_wp ?_
  refine w_seq ?_
  refine c_reg (by kernel_rfl) rfl ?_
  refine s_p (by first | exact h_move (v := .s _) rfl | exact h_move (v := .agg _) rfl | exact h_move (v := .tup _) rfl) ?_
  refine s_p (by first | exact h_nen rfl rfl Tryz.underlying28 | exact h_litb (r := .bool false) (z := .bool false) rfl rfl rfl rfl (fun w => by kernel_rfl) (fun w => by kernel_rfl) rfl rfl) ?_
  refine s_p (by first | exact h_move (v := .s _) rfl | exact h_move (v := .agg _) rfl | exact h_move (v := .tup _) rfl) ?_
  first | refine s_on rfl rfl (by first | rfl | assumption) (by first | exact h_move (v := .s _) rfl | exact h_move (v := .agg _) rfl | exact h_move (v := .tup _) rfl) ?_ | refine s_off rfl rfl (by first | rfl | assumption) ?_
  first | refine s_on rfl rfl (by first | rfl | assumption) (h_nilCheck rfl) ?_ | refine s_off rfl rfl (by first | rfl | assumption) ?_
  first | refine s_on rfl rfl (by first | rfl | assumption) (h_field rfl Tryz.underlying54 rfl Tryz.sizeOf51 (by decide)) ?_ | refine s_off rfl rfl (by first | rfl | assumption) ?_
  first | refine s_on rfl rfl (by first | rfl | assumption) (h_field rfl Tryz.underlying51 rfl Tryz.sizeOf46 (by decide)) ?_ | refine s_off rfl rfl (by first | rfl | assumption) ?_
  first | refine s_on rfl rfl (by first | rfl | assumption) (by first | exact h_load_ints rfl rfl rfl (by omega) rfl Tryz.isAgg46 | exact h_load_one rfl rfl rfl Tryz.isAgg46) ?_ | refine s_off rfl rfl (by first | rfl | assumption) ?_
  first | refine s_on rfl rfl (by first | rfl | assumption) (h_bin rfl rfl (b_neq (decide_eq_false (fun h => h rfl)))) ?_ | refine s_off rfl rfl (by first | rfl | assumption) ?_
  refine s_p (by first | exact h_pick_t rfl (by first | rfl | assumption) rfl | exact h_pick_f rfl (by first | rfl | assumption) rfl) ?_
  refine s_p (by first | exact h_assign (v := .s _) rfl | exact h_assign (v := .agg _) rfl | exact h_assign (v := .tup _) rfl) ?_
  refine s_nil ?_
  refine n_wp ?_
  refine w_ret ?_
  exact ⟨.inl rfl, ret_tmp Tryz.results42 rfl⟩

set_option maxRecDepth 100000 in
set_option maxHeartbeats 4000000 in
theorem cthere_zero (H : Heap) (id : Nat) (bk : Blk) (h : H[id]? = some (some bk)) (hs : bk.segs = S54)  : ACall Tryz.prog 42 H [.s (.ptr id 0 0)] (.s (.bool false)) [] := by
  refine acall_gen (args0 := [.s (.ptr 0 0 0)]) (H0 := [some ⟨false, S54⟩]) (vf := fun _ => (.s (.bool false))) [(id, 0)] Tryz.func42 rfl Tryz.ntmps42 (by simp) rfl (foot1 rfl h (fun i x hx => by rw [Nat.zero_add, hs]; exact hx) rfl) rfl (fun i x0 x h0 h1 ρ u hr => by match i, h0, h1 with | 0, h0, h1 => (simp at h0 h1; subst h0; subst h1; exact arg_ptr (by rfl) hr) | i + 1, h0, _ => simp at h0) rfl (ren_free rfl) (fun W w ρ0 hW hdom => ?_)
  refine w_seq ?_
  refine c_reg (by kernel_rfl) rfl ?_
  refine s_p (by first | exact h_assign (v := .s _) rfl | exact h_assign (v := .agg _) rfl | exact h_assign (v := .tup _) rfl) ?_
  refine s_nil ?_
  refine n_wp ?_
  refine w_seq ?_
  refine c_reg (by kernel_rfl) rfl ?_
  refine s_p (by first | exact h_move (v := .s _) rfl | exact h_move (v := .agg _) rfl | exact h_move (v := .tup _) rfl) ?_
  refine s_p (by first | exact h_nen rfl rfl Tryz.underlying28 | exact h_litb (r := .bool false) (z := .bool false) rfl rfl rfl rfl (fun w => by kernel_rfl) (fun w => by kernel_rfl) rfl rfl) ?_
  refine s_p (by first | exact h_move (v := .s _) rfl | exact h_move (v := .agg _) rfl | exact h_move (v := .tup _) rfl) ?_
  first | refine s_on rfl rfl (by first | rfl | assumption) (by first | exact h_move (v := .s _) rfl | exact h_move (v := .agg _) rfl | exact h_move (v := .tup _) rfl) ?_ | refine s_off rfl rfl (by first | rfl | assumption) ?_
  first | refine s_on rfl rfl (by first | rfl | assumption) (h_nilCheck rfl) ?_ | refine s_off rfl rfl (by first | rfl | assumption) ?_
  first | refine s_on rfl rfl (by first | rfl | assumption) (h_field rfl Tryz.underlying54 rfl Tryz.sizeOf51 (by decide)) ?_ | refine s_off rfl rfl (by first | rfl | assumption) ?_
  first | refine s_on rfl rfl (by first | rfl | assumption) (h_field rfl Tryz.underlying51 rfl Tryz.sizeOf46 (by decide)) ?_ | refine s_off rfl rfl (by first | rfl | assumption) ?_
  first | refine s_on rfl rfl (by first | rfl | assumption) (by first | exact h_load_ints rfl rfl rfl (by omega) rfl Tryz.isAgg46 | exact h_load_one rfl rfl rfl Tryz.isAgg46) ?_ | refine s_off rfl rfl (by first | rfl | assumption) ?_
  first | refine s_on rfl rfl (by first | rfl | assumption) (h_bin rfl rfl (b_neq (decide_eq_false (fun h => h rfl)))) ?_ | refine s_off rfl rfl (by first | rfl | assumption) ?_
  refine s_p (by first | exact h_pick_t rfl (by first | rfl | assumption) rfl | exact h_pick_f rfl (by first | rfl | assumption) rfl) ?_
  refine s_p (by first | exact h_assign (v := .s _) rfl | exact h_assign (v := .agg _) rfl | exact h_assign (v := .tup _) rfl) ?_
  refine s_nil ?_
  refine n_wp ?_
  refine w_ret ?_
  exact done0 (ret_tmp Tryz.results42 rfl)

set_option maxRecDepth 100000 in
set_option maxHeartbeats 4000000 in
theorem CCame_nil (H : Heap) (k : Int) (f t : List Int) (ps : Value) : ACall Tryz.prog 8 H [.s .nilp, .agg [.one (.int .u8 k), .ints .u8 16 f, .ints .u8 16 t, .one (.val ps)]] (.s (.int .i64 2)) [] := by
  refine acall_free Tryz.func8 rfl Tryz.ntmps8 (by simp) rfl rfl (fun W w hW => ?_) H
  refine w_seq ?_
  refine c_reg (by kernel_rfl) rfl ?_
  refine s_a (by first | exact h_box_agg rfl rfl | exact h_box rfl (by simp) rfl) rfl ?_
  refine s_p (by first | exact h_assign (v := .s _) rfl | exact h_assign (v := .agg _) rfl | exact h_assign (v := .tup _) rfl) ?_
  refine s_nil ?_
  refine n_wp ?_
  refine w_seq ?_
  refine w_seq ?_
  refine c_reg (by kernel_rfl) rfl ?_
  refine s_p (by first | exact h_move (v := .s _) rfl | exact h_move (v := .agg _) rfl | exact h_move (v := .tup _) rfl) ?_
  refine s_p (h_call callable_42 rfl (by first | exact cthere_nil _ | exact cthere_zero _ _ _ rfl rfl)) ?_
  refine s_p (h_not rfl) ?_
  refine s_nil ?_
  refine n_wp ?_
  refine w_cond rfl (fun hc_t9 => ?_) (fun hc_t9 => ?_)
  rotate_left
  · exact absurd hc_t9 (by simp)
  refine w_seq ?_
  refine c_reg (by kernel_rfl) rfl ?_
  refine s_p (by first | exact h_assign (v := .s _) rfl | exact h_assign (v := .agg _) rfl | exact h_assign (v := .tup _) rfl) ?_
  refine s_nil ?_
  refine n_wp ?_
  refine w_ret ?_
  refine r_thn ?_
  exact ⟨.inl rfl, ret_tmp Tryz.results8 rfl⟩

set_option maxRecDepth 100000 in
set_option maxHeartbeats 4000000 in
theorem CCame_zero (H : Heap) (id : Nat) (bk : Blk) (h : H[id]? = some (some bk)) (hs : bk.segs = S54) (k : Int) (f t : List Int) (ps : Value) : ACall Tryz.prog 8 H [.s (.ptr id 0 0), .agg [.one (.int .u8 k), .ints .u8 16 f, .ints .u8 16 t, .one (.val ps)]] (.s (.int .i64 2)) [] := by
  refine acall_gen (args0 := [.s (.ptr 0 0 0), .agg [.one (.int .u8 k), .ints .u8 16 f, .ints .u8 16 t, .one (.val ps)]]) (H0 := [some ⟨false, S54⟩]) (vf := fun _ => (.s (.int .i64 2))) [(id, 0)] Tryz.func8 rfl Tryz.ntmps8 (by simp) rfl (foot1 rfl h (fun i x hx => by rw [Nat.zero_add, hs]; exact hx) rfl) rfl (fun i x0 x h0 h1 ρ u hr => by match i, h0, h1 with | 0, h0, h1 => (simp at h0 h1; subst h0; subst h1; exact arg_ptr (by rfl) hr) | 1, h0, h1 => (simp at h0 h1; subst h0; subst h1; exact arg_free (by rfl) hr) | i + 2, h0, _ => simp at h0) rfl (ren_free rfl) (fun W w ρ0 hW hdom => ?_)
  refine w_seq ?_
  refine c_reg (by kernel_rfl) rfl ?_
  refine s_a (by first | exact h_box_agg rfl rfl | exact h_box rfl (by simp) rfl) rfl ?_
  refine s_p (by first | exact h_assign (v := .s _) rfl | exact h_assign (v := .agg _) rfl | exact h_assign (v := .tup _) rfl) ?_
  refine s_nil ?_
  refine n_wp ?_
  refine w_seq ?_
  refine w_seq ?_
  refine c_reg (by kernel_rfl) rfl ?_
  refine s_p (by first | exact h_move (v := .s _) rfl | exact h_move (v := .agg _) rfl | exact h_move (v := .tup _) rfl) ?_
  refine s_p (h_call callable_42 rfl (by first | exact cthere_nil _ | exact cthere_zero _ _ _ rfl rfl)) ?_
  refine s_p (h_not rfl) ?_
  refine s_nil ?_
  refine n_wp ?_
  refine w_cond rfl (fun hc_t9 => ?_) (fun hc_t9 => ?_)
  rotate_left
  · exact absurd hc_t9 (by simp)
  refine w_seq ?_
  refine c_reg (by kernel_rfl) rfl ?_
  refine s_p (by first | exact h_assign (v := .s _) rfl | exact h_assign (v := .agg _) rfl | exact h_assign (v := .tup _) rfl) ?_
  refine s_nil ?_
  refine n_wp ?_
  refine w_ret ?_
  refine r_thn ?_
  exact done0 (ret_tmp Tryz.results8 rfl)

set_option maxRecDepth 100000 in
set_option maxHeartbeats 4000000 in
theorem CTick_nil (H : Heap)  : ACall Tryz.prog 9 H [.s .nilp] (.s (.int .i64 2)) [] := by
  refine acall_free Tryz.func9 rfl Tryz.ntmps9 (by simp) rfl rfl (fun W w hW => ?_) H
  refine w_seq ?_
  refine c_reg (by kernel_rfl) rfl ?_
  refine s_p (by first | exact h_assign (v := .s _) rfl | exact h_assign (v := .agg _) rfl | exact h_assign (v := .tup _) rfl) ?_
  refine s_nil ?_
  refine n_wp ?_
  refine w_seq ?_
  refine w_block ?_
  refine w_seq ?_
  refine c_reg (by kernel_rfl) rfl ?_
  refine s_p (by first | exact h_move (v := .s _) rfl | exact h_move (v := .agg _) rfl | exact h_move (v := .tup _) rfl) ?_
  refine s_p (h_call callable_42 rfl (by first | exact cthere_nil _ | exact cthere_zero _ _ _ rfl rfl)) ?_
  refine s_p (h_not rfl) ?_
  refine s_p (by first | exact h_assign (v := .s _) rfl | exact h_assign (v := .agg _) rfl | exact h_assign (v := .tup _) rfl) ?_
  refine s_nil ?_
  refine n_wp ?_
  refine w_cond rfl (fun hc_t3 => ?_) (fun hc_t3 => ?_)
  rotate_left
  · exact absurd hc_t3 (by simp)
  refine w_seq ?_
  refine c_reg (by kernel_rfl) rfl ?_
  refine s_p (by first | exact h_assign (v := .s _) rfl | exact h_assign (v := .agg _) rfl | exact h_assign (v := .tup _) rfl) ?_
  refine s_nil ?_
  refine n_wp ?_
  refine w_ret ?_
  refine r_blo ?_
  refine r_thn ?_
  exact ⟨.inl rfl, ret_tmp Tryz.results9 rfl⟩

set_option maxRecDepth 100000 in
set_option maxHeartbeats 4000000 in
theorem CTick_zero (H : Heap) (id : Nat) (bk : Blk) (h : H[id]? = some (some bk)) (hs : bk.segs = S54)  : ACall Tryz.prog 9 H [.s (.ptr id 0 0)] (.s (.int .i64 2)) [] := by
  refine acall_gen (args0 := [.s (.ptr 0 0 0)]) (H0 := [some ⟨false, S54⟩]) (vf := fun _ => (.s (.int .i64 2))) [(id, 0)] Tryz.func9 rfl Tryz.ntmps9 (by simp) rfl (foot1 rfl h (fun i x hx => by rw [Nat.zero_add, hs]; exact hx) rfl) rfl (fun i x0 x h0 h1 ρ u hr => by match i, h0, h1 with | 0, h0, h1 => (simp at h0 h1; subst h0; subst h1; exact arg_ptr (by rfl) hr) | i + 1, h0, _ => simp at h0) rfl (ren_free rfl) (fun W w ρ0 hW hdom => ?_)
  refine w_seq ?_
  refine c_reg (by kernel_rfl) rfl ?_
  refine s_p (by first | exact h_assign (v := .s _) rfl | exact h_assign (v := .agg _) rfl | exact h_assign (v := .tup _) rfl) ?_
  refine s_nil ?_
  refine n_wp ?_
  refine w_seq ?_
  refine w_block ?_
  refine w_seq ?_
  refine c_reg (by kernel_rfl) rfl ?_
  refine s_p (by first | exact h_move (v := .s _) rfl | exact h_move (v := .agg _) rfl | exact h_move (v := .tup _) rfl) ?_
  refine s_p (h_call callable_42 rfl (by first | exact cthere_nil _ | exact cthere_zero _ _ _ rfl rfl)) ?_
  refine s_p (h_not rfl) ?_
  refine s_p (by first | exact h_assign (v := .s _) rfl | exact h_assign (v := .agg _) rfl | exact h_assign (v := .tup _) rfl) ?_
  refine s_nil ?_
  refine n_wp ?_
  refine w_cond rfl (fun hc_t3 => ?_) (fun hc_t3 => ?_)
  rotate_left
  · exact absurd hc_t3 (by simp)
  refine w_seq ?_
  refine c_reg (by kernel_rfl) rfl ?_
  refine s_p (by first | exact h_assign (v := .s _) rfl | exact h_assign (v := .agg _) rfl | exact h_assign (v := .tup _) rfl) ?_
  refine s_nil ?_
  refine n_wp ?_
  refine w_ret ?_
  refine r_blo ?_
  refine r_thn ?_
  exact done0 (ret_tmp Tryz.results9 rfl)

set_option maxRecDepth 100000 in
set_option maxHeartbeats 4000000 in
theorem CSay_nil (H : Heap)  : ACall Tryz.prog 10 H [.s .nilp] (.s .nils) [] := by
  refine acall_free Tryz.func10 rfl Tryz.ntmps10 (by simp) rfl rfl (fun W w hW => ?_) H
  refine w_seq ?_
  refine c_reg (by kernel_rfl) rfl ?_
  refine s_p (by first | exact h_assign (v := .s _) rfl | exact h_assign (v := .agg _) rfl | exact h_assign (v := .tup _) rfl) ?_
  refine s_nil ?_
  refine n_wp ?_
  refine w_seq ?_
  refine w_seq ?_
  refine c_reg (by kernel_rfl) rfl ?_
  refine s_p (by first | exact h_move (v := .s _) rfl | exact h_move (v := .agg _) rfl | exact h_move (v := .tup _) rfl) ?_
  refine s_p (h_call callable_42 rfl (by first | exact cthere_nil _ | exact cthere_zero _ _ _ rfl rfl)) ?_
  refine s_p (h_not rfl) ?_
  refine s_nil ?_
  refine n_wp ?_
  refine w_cond rfl (fun hc_t6 => ?_) (fun hc_t6 => ?_)
  rotate_left
  · exact absurd hc_t6 (by simp)
  refine w_seq ?_
  refine c_reg (by kernel_rfl) rfl ?_
  refine s_p (by first | exact h_assign (v := .s _) rfl | exact h_assign (v := .agg _) rfl | exact h_assign (v := .tup _) rfl) ?_
  refine s_nil ?_
  refine n_wp ?_
  refine w_ret ?_
  refine r_thn ?_
  exact ⟨.inl rfl, ret_tmp Tryz.results10 rfl⟩

set_option maxRecDepth 100000 in
set_option maxHeartbeats 4000000 in
theorem CSay_zero (H : Heap) (id : Nat) (bk : Blk) (h : H[id]? = some (some bk)) (hs : bk.segs = S54)  : ACall Tryz.prog 10 H [.s (.ptr id 0 0)] (.s .nils) [] := by
  refine acall_gen (args0 := [.s (.ptr 0 0 0)]) (H0 := [some ⟨false, S54⟩]) (vf := fun _ => (.s .nils)) [(id, 0)] Tryz.func10 rfl Tryz.ntmps10 (by simp) rfl (foot1 rfl h (fun i x hx => by rw [Nat.zero_add, hs]; exact hx) rfl) rfl (fun i x0 x h0 h1 ρ u hr => by match i, h0, h1 with | 0, h0, h1 => (simp at h0 h1; subst h0; subst h1; exact arg_ptr (by rfl) hr) | i + 1, h0, _ => simp at h0) rfl (ren_free rfl) (fun W w ρ0 hW hdom => ?_)
  refine w_seq ?_
  refine c_reg (by kernel_rfl) rfl ?_
  refine s_p (by first | exact h_assign (v := .s _) rfl | exact h_assign (v := .agg _) rfl | exact h_assign (v := .tup _) rfl) ?_
  refine s_nil ?_
  refine n_wp ?_
  refine w_seq ?_
  refine w_seq ?_
  refine c_reg (by kernel_rfl) rfl ?_
  refine s_p (by first | exact h_move (v := .s _) rfl | exact h_move (v := .agg _) rfl | exact h_move (v := .tup _) rfl) ?_
  refine s_p (h_call callable_42 rfl (by first | exact cthere_nil _ | exact cthere_zero _ _ _ rfl rfl)) ?_
  refine s_p (h_not rfl) ?_
  refine s_nil ?_
  refine n_wp ?_
  refine w_cond rfl (fun hc_t6 => ?_) (fun hc_t6 => ?_)
  rotate_left
  · exact absurd hc_t6 (by simp)
  refine w_seq ?_
  refine c_reg (by kernel_rfl) rfl ?_
  refine s_p (by first | exact h_assign (v := .s _) rfl | exact h_assign (v := .agg _) rfl | exact h_assign (v := .tup _) rfl) ?_
  refine s_nil ?_
  refine n_wp ?_
  refine w_ret ?_
  refine r_thn ?_
  exact done0 (ret_tmp Tryz.results10 rfl)

end Go.Proofs.X
