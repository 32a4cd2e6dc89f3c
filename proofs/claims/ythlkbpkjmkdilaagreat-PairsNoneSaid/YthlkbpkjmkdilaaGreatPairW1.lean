/- A part of the proofs of this claim: PairW1 (PairW1). No conditions. -/
import Derived.Test.YthlkbpkjmkdilaaGreatTagW2
import Derived.Test.YthlkbpkjmkdilaaGreatPoolW1
import Derived.Test.YthlkbpkjmkdilaaGreatAbF
set_option linter.unusedVariables false
set_option linter.unusedSimpArgs false
open Go Go.Ab Go.Proofs
namespace Go.Proofs.X
theorem callable_11 : Callable Tryz.prog 11 := ⟨_, Tryz.func11, by kernel_rfl, rfl⟩
theorem callable_51 : Callable Tryz.prog 51 := ⟨_, Tryz.func51, by kernel_rfl, rfl⟩
theorem callable_12 : Callable Tryz.prog 12 := ⟨_, Tryz.func12, by kernel_rfl, rfl⟩
theorem callable_13 : Callable Tryz.prog 13 := ⟨_, Tryz.func13, by kernel_rfl, rfl⟩
theorem callable_14 : Callable Tryz.prog 14 := ⟨_, Tryz.func14, by kernel_rfl, rfl⟩
theorem callable_15 : Callable Tryz.prog 15 := ⟨_, Tryz.func15, by kernel_rfl, rfl⟩
theorem callable_16 : Callable Tryz.prog 16 := ⟨_, Tryz.func16, by kernel_rfl, rfl⟩
theorem callable_17 : Callable Tryz.prog 17 := ⟨_, Tryz.func17, by kernel_rfl, rfl⟩
theorem build0_24 (w : World) : (Instr.build 24 #[]).run Tryz.prog w = .ok (.agg (List.replicate 16 (Value.int .u8 0)).toArray) w := by kernel_rfl
theorem build0_68 (w : World) : (Instr.build 68 #[]).run Tryz.prog w = .ok (.agg (List.replicate 32 (Value.int .u8 0) ++ List.replicate 16 (Value.int .u8 0) ++ [Value.int .u32 0] ++ List.replicate 32 (Value.int .u8 0) ++ List.replicate 16 (Value.int .u8 0) ++ List.replicate 32 (Value.int .u8 0) ++ List.replicate 16 (Value.int .u8 0) ++ List.replicate 32 (Value.int .u8 0) ++ List.replicate 32 (Value.int .u8 0) ++ List.replicate 4 (Value.int .u64 0) ++ [Value.int .u32 0] ++ [Value.int .u32 0] ++ [Value.int .u32 0]).toArray) w := by kernel_rfl
theorem build0_70 (w : World) : (Instr.build 70 #[]).run Tryz.prog w = .ok (.agg (List.replicate 4 (Value.int .u64 0) ++ List.replicate 4 (Value.int .u64 0) ++ List.replicate 4 (Value.int .u64 0) ++ List.replicate 4 (Value.int .u64 0) ++ List.replicate 32 (Value.int .u8 0) ++ [Value.pointer none] ++ List.replicate 16 (Value.int .u8 0) ++ List.replicate 16 (Value.int .u8 0) ++ [Value.int .u8 0] ++ [Value.int .u32 0] ++ [Value.int .u32 0] ++ [Value.slice none 0 0] ++ [Value.int .i64 0] ++ [Value.int .i64 0] ++ [Value.slice none 0 0] ++ List.replicate 32 (Value.int .u8 0) ++ List.replicate 16 (Value.int .u8 0) ++ [Value.int .u32 0] ++ List.replicate 32 (Value.int .u8 0) ++ List.replicate 16 (Value.int .u8 0) ++ List.replicate 32 (Value.int .u8 0) ++ List.replicate 16 (Value.int .u8 0) ++ List.replicate 32 (Value.int .u8 0) ++ List.replicate 32 (Value.int .u8 0) ++ List.replicate 4 (Value.int .u64 0) ++ [Value.int .u32 0] ++ [Value.int .u32 0] ++ [Value.int .u32 0]).toArray) w := by kernel_rfl
def S68 : List Seg := [.ints .u8 32 (List.replicate 32 0), .ints .u8 16 (List.replicate 16 0), .one (.int .u32 0), .ints .u8 32 (List.replicate 32 0), .ints .u8 16 (List.replicate 16 0), .ints .u8 32 (List.replicate 32 0), .ints .u8 16 (List.replicate 16 0), .ints .u8 32 (List.replicate 32 0), .ints .u8 32 (List.replicate 32 0), .ints .u64 4 (List.replicate 4 0), .one (.int .u32 0), .one (.int .u32 0), .one (.int .u32 0)]
def S70 : List Seg := [.ints .u64 4 (List.replicate 4 0), .ints .u64 4 (List.replicate 4 0), .ints .u64 4 (List.replicate 4 0), .ints .u64 4 (List.replicate 4 0), .ints .u8 32 (List.replicate 32 0), .one .nilp, .ints .u8 16 (List.replicate 16 0), .ints .u8 16 (List.replicate 16 0), .one (.int .u8 0), .one (.int .u32 0), .one (.int .u32 0), .one .nils, .one (.int .i64 0), .one (.int .i64 0), .one .nils, .ints .u8 32 (List.replicate 32 0), .ints .u8 16 (List.replicate 16 0), .one (.int .u32 0), .ints .u8 32 (List.replicate 32 0), .ints .u8 16 (List.replicate 16 0), .ints .u8 32 (List.replicate 32 0), .ints .u8 16 (List.replicate 16 0), .ints .u8 32 (List.replicate 32 0), .ints .u8 32 (List.replicate 32 0), .ints .u64 4 (List.replicate 4 0), .one (.int .u32 0), .one (.int .u32 0), .one (.int .u32 0)]
set_option maxRecDepth 100000 in
set_option maxHeartbeats 4000000 in
theorem PNew_z (H : Heap)  : ACall Tryz.prog 11 H [.agg [.ints .u64 4 (List.replicate 4 0), .ints .u64 4 (List.replicate 4 0), .ints .u64 4 (List.replicate 4 0), .ints .u64 4 (List.replicate 4 0), .ints .u8 32 (List.replicate 32 0)], .s .nilp, .agg [.ints .u8 16 (List.replicate 16 0)], .s (.int .u32 0)] (.tup [.s .nilp, .s (.int .i64 1)]) [] := by
  refine acall_free Tryz.func11 rfl Tryz.ntmps11 (by simp) rfl rfl (fun W w hW => ?_) H
  refine w_seq ?_
  refine c_reg (by kernel_rfl) rfl ?_
  refine s_a (by first | exact h_box_agg rfl rfl | exact h_box rfl (by simp) rfl) rfl ?_
  refine s_a (by first | exact h_box_agg rfl rfl | exact h_box rfl (by simp) rfl) rfl ?_
  refine s_p (by first | exact h_assign (v := .s _) rfl | exact h_assign (v := .agg _) rfl | exact h_assign (v := .tup _) rfl) ?_
  refine s_p (by first | exact h_assign (v := .s _) rfl | exact h_assign (v := .agg _) rfl | exact h_assign (v := .tup _) rfl) ?_
  refine s_nil ?_
  refine n_wp ?_
  refine w_seq ?_
  refine c_reg (by kernel_rfl) rfl ?_
  refine s_p (h_field rfl Tryz.underlying40 rfl Tryz.sizeOf36 (by decide)) ?_
  refine s_p (h_load_agg rfl rfl (SubS.two rfl rfl (SubS.two rfl rfl (.seg rfl rfl))) Tryz.isAgg36 Tryz.sizeOf36) ?_
  refine s_p (h_field rfl Tryz.underlying40 rfl Tryz.sizeOf34 (by decide)) ?_
  refine s_p (by first | exact h_load_agg rfl rfl (.whole rfl) Tryz.isAgg34 Tryz.sizeOf34 | exact h_load_agg rfl rfl (.seg rfl rfl) Tryz.isAgg34 Tryz.sizeOf34 | exact h_load_agg rfl rfl (.ints rfl (by omega)) Tryz.isAgg34 Tryz.sizeOf34) ?_
  refine s_p (h_call callable_45 rfl (Key_z _)) ?_
  refine s_p (by first | exact h_move (v := .s _) rfl | exact h_move (v := .agg _) rfl | exact h_move (v := .tup _) rfl) ?_
  refine s_p (h_extract rfl rfl (by simp)) ?_
  refine s_p (h_extract rfl rfl (by simp)) ?_
  refine s_a (h_alloc (segs := [.ints .u64 4 (List.replicate 4 0)]) Tryz.zeroValue34 (by kernel_rfl) rfl) rfl ?_
  refine s_st (by first | exact m_store_agg rfl rfl rfl (.whole (Nat.le_of_ble_eq_true rfl) rfl rfl) Tryz.sizeOf34 rfl | exact m_store_agg rfl rfl rfl (.seg (Nat.le_of_ble_eq_true rfl) rfl rfl rfl) Tryz.sizeOf34 rfl | exact m_store_agg rfl rfl rfl (.ints (Nat.le_of_ble_eq_true rfl) rfl (by omega)) Tryz.sizeOf34 rfl) ?_
  refine s_p (by first | exact h_assign (v := .s _) rfl | exact h_assign (v := .agg _) rfl | exact h_assign (v := .tup _) rfl) ?_
  refine s_nil ?_
  refine n_wp ?_
  refine w_seq ?_
  refine c_reg (by kernel_rfl) rfl ?_
  refine s_p (by first | exact h_load_agg rfl rfl (.whole rfl) Tryz.isAgg34 Tryz.sizeOf34 | exact h_load_agg rfl rfl (.seg rfl rfl) Tryz.isAgg34 Tryz.sizeOf34 | exact h_load_agg rfl rfl (.ints rfl (by omega)) Tryz.isAgg34 Tryz.sizeOf34) ?_
  refine s_p (h_call callable_46 rfl (tagOf_c _ (List.replicate 4 0) rfl)) ?_
  refine s_a (h_alloc (segs := [.ints .u8 16 (List.replicate 16 0)]) Tryz.zeroValue24 (by kernel_rfl) rfl) rfl ?_
  refine s_st (by first | exact m_store_agg rfl rfl rfl (.whole (Nat.le_of_ble_eq_true rfl) rfl rfl) Tryz.sizeOf24 rfl | exact m_store_agg rfl rfl rfl (.seg (Nat.le_of_ble_eq_true rfl) rfl rfl rfl) Tryz.sizeOf24 rfl | exact m_store_agg rfl rfl rfl (.ints (Nat.le_of_ble_eq_true rfl) rfl (by omega)) Tryz.sizeOf24 rfl) ?_
  refine s_nil ?_
  refine n_wp ?_
  refine w_seq ?_
  refine w_block ?_
  refine w_seq ?_
  refine c_any 13 mix (by kernel_rfl) (by kernel_rfl) rfl rfl rfl ?_
  refine t_p (by first | exact h_move (v := .s _) rfl | exact h_move (v := .agg _) rfl | exact h_move (v := .tup _) rfl) ?_
  refine t_p (h_bin rfl rfl (b_neq rfl)) ?_
  refine t_p (by first | exact h_move (v := .s _) rfl | exact h_move (v := .agg _) rfl | exact h_move (v := .tup _) rfl) ?_
  first | refine t_on rfl rfl (by first | rfl | assumption) (h_field rfl Tryz.underlying40 rfl Tryz.sizeOf36 (by decide)) ?_ | refine t_off rfl rfl (by first | rfl | assumption) ?_
  first | refine t_on rfl rfl (by first | rfl | assumption) (h_field rfl Tryz.underlying36 rfl Tryz.sizeOf34 (by decide)) ?_ | refine t_off rfl rfl (by first | rfl | assumption) ?_
  first | refine t_on rfl rfl (by first | rfl | assumption) (by first | exact h_load_agg rfl rfl (.whole rfl) Tryz.isAgg34 Tryz.sizeOf34 | exact h_load_agg rfl rfl (.seg rfl rfl) Tryz.isAgg34 Tryz.sizeOf34 | exact h_load_agg rfl rfl (.ints rfl (by omega)) Tryz.isAgg34 Tryz.sizeOf34) ?_ | refine t_off rfl rfl (by first | rfl | assumption) ?_
  first | refine t_on rfl rfl (by first | rfl | assumption) (h_call callable_48 rfl (CALL48)) ?_ | refine t_off rfl rfl (by first | rfl | assumption) ?_
  first | refine t_on rfl rfl (by first | rfl | assumption) (h_call callable_47 rfl (CALL47)) ?_ | refine t_off rfl rfl (by first | rfl | assumption) ?_
  first | refine t_on rfl rfl (by first | rfl | assumption) (h_bin rfl rfl (b_lss rfl)) ?_ | refine t_off rfl rfl (by first | rfl | assumption) ?_
  refine t_p (by first | exact h_pick_t rfl (by first | rfl | assumption) rfl | exact h_pick_f rfl (by first | rfl | assumption) rfl) ?_
  refine t_p (by first | exact h_move (v := .s _) rfl | exact h_move (v := .agg _) rfl | exact h_move (v := .tup _) rfl) ?_
  first | refine t_on rfl rfl (by first | rfl | assumption) (by first | exact h_load_agg rfl rfl (.whole rfl) Tryz.isAgg24 Tryz.sizeOf24 | exact h_load_agg rfl rfl (.seg rfl rfl) Tryz.isAgg24 Tryz.sizeOf24 | exact h_load_agg rfl rfl (.ints rfl (by omega)) Tryz.isAgg24 Tryz.sizeOf24) ?_ | refine t_off rfl rfl (by first | rfl | assumption) ?_
  first | refine t_on rfl rfl (by first | rfl | assumption) (by first | exact h_load_agg rfl rfl (.whole rfl) Tryz.isAgg24 Tryz.sizeOf24 | exact h_load_agg rfl rfl (.seg rfl rfl) Tryz.isAgg24 Tryz.sizeOf24 | exact h_load_agg rfl rfl (.ints rfl (by omega)) Tryz.isAgg24 Tryz.sizeOf24) ?_ | refine t_off rfl rfl (by first | rfl | assumption) ?_
  refine t_nil ?_
  first | refine s_on rfl rfl (by first | rfl | assumption) (h_litb (r := .bool true) (z := .bool true) rfl rfl rfl rfl (fun w => by kernel_rfl) (fun w => by kernel_rfl) rfl rfl) ?_ | refine s_off rfl rfl (by first | rfl | assumption) ?_
  refine s_p (by first | exact h_pick_t rfl (by first | rfl | assumption) rfl | exact h_pick_f rfl (by first | rfl | assumption) rfl) ?_
  refine s_p (by first | exact h_move (v := .s _) rfl | exact h_move (v := .agg _) rfl | exact h_move (v := .tup _) rfl) ?_
  first | refine s_on rfl rfl (by first | rfl | assumption) (by first | exact h_move (v := .s _) rfl | exact h_move (v := .agg _) rfl | exact h_move (v := .tup _) rfl) ?_ | refine s_off rfl rfl (by first | rfl | assumption) ?_
  first | refine s_on rfl rfl (by first | rfl | assumption) (h_bin rfl rfl (b_eql rfl)) ?_ | refine s_off rfl rfl (by first | rfl | assumption) ?_
  refine s_p (by first | exact h_pick_t rfl (by first | rfl | assumption) rfl | exact h_pick_f rfl (by first | rfl | assumption) rfl) ?_
  refine s_p (by first | exact h_assign (v := .s _) rfl | exact h_assign (v := .agg _) rfl | exact h_assign (v := .tup _) rfl) ?_
  refine s_nil ?_
  refine n_wp ?_
  refine w_cond rfl (fun hc_t24 => ?_) (fun hc_t24 => ?_)
  rotate_left
  · exact absurd hc_t24 (by simp)
  refine w_seq ?_
  refine c_reg (by kernel_rfl) rfl ?_
  refine s_p (by first | exact h_assign (v := .s _) rfl | exact h_assign (v := .agg _) rfl | exact h_assign (v := .tup _) rfl) ?_
  refine s_p (by first | exact h_assign (v := .s _) rfl | exact h_assign (v := .agg _) rfl | exact h_assign (v := .tup _) rfl) ?_
  refine s_nil ?_
  refine n_wp ?_
  refine w_ret ?_
  refine r_blo ?_
  refine r_thn ?_
  exact ⟨.inl rfl, ret_tmps2 Tryz.results11 rfl rfl⟩

set_option maxRecDepth 100000 in
set_option maxHeartbeats 4000000 in
theorem pthere_nil (H : Heap)  : ACall Tryz.prog 51 H [.s .nilp] (.s (.bool false)) [] := by
  refine acall_free Tryz.func51 rfl Tryz.ntmps51 (by simp) rfl rfl (fun W w hW => ?_) H
  refine w_seq ?_
  refine c_reg (by kernel_rfl) rfl ?_
  refine s_p (by first | exact h_assign (v := .s _) rfl | exact h_assign (v := .agg _) rfl | exact h_assign (v := .tup _) rfl) ?_
  refine s_nil ?_
  refine n_wp ?_
  refine w_seq ?_
  refine c_reg (by kernel_rfl) rfl ?_
  refine s_p (by first | exact h_move (v := .s _) rfl | exact h_move (v := .agg _) rfl | exact h_move (v := .tup _) rfl) ?_
  refine s_p (by first | exact h_nen rfl rfl Tryz.underlying62 | exact h_litb (r := .bool false) (z := .bool false) rfl rfl rfl rfl (fun w => by kernel_rfl) (fun w => by kernel_rfl) rfl rfl) ?_
  refine s_p (by first | exact h_move (v := .s _) rfl | exact h_move (v := .agg _) rfl | exact h_move (v := .tup _) rfl) ?_
  first | refine s_on rfl rfl (by first | rfl | assumption) (by first | exact h_move (v := .s _) rfl | exact h_move (v := .agg _) rfl | exact h_move (v := .tup _) rfl) ?_ | refine s_off rfl rfl (by first | rfl | assumption) ?_
  first | refine s_on rfl rfl (by first | rfl | assumption) (h_nilCheck rfl) ?_ | refine s_off rfl rfl (by first | rfl | assumption) ?_
  first | refine s_on rfl rfl (by first | rfl | assumption) (h_field rfl Tryz.underlying70 rfl Tryz.sizeOf65 (by decide)) ?_ | refine s_off rfl rfl (by first | rfl | assumption) ?_
  first | refine s_on rfl rfl (by first | rfl | assumption) (by first | exact h_load_one rfl rfl rfl Tryz.isAgg65 | exact h_load rfl rfl rfl Tryz.isAgg65) ?_ | refine s_off rfl rfl (by first | rfl | assumption) ?_
  first | refine s_on rfl rfl (by first | rfl | assumption) (by first | exact h_nen rfl rfl Tryz.underlying65 | exact h_litb (r := .bool false) (z := .bool false) rfl rfl rfl rfl (fun w => by kernel_rfl) (fun w => by kernel_rfl) rfl rfl) ?_ | refine s_off rfl rfl (by first | rfl | assumption) ?_
  refine s_p (by first | exact h_pick_t rfl (by first | rfl | assumption) rfl | exact h_pick_f rfl (by first | rfl | assumption) rfl) ?_
  refine s_p (by first | exact h_assign (v := .s _) rfl | exact h_assign (v := .agg _) rfl | exact h_assign (v := .tup _) rfl) ?_
  refine s_nil ?_
  refine n_wp ?_
  refine w_ret ?_
  exact ⟨.inl rfl, ret_tmp Tryz.results51 rfl⟩

set_option maxRecDepth 100000 in
set_option maxHeartbeats 4000000 in
theorem pthere_zero (H : Heap) (id : Nat) (bk : Blk) (h : H[id]? = some (some bk)) (hs : bk.segs = S70)  : ACall Tryz.prog 51 H [.s (.ptr id 0 0)] (.s (.bool false)) [] := by
  refine acall_gen (args0 := [.s (.ptr 0 0 0)]) (H0 := [some ⟨false, S70⟩]) (vf := fun _ => (.s (.bool false))) [(id, 0)] Tryz.func51 rfl Tryz.ntmps51 (by simp) rfl (foot1 rfl h (fun i x hx => by rw [Nat.zero_add, hs]; exact hx) rfl) rfl (fun i x0 x h0 h1 ρ u hr => by match i, h0, h1 with | 0, h0, h1 => (simp at h0 h1; subst h0; subst h1; exact arg_ptr (by rfl) hr) | i + 1, h0, _ => simp at h0) rfl (ren_free rfl) (fun W w ρ0 hW hdom => ?_)
  refine w_seq ?_
  refine c_reg (by kernel_rfl) rfl ?_
  refine s_p (by first | exact h_assign (v := .s _) rfl | exact h_assign (v := .agg _) rfl | exact h_assign (v := .tup _) rfl) ?_
  refine s_nil ?_
  refine n_wp ?_
  refine w_seq ?_
  refine c_reg (by kernel_rfl) rfl ?_
  refine s_p (by first | exact h_move (v := .s _) rfl | exact h_move (v := .agg _) rfl | exact h_move (v := .tup _) rfl) ?_
  refine s_p (by first | exact h_nen rfl rfl Tryz.underlying62 | exact h_litb (r := .bool false) (z := .bool false) rfl rfl rfl rfl (fun w => by kernel_rfl) (fun w => by kernel_rfl) rfl rfl) ?_
  refine s_p (by first | exact h_move (v := .s _) rfl | exact h_move (v := .agg _) rfl | exact h_move (v := .tup _) rfl) ?_
  first | refine s_on rfl rfl (by first | rfl | assumption) (by first | exact h_move (v := .s _) rfl | exact h_move (v := .agg _) rfl | exact h_move (v := .tup _) rfl) ?_ | refine s_off rfl rfl (by first | rfl | assumption) ?_
  first | refine s_on rfl rfl (by first | rfl | assumption) (h_nilCheck rfl) ?_ | refine s_off rfl rfl (by first | rfl | assumption) ?_
  first | refine s_on rfl rfl (by first | rfl | assumption) (h_field rfl Tryz.underlying70 rfl Tryz.sizeOf65 (by decide)) ?_ | refine s_off rfl rfl (by first | rfl | assumption) ?_
  first | refine s_on rfl rfl (by first | rfl | assumption) (by first | exact h_load_one rfl rfl rfl Tryz.isAgg65 | exact h_load rfl rfl rfl Tryz.isAgg65) ?_ | refine s_off rfl rfl (by first | rfl | assumption) ?_
  first | refine s_on rfl rfl (by first | rfl | assumption) (by first | exact h_nen rfl rfl Tryz.underlying65 | exact h_litb (r := .bool false) (z := .bool false) rfl rfl rfl rfl (fun w => by kernel_rfl) (fun w => by kernel_rfl) rfl rfl) ?_ | refine s_off rfl rfl (by first | rfl | assumption) ?_
  refine s_p (by first | exact h_pick_t rfl (by first | rfl | assumption) rfl | exact h_pick_f rfl (by first | rfl | assumption) rfl) ?_
  refine s_p (by first | exact h_assign (v := .s _) rfl | exact h_assign (v := .agg _) rfl | exact h_assign (v := .tup _) rfl) ?_
  refine s_nil ?_
  refine n_wp ?_
  refine w_ret ?_
  exact done0 (ret_tmp Tryz.results51 rfl)

set_option maxRecDepth 100000 in
set_option maxHeartbeats 4000000 in
theorem PGot_nil (H : Heap)  : ACall Tryz.prog 12 H [.s .nilp] (.tup [.agg S68, .s (.int .i64 2)]) [] := by
  refine acall_free Tryz.func12 rfl Tryz.ntmps12 (by simp) rfl rfl (fun W w hW => ?_) H
  refine w_seq ?_
  refine c_reg (by kernel_rfl) rfl ?_
  refine s_a (h_alloc (segs := S68) Tryz.zeroValue68 (by kernel_rfl) rfl) rfl ?_
  refine s_p (by first | exact h_assign (v := .s _) rfl | exact h_assign (v := .agg _) rfl | exact h_assign (v := .tup _) rfl) ?_
  refine s_nil ?_
  refine n_wp ?_
  refine w_seq ?_
  refine w_block ?_
  refine w_seq ?_
  refine c_reg (by kernel_rfl) rfl ?_
  refine s_p (by first | exact h_move (v := .s _) rfl | exact h_move (v := .agg _) rfl | exact h_move (v := .tup _) rfl) ?_
  refine s_p (h_call callable_51 rfl (by first | exact pthere_nil _ | exact pthere_zero _ _ _ rfl rfl)) ?_
  refine s_p (h_not rfl) ?_
  refine s_p (by first | exact h_assign (v := .s _) rfl | exact h_assign (v := .agg _) rfl | exact h_assign (v := .tup _) rfl) ?_
  refine s_nil ?_
  refine n_wp ?_
  refine w_cond rfl (fun hc_t4 => ?_) (fun hc_t4 => ?_)
  rotate_left
  · exact absurd hc_t4 (by simp)
  refine w_seq ?_
  refine c_reg (by kernel_rfl) rfl ?_
  refine s_p (h_build0 (segs := S68) build0_68 (by kernel_rfl)) ?_
  refine s_st (by first | exact m_store_agg rfl rfl rfl (.whole (Nat.le_of_ble_eq_true rfl) rfl rfl) Tryz.sizeOf68 rfl | exact m_store_agg rfl rfl rfl (.seg (Nat.le_of_ble_eq_true rfl) rfl rfl rfl) Tryz.sizeOf68 rfl | exact m_store_agg rfl rfl rfl (.ints (Nat.le_of_ble_eq_true rfl) rfl (by omega)) Tryz.sizeOf68 rfl) ?_
  refine s_p (by first | exact h_assign (v := .s _) rfl | exact h_assign (v := .agg _) rfl | exact h_assign (v := .tup _) rfl) ?_
  refine s_nil ?_
  refine n_wp ?_
  refine w_ret ?_
  refine r_blo ?_
  refine r_thn ?_
  exact ⟨.inl rfl, ret_cell_tmp Tryz.results12 rfl rfl (.whole rfl) Tryz.isAgg68 Tryz.sizeOf68 rfl⟩

set_option maxRecDepth 100000 in
set_option maxHeartbeats 4000000 in
theorem PGot_zero (H : Heap) (id : Nat) (bk : Blk) (h : H[id]? = some (some bk)) (hs : bk.segs = S70)  : ACall Tryz.prog 12 H [.s (.ptr id 0 0)] (.tup [.agg S68, .s (.int .i64 2)]) [] := by
  refine acall_gen (args0 := [.s (.ptr 0 0 0)]) (H0 := [some ⟨false, S70⟩]) (vf := fun _ => (.tup [.agg S68, .s (.int .i64 2)])) [(id, 0)] Tryz.func12 rfl Tryz.ntmps12 (by simp) rfl (foot1 rfl h (fun i x hx => by rw [Nat.zero_add, hs]; exact hx) rfl) rfl (fun i x0 x h0 h1 ρ u hr => by match i, h0, h1 with | 0, h0, h1 => (simp at h0 h1; subst h0; subst h1; exact arg_ptr (by rfl) hr) | i + 1, h0, _ => simp at h0) rfl (ren_free rfl) (fun W w ρ0 hW hdom => ?_)
  refine w_seq ?_
  refine c_reg (by kernel_rfl) rfl ?_
  refine s_a (h_alloc (segs := S68) Tryz.zeroValue68 (by kernel_rfl) rfl) rfl ?_
  refine s_p (by first | exact h_assign (v := .s _) rfl | exact h_assign (v := .agg _) rfl | exact h_assign (v := .tup _) rfl) ?_
  refine s_nil ?_
  refine n_wp ?_
  refine w_seq ?_
  refine w_block ?_
  refine w_seq ?_
  refine c_reg (by kernel_rfl) rfl ?_
  refine s_p (by first | exact h_move (v := .s _) rfl | exact h_move (v := .agg _) rfl | exact h_move (v := .tup _) rfl) ?_
  refine s_p (h_call callable_51 rfl (by first | exact pthere_nil _ | exact pthere_zero _ _ _ rfl rfl)) ?_
  refine s_p (h_not rfl) ?_
  refine s_p (by first | exact h_assign (v := .s _) rfl | exact h_assign (v := .agg _) rfl | exact h_assign (v := .tup _) rfl) ?_
  refine s_nil ?_
  refine n_wp ?_
  refine w_cond rfl (fun hc_t4 => ?_) (fun hc_t4 => ?_)
  rotate_left
  · exact absurd hc_t4 (by simp)
  refine w_seq ?_
  refine c_reg (by kernel_rfl) rfl ?_
  refine s_p (h_build0 (segs := S68) build0_68 (by kernel_rfl)) ?_
  refine s_st (by first | exact m_store_agg rfl rfl rfl (.whole (Nat.le_of_ble_eq_true rfl) rfl rfl) Tryz.sizeOf68 rfl | exact m_store_agg rfl rfl rfl (.seg (Nat.le_of_ble_eq_true rfl) rfl rfl rfl) Tryz.sizeOf68 rfl | exact m_store_agg rfl rfl rfl (.ints (Nat.le_of_ble_eq_true rfl) rfl (by omega)) Tryz.sizeOf68 rfl) ?_
  refine s_p (by first | exact h_assign (v := .s _) rfl | exact h_assign (v := .agg _) rfl | exact h_assign (v := .tup _) rfl) ?_
  refine s_nil ?_
  refine n_wp ?_
  refine w_ret ?_
  refine r_blo ?_
  refine r_thn ?_
  exact done0 (ret_cell_tmp Tryz.results12 rfl rfl (.whole rfl) Tryz.isAgg68 Tryz.sizeOf68 rfl)

set_option maxRecDepth 100000 in
set_option maxHeartbeats 4000000 in
theorem PReady_nil (H : Heap) (k : Int) (f t : List Int) (ps : Value) (s l : Int) : ACall Tryz.prog 13 H [.s .nilp, .agg [.one (.int .u8 k), .ints .u8 16 f, .ints .u8 16 t, .one (.val ps)], .s (.int .u32 s), .s (.int .u32 l)] (.s (.int .i64 2)) [] := by
  refine acall_free Tryz.func13 rfl Tryz.ntmps13 (by simp) rfl rfl (fun W w hW => ?_) H
  refine w_seq ?_
  refine c_reg (by kernel_rfl) rfl ?_
  refine s_a (by first | exact h_box_agg rfl rfl | exact h_box rfl (by simp) rfl) rfl ?_
  refine s_p (by first | exact h_assign (v := .s _) rfl | exact h_assign (v := .agg _) rfl | exact h_assign (v := .tup _) rfl) ?_
  refine s_nil ?_
  refine n_wp ?_
  refine w_seq ?_
  refine w_block ?_
  refine w_seq ?_
  refine c_reg (by kernel_rfl) rfl ?_
  refine s_p (by first | exact h_move (v := .s _) rfl | exact h_move (v := .agg _) rfl | exact h_move (v := .tup _) rfl) ?_
  refine s_p (h_call callable_51 rfl (by first | exact pthere_nil _ | exact pthere_zero _ _ _ rfl rfl)) ?_
  refine s_p (h_not rfl) ?_
  refine s_p (by first | exact h_assign (v := .s _) rfl | exact h_assign (v := .agg _) rfl | exact h_assign (v := .tup _) rfl) ?_
  refine s_nil ?_
  refine n_wp ?_
  refine w_cond rfl (fun hc_t17 => ?_) (fun hc_t17 => ?_)
  rotate_left
  · exact absurd hc_t17 (by simp)
  refine w_seq ?_
  refine c_reg (by kernel_rfl) rfl ?_
  refine s_p (by first | exact h_assign (v := .s _) rfl | exact h_assign (v := .agg _) rfl | exact h_assign (v := .tup _) rfl) ?_
  refine s_nil ?_
  refine n_wp ?_
  refine w_ret ?_
  refine r_blo ?_
  refine r_thn ?_
  exact ⟨.inl rfl, ret_tmp Tryz.results13 rfl⟩

set_option maxRecDepth 100000 in
set_option maxHeartbeats 4000000 in
theorem PReady_zero (H : Heap) (id : Nat) (bk : Blk) (h : H[id]? = some (some bk)) (hs : bk.segs = S70) (k : Int) (f t : List Int) (ps : Value) (s l : Int) : ACall Tryz.prog 13 H [.s (.ptr id 0 0), .agg [.one (.int .u8 k), .ints .u8 16 f, .ints .u8 16 t, .one (.val ps)], .s (.int .u32 s), .s (.int .u32 l)] (.s (.int .i64 2)) [] := by
  refine acall_gen (args0 := [.s (.ptr 0 0 0), .agg [.one (.int .u8 k), .ints .u8 16 f, .ints .u8 16 t, .one (.val ps)], .s (.int .u32 s), .s (.int .u32 l)]) (H0 := [some ⟨false, S70⟩]) (vf := fun _ => (.s (.int .i64 2))) [(id, 0)] Tryz.func13 rfl Tryz.ntmps13 (by simp) rfl (foot1 rfl h (fun i x hx => by rw [Nat.zero_add, hs]; exact hx) rfl) rfl (fun i x0 x h0 h1 ρ u hr => by match i, h0, h1 with | 0, h0, h1 => (simp at h0 h1; subst h0; subst h1; exact arg_ptr (by rfl) hr) | 1, h0, h1 => (simp at h0 h1; subst h0; subst h1; exact arg_free (by rfl) hr) | 2, h0, h1 => (simp at h0 h1; subst h0; subst h1; exact arg_free (by rfl) hr) | 3, h0, h1 => (simp at h0 h1; subst h0; subst h1; exact arg_free (by rfl) hr) | i + 4, h0, _ => simp at h0) rfl (ren_free rfl) (fun W w ρ0 hW hdom => ?_)
  refine w_seq ?_
  refine c_reg (by kernel_rfl) rfl ?_
  refine s_a (by first | exact h_box_agg rfl rfl | exact h_box rfl (by simp) rfl) rfl ?_
  refine s_p (by first | exact h_assign (v := .s _) rfl | exact h_assign (v := .agg _) rfl | exact h_assign (v := .tup _) rfl) ?_
  refine s_nil ?_
  refine n_wp ?_
  refine w_seq ?_
  refine w_block ?_
  refine w_seq ?_
  refine c_reg (by kernel_rfl) rfl ?_
  refine s_p (by first | exact h_move (v := .s _) rfl | exact h_move (v := .agg _) rfl | exact h_move (v := .tup _) rfl) ?_
  refine s_p (h_call callable_51 rfl (by first | exact pthere_nil _ | exact pthere_zero _ _ _ rfl rfl)) ?_
  refine s_p (h_not rfl) ?_
  refine s_p (by first | exact h_assign (v := .s _) rfl | exact h_assign (v := .agg _) rfl | exact h_assign (v := .tup _) rfl) ?_
  refine s_nil ?_
  refine n_wp ?_
  refine w_cond rfl (fun hc_t17 => ?_) (fun hc_t17 => ?_)
  rotate_left
  · exact absurd hc_t17 (by simp)
  refine w_seq ?_
  refine c_reg (by kernel_rfl) rfl ?_
  refine s_p (by first | exact h_assign (v := .s _) rfl | exact h_assign (v := .agg _) rfl | exact h_assign (v := .tup _) rfl) ?_
  refine s_nil ?_
  refine n_wp ?_
  refine w_ret ?_
  refine r_blo ?_
  refine r_thn ?_
  exact done0 (ret_tmp Tryz.results13 rfl)

set_option maxRecDepth 100000 in
set_option maxHeartbeats 4000000 in
theorem PMet_nil (H : Heap) (k : Int) (f t : List Int) (ps : Value) : ACall Tryz.prog 14 H [.s .nilp, .agg [.one (.int .u8 k), .ints .u8 16 f, .ints .u8 16 t, .one (.val ps)]] (.s (.int .i64 2)) [] := by
  refine acall_free Tryz.func14 rfl Tryz.ntmps14 (by simp) rfl rfl (fun W w hW => ?_) H
  refine w_seq ?_
  refine c_reg (by kernel_rfl) rfl ?_
  refine s_a (by first | exact h_box_agg rfl rfl | exact h_box rfl (by simp) rfl) rfl ?_
  refine s_p (by first | exact h_assign (v := .s _) rfl | exact h_assign (v := .agg _) rfl | exact h_assign (v := .tup _) rfl) ?_
  refine s_nil ?_
  refine n_wp ?_
  refine w_seq ?_
  refine w_block ?_
  refine w_seq ?_
  refine c_reg (by kernel_rfl) rfl ?_
  refine s_p (by first | exact h_move (v := .s _) rfl | exact h_move (v := .agg _) rfl | exact h_move (v := .tup _) rfl) ?_
  refine s_p (h_call callable_51 rfl (by first | exact pthere_nil _ | exact pthere_zero _ _ _ rfl rfl)) ?_
  refine s_p (h_not rfl) ?_
  refine s_p (by first | exact h_assign (v := .s _) rfl | exact h_assign (v := .agg _) rfl | exact h_assign (v := .tup _) rfl) ?_
  refine s_nil ?_
  refine n_wp ?_
  refine w_cond rfl (fun hc_t6 => ?_) (fun hc_t6 => ?_)
  rotate_left
  · exact absurd hc_t6 (by simp)
  refine w_seq ?_
  refine c_reg (by kernel_rfl) rfl ?_
  refine s_p (by first | exact h_assign (v := .s _) rfl | exact h_assign (v := .agg _) rfl | exact h_assign (v := .tup _) rfl) ?_
  refine s_nil ?_
  refine n_wp ?_
  refine w_ret ?_
  refine r_blo ?_
  refine r_thn ?_
  exact ⟨.inl rfl, ret_tmp Tryz.results14 rfl⟩

set_option maxRecDepth 100000 in
set_option maxHeartbeats 4000000 in
theorem PMet_zero (H : Heap) (id : Nat) (bk : Blk) (h : H[id]? = some (some bk)) (hs : bk.segs = S70) (k : Int) (f t : List Int) (ps : Value) : ACall Tryz.prog 14 H [.s (.ptr id 0 0), .agg [.one (.int .u8 k), .ints .u8 16 f, .ints .u8 16 t, .one (.val ps)]] (.s (.int .i64 2)) [] := by
  refine acall_gen (args0 := [.s (.ptr 0 0 0), .agg [.one (.int .u8 k), .ints .u8 16 f, .ints .u8 16 t, .one (.val ps)]]) (H0 := [some ⟨false, S70⟩]) (vf := fun _ => (.s (.int .i64 2))) [(id, 0)] Tryz.func14 rfl Tryz.ntmps14 (by simp) rfl (foot1 rfl h (fun i x hx => by rw [Nat.zero_add, hs]; exact hx) rfl) rfl (fun i x0 x h0 h1 ρ u hr => by match i, h0, h1 with | 0, h0, h1 => (simp at h0 h1; subst h0; subst h1; exact arg_ptr (by rfl) hr) | 1, h0, h1 => (simp at h0 h1; subst h0; subst h1; exact arg_free (by rfl) hr) | i + 2, h0, _ => simp at h0) rfl (ren_free rfl) (fun W w ρ0 hW hdom => ?_)
  refine w_seq ?_
  refine c_reg (by kernel_rfl) rfl ?_
  refine s_a (by first | exact h_box_agg rfl rfl | exact h_box rfl (by simp) rfl) rfl ?_
  refine s_p (by first | exact h_assign (v := .s _) rfl | exact h_assign (v := .agg _) rfl | exact h_assign (v := .tup _) rfl) ?_
  refine s_nil ?_
  refine n_wp ?_
  refine w_seq ?_
  refine w_block ?_
  refine w_seq ?_
  refine c_reg (by kernel_rfl) rfl ?_
  refine s_p (by first | exact h_move (v := .s _) rfl | exact h_move (v := .agg _) rfl | exact h_move (v := .tup _) rfl) ?_
  refine s_p (h_call callable_51 rfl (by first | exact pthere_nil _ | exact pthere_zero _ _ _ rfl rfl)) ?_
  refine s_p (h_not rfl) ?_
  refine s_p (by first | exact h_assign (v := .s _) rfl | exact h_assign (v := .agg _) rfl | exact h_assign (v := .tup _) rfl) ?_
  refine s_nil ?_
  refine n_wp ?_
  refine w_cond rfl (fun hc_t6 => ?_) (fun hc_t6 => ?_)
  rotate_left
  · exact absurd hc_t6 (by simp)
  refine w_seq ?_
  refine c_reg (by kernel_rfl) rfl ?_
  refine s_p (by first | exact h_assign (v := .s _) rfl | exact h_assign (v := .agg _) rfl | exact h_assign (v := .tup _) rfl) ?_
  refine s_nil ?_
  refine n_wp ?_
  refine w_ret ?_
  refine r_blo ?_
  refine r_thn ?_
  exact done0 (ret_tmp Tryz.results14 rfl)

set_option maxRecDepth 100000 in
set_option maxHeartbeats 4000000 in
theorem PTick_nil (H : Heap)  : ACall Tryz.prog 15 H [.s .nilp] (.s (.int .i64 2)) [] := by
  refine acall_free Tryz.func15 rfl Tryz.ntmps15 (by simp) rfl rfl (fun W w hW => ?_) H
  refine w_seq ?_
  refine c_reg (by kernel_rfl) rfl ?_
  refine s_p (by first | exact h_assign (v := .s _) rfl | exact h_assign (v := .agg _) rfl | exact h_assign (v := .tup _) rfl) ?_
  refine s_nil ?_
  refine n_wp ?_
  refine w_seq ?_
  refine w_seq ?_
  refine c_reg (by kernel_rfl) rfl ?_
  refine s_p (by first | exact h_move (v := .s _) rfl | exact h_move (v := .agg _) rfl | exact h_move (v := .tup _) rfl) ?_
  refine s_p (h_call callable_51 rfl (by first | exact pthere_nil _ | exact pthere_zero _ _ _ rfl rfl)) ?_
  refine s_p (h_not rfl) ?_
  refine s_nil ?_
  refine n_wp ?_
  refine w_cond rfl (fun hc_t6 => ?_) (fun hc_t6 => ?_)
  rotate_left
  · exact absurd hc_t6 (by simp)
  refine w_seq ?_
  refine c_reg (by kernel_rfl) rfl ?_
  refine s_p (by first | exact h_assign (v := .s _) rfl | exact h_assign (v := .agg _) rfl | exact h_assign (v := .tup _) rfl) ?_
  refine s_nil ?_
  refine n_wp ?_
  refine w_ret ?_
  refine r_thn ?_
  exact ⟨.inl rfl, ret_tmp Tryz.results15 rfl⟩

set_option maxRecDepth 100000 in
set_option maxHeartbeats 4000000 in
theorem PTick_zero (H : Heap) (id : Nat) (bk : Blk) (h : H[id]? = some (some bk)) (hs : bk.segs = S70)  : ACall Tryz.prog 15 H [.s (.ptr id 0 0)] (.s (.int .i64 2)) [] := by
  refine acall_gen (args0 := [.s (.ptr 0 0 0)]) (H0 := [some ⟨false, S70⟩]) (vf := fun _ => (.s (.int .i64 2))) [(id, 0)] Tryz.func15 rfl Tryz.ntmps15 (by simp) rfl (foot1 rfl h (fun i x hx => by rw [Nat.zero_add, hs]; exact hx) rfl) rfl (fun i x0 x h0 h1 ρ u hr => by match i, h0, h1 with | 0, h0, h1 => (simp at h0 h1; subst h0; subst h1; exact arg_ptr (by rfl) hr) | i + 1, h0, _ => simp at h0) rfl (ren_free rfl) (fun W w ρ0 hW hdom => ?_)
  refine w_seq ?_
  refine c_reg (by kernel_rfl) rfl ?_
  refine s_p (by first | exact h_assign (v := .s _) rfl | exact h_assign (v := .agg _) rfl | exact h_assign (v := .tup _) rfl) ?_
  refine s_nil ?_
  refine n_wp ?_
  refine w_seq ?_
  refine w_seq ?_
  refine c_reg (by kernel_rfl) rfl ?_
  refine s_p (by first | exact h_move (v := .s _) rfl | exact h_move (v := .agg _) rfl | exact h_move (v := .tup _) rfl) ?_
  refine s_p (h_call callable_51 rfl (by first | exact pthere_nil _ | exact pthere_zero _ _ _ rfl rfl)) ?_
  refine s_p (h_not rfl) ?_
  refine s_nil ?_
  refine n_wp ?_
  refine w_cond rfl (fun hc_t6 => ?_) (fun hc_t6 => ?_)
  rotate_left
  · exact absurd hc_t6 (by simp)
  refine w_seq ?_
  refine c_reg (by kernel_rfl) rfl ?_
  refine s_p (by first | exact h_assign (v := .s _) rfl | exact h_assign (v := .agg _) rfl | exact h_assign (v := .tup _) rfl) ?_
  refine s_nil ?_
  refine n_wp ?_
  refine w_ret ?_
  refine r_thn ?_
  exact done0 (ret_tmp Tryz.results15 rfl)

set_option maxRecDepth 100000 in
set_option maxHeartbeats 4000000 in
theorem PSay_nil (H : Heap)  : ACall Tryz.prog 16 H [.s .nilp] (.s .nils) [] := by
  refine acall_free Tryz.func16 rfl Tryz.ntmps16 (by simp) rfl rfl (fun W w hW => ?_) H
  refine w_seq ?_
  refine c_reg (by kernel_rfl) rfl ?_
  refine s_p (by first | exact h_assign (v := .s _) rfl | exact h_assign (v := .agg _) rfl | exact h_assign (v := .tup _) rfl) ?_
  refine s_nil ?_
  refine n_wp ?_
  refine w_seq ?_
  refine w_seq ?_
  refine c_reg (by kernel_rfl) rfl ?_
  refine s_p (by first | exact h_move (v := .s _) rfl | exact h_move (v := .agg _) rfl | exact h_move (v := .tup _) rfl) ?_
  refine s_p (h_call callable_51 rfl (by first | exact pthere_nil _ | exact pthere_zero _ _ _ rfl rfl)) ?_
  refine s_p (h_not rfl) ?_
  refine s_nil ?_
  refine n_wp ?_
  refine w_cond rfl (fun hc_t6 => ?_) (fun hc_t6 => ?_)
  rotate_left
  · exact absurd hc_t6 (by simp)
  refine w_seq ?_
  refine c_reg (by kernel_rfl) rfl ?_
  refine s_p (by first | exact h_assign (v := .s _) rfl | exact h_assign (v := .agg _) rfl | exact h_assign (v := .tup _) rfl) ?_
  refine s_nil ?_
  refine n_wp ?_
  refine w_ret ?_
  refine r_thn ?_
  exact ⟨.inl rfl, ret_tmp Tryz.results16 rfl⟩

set_option maxRecDepth 100000 in
set_option maxHeartbeats 4000000 in
theorem PSay_zero (H : Heap) (id : Nat) (bk : Blk) (h : H[id]? = some (some bk)) (hs : bk.segs = S70)  : ACall Tryz.prog 16 H [.s (.ptr id 0 0)] (.s .nils) [] := by
  refine acall_gen (args0 := [.s (.ptr 0 0 0)]) (H0 := [some ⟨false, S70⟩]) (vf := fun _ => (.s .nils)) [(id, 0)] Tryz.func16 rfl Tryz.ntmps16 (by simp) rfl (foot1 rfl h (fun i x hx => by rw [Nat.zero_add, hs]; exact hx) rfl) rfl (fun i x0 x h0 h1 ρ u hr => by match i, h0, h1 with | 0, h0, h1 => (simp at h0 h1; subst h0; subst h1; exact arg_ptr (by rfl) hr) | i + 1, h0, _ => simp at h0) rfl (ren_free rfl) (fun W w ρ0 hW hdom => ?_)
  refine w_seq ?_
  refine c_reg (by kernel_rfl) rfl ?_
  refine s_p (by first | exact h_assign (v := .s _) rfl | exact h_assign (v := .agg _) rfl | exact h_assign (v := .tup _) rfl) ?_
  refine s_nil ?_
  refine n_wp ?_
  refine w_seq ?_
  refine w_seq ?_
  refine c_reg (by kernel_rfl) rfl ?_
  refine s_p (by first | exact h_move (v := .s _) rfl | exact h_move (v := .agg _) rfl | exact h_move (v := .tup _) rfl) ?_
  refine s_p (h_call callable_51 rfl (by first | exact pthere_nil _ | exact pthere_zero _ _ _ rfl rfl)) ?_
  refine s_p (h_not rfl) ?_
  refine s_nil ?_
  refine n_wp ?_
  refine w_cond rfl (fun hc_t6 => ?_) (fun hc_t6 => ?_)
  rotate_left
  · exact absurd hc_t6 (by simp)
  refine w_seq ?_
  refine c_reg (by kernel_rfl) rfl ?_
  refine s_p (by first | exact h_assign (v := .s _) rfl | exact h_assign (v := .agg _) rfl | exact h_assign (v := .tup _) rfl) ?_
  refine s_nil ?_
  refine n_wp ?_
  refine w_ret ?_
  refine r_thn ?_
  exact done0 (ret_tmp Tryz.results16 rfl)

set_option maxRecDepth 100000 in
set_option maxHeartbeats 4000000 in
theorem PState_nil (H : Heap)  : ACall Tryz.prog 17 H [.s .nilp] (.s (.int .u8 0)) [] := by
  refine acall_free Tryz.func17 rfl Tryz.ntmps17 (by simp) rfl rfl (fun W w hW => ?_) H
  refine w_seq ?_
  refine c_reg (by kernel_rfl) rfl ?_
  refine s_p (by first | exact h_assign (v := .s _) rfl | exact h_assign (v := .agg _) rfl | exact h_assign (v := .tup _) rfl) ?_
  refine s_nil ?_
  refine n_wp ?_
  refine w_seq ?_
  refine w_seq ?_
  refine c_reg (by kernel_rfl) rfl ?_
  refine s_p (by first | exact h_move (v := .s _) rfl | exact h_move (v := .agg _) rfl | exact h_move (v := .tup _) rfl) ?_
  refine s_p (h_call callable_51 rfl (by first | exact pthere_nil _ | exact pthere_zero _ _ _ rfl rfl)) ?_
  refine s_p (h_not rfl) ?_
  refine s_nil ?_
  refine n_wp ?_
  refine w_cond rfl (fun hc_t5 => ?_) (fun hc_t5 => ?_)
  rotate_left
  · exact absurd hc_t5 (by simp)
  refine w_seq ?_
  refine c_reg (by kernel_rfl) rfl ?_
  refine s_p (by first | exact h_assign (v := .s _) rfl | exact h_assign (v := .agg _) rfl | exact h_assign (v := .tup _) rfl) ?_
  refine s_nil ?_
  refine n_wp ?_
  refine w_ret ?_
  refine r_thn ?_
  exact ⟨.inl rfl, ret_tmp Tryz.results17 rfl⟩

set_option maxRecDepth 100000 in
set_option maxHeartbeats 4000000 in
theorem PState_zero (H : Heap) (id : Nat) (bk : Blk) (h : H[id]? = some (some bk)) (hs : bk.segs = S70)  : ACall Tryz.prog 17 H [.s (.ptr id 0 0)] (.s (.int .u8 0)) [] := by
  refine acall_gen (args0 := [.s (.ptr 0 0 0)]) (H0 := [some ⟨false, S70⟩]) (vf := fun _ => (.s (.int .u8 0))) [(id, 0)] Tryz.func17 rfl Tryz.ntmps17 (by simp) rfl (foot1 rfl h (fun i x hx => by rw [Nat.zero_add, hs]; exact hx) rfl) rfl (fun i x0 x h0 h1 ρ u hr => by match i, h0, h1 with | 0, h0, h1 => (simp at h0 h1; subst h0; subst h1; exact arg_ptr (by rfl) hr) | i + 1, h0, _ => simp at h0) rfl (ren_free rfl) (fun W w ρ0 hW hdom => ?_)
  refine w_seq ?_
  refine c_reg (by kernel_rfl) rfl ?_
  refine s_p (by first | exact h_assign (v := .s _) rfl | exact h_assign (v := .agg _) rfl | exact h_assign (v := .tup _) rfl) ?_
  refine s_nil ?_
  refine n_wp ?_
  refine w_seq ?_
  refine w_seq ?_
  refine c_reg (by kernel_rfl) rfl ?_
  refine s_p (by first | exact h_move (v := .s _) rfl | exact h_move (v := .agg _) rfl | exact h_move (v := .tup _) rfl) ?_
  refine s_p (h_call callable_51 rfl (by first | exact pthere_nil _ | exact pthere_zero _ _ _ rfl rfl)) ?_
  refine s_p (h_not rfl) ?_
  refine s_nil ?_
  refine n_wp ?_
  refine w_cond rfl (fun hc_t5 => ?_) (fun hc_t5 => ?_)
  rotate_left
  · exact absurd hc_t5 (by simp)
  refine w_seq ?_
  refine c_reg (by kernel_rfl) rfl ?_
  refine s_p (by first | exact h_assign (v := .s _) rfl | exact h_assign (v := .agg _) rfl | exact h_assign (v := .tup _) rfl) ?_
  refine s_nil ?_
  refine n_wp ?_
  refine w_ret ?_
  refine r_thn ?_
  exact done0 (ret_tmp Tryz.results17 rfl)

end Go.Proofs.X
