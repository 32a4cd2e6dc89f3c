/- A part of the proofs of this claim: PoolW1 (PoolW1). No conditions. -/
import Derived.Test.YthlkbpkjmkdilaaGreatAbF
import Derived.Test.YthlkbpkjmkdilaaGreatProg
set_option linter.unusedVariables false
set_option linter.unusedSimpArgs false
open Go Go.Ab Go.Proofs
namespace Go.Proofs.X
theorem mix : Tryz.prog.follows .mixedOrders = true := by kernel_rfl
theorem build0_34 (w : World) : (Instr.build 34 #[]).run Tryz.prog w = .ok (.agg (List.replicate 4 (Value.int .u64 0)).toArray) w := by kernel_rfl
theorem build0_27 (w : World) : (Instr.build 27 #[]).run Tryz.prog w = .ok (.agg ([Value.int .u8 0] ++ List.replicate 16 (Value.int .u8 0) ++ List.replicate 16 (Value.int .u8 0) ++ [Value.slice none 0 0]).toArray) w := by kernel_rfl
theorem build0_92 (w : World) : (Instr.build 92 #[]).run Tryz.prog w = .ok (.agg ([Value.int .u8 0] ++ [Value.int .u64 0] ++ List.replicate 32 (Value.int .u8 0)).toArray) w := by kernel_rfl
theorem build0_163 (w : World) : (Instr.build 163 #[]).run Tryz.prog w = .ok (.agg ([Value.int .i64 0] ++ [Value.int .i64 0] ++ List.replicate 4 (Value.int .u64 0) ++ List.replicate 4 (Value.int .u64 0) ++ [Value.int .u8 0] ++ List.replicate 16 (Value.int .u8 0) ++ List.replicate 16 (Value.int .u8 0) ++ [Value.slice none 0 0]).toArray) w := by kernel_rfl
theorem build0_40 (w : World) : (Instr.build 40 #[]).run Tryz.prog w = .ok (.agg (List.replicate 4 (Value.int .u64 0) ++ List.replicate 4 (Value.int .u64 0) ++ List.replicate 4 (Value.int .u64 0) ++ List.replicate 4 (Value.int .u64 0) ++ List.replicate 32 (Value.int .u8 0)).toArray) w := by kernel_rfl
theorem build0_84 (w : World) : (Instr.build 84 #[]).run Tryz.prog w = .ok (.agg (List.replicate 4 (Value.int .u64 0) ++ List.replicate 4 (Value.int .u64 0) ++ List.replicate 4 (Value.int .u64 0) ++ List.replicate 4 (Value.int .u64 0) ++ List.replicate 32 (Value.int .u8 0) ++ [Value.pointer none] ++ List.replicate 16 (Value.int .u8 0) ++ List.replicate 4 (Value.int .u64 0) ++ List.replicate 32 (Value.int .u8 0) ++ [Value.int .i64 0] ++ [Value.int .u64 0] ++ [Value.int .i64 0] ++ [Value.map none]).toArray) w := by kernel_rfl
def S84 : List Seg := [.ints .u64 4 (List.replicate 4 0), .ints .u64 4 (List.replicate 4 0), .ints .u64 4 (List.replicate 4 0), .ints .u64 4 (List.replicate 4 0), .ints .u8 32 (List.replicate 32 0), .one .nilp, .ints .u8 16 (List.replicate 16 0), .ints .u64 4 (List.replicate 4 0), .ints .u8 32 (List.replicate 32 0), .one (.int .i64 0), .one (.int .u64 0), .one (.int .i64 0), .one (.val (.map none))]
theorem callable_48 : Callable Tryz.prog 48 := ⟨_, Tryz.func48, by kernel_rfl, rfl⟩
theorem callable_216 : Callable Tryz.prog 216 := ⟨_, Tryz.func216, by kernel_rfl, rfl⟩
theorem callable_127 : Callable Tryz.prog 127 := ⟨_, Tryz.func127, by kernel_rfl, rfl⟩
theorem callable_47 : Callable Tryz.prog 47 := ⟨_, Tryz.func47, by kernel_rfl, rfl⟩
theorem callable_122 : Callable Tryz.prog 122 := ⟨_, Tryz.func122, by kernel_rfl, rfl⟩
theorem callable_45 : Callable Tryz.prog 45 := ⟨_, Tryz.func45, by kernel_rfl, rfl⟩
theorem callable_18 : Callable Tryz.prog 18 := ⟨_, Tryz.func18, by kernel_rfl, rfl⟩
set_option maxRecDepth 100000 in
set_option maxHeartbeats 4000000 in
theorem Of_c (H : Heap) (n : Int) : ACall Tryz.prog 48 H [.s (.int .u64 n)] (.agg [.ints .u64 4 [n, 0, 0, 0]]) [] := by
  refine acall_free Tryz.func48 rfl Tryz.ntmps48 (by simp) rfl rfl (fun W w hW => ?_) H
  refine w_seq ?_
  refine c_reg (by kernel_rfl) rfl ?_
  refine s_a (h_alloc (segs := [.ints .u64 4 (List.replicate 4 0)]) Tryz.zeroValue34 (by kernel_rfl) rfl) rfl ?_
  refine s_nil ?_
  refine n_wp ?_
  refine w_seq ?_
  refine c_reg (by kernel_rfl) rfl ?_
  refine s_p (by first | exact h_move (v := .s _) rfl | exact h_move (v := .agg _) rfl | exact h_move (v := .tup _) rfl) ?_
  refine s_p (h_ixl 0 rfl rfl rfl Tryz.underlying34 Tryz.sizeOf32 (by omega)) ?_
  refine s_st (by first | exact m_store_int rfl rfl rfl rfl (by omega) (by (exact rfl)) Tryz.sizeOf32 rfl | exact m_store_one rfl rfl (by simp) rfl rfl Tryz.sizeOf32 rfl) ?_
  refine s_nil ?_
  refine n_wp ?_
  refine w_seq ?_
  refine c_reg (by kernel_rfl) rfl ?_
  refine s_p (by first | exact h_load_agg rfl rfl (.whole rfl) Tryz.isAgg34 Tryz.sizeOf34 | exact h_load_agg rfl rfl (.seg rfl rfl) Tryz.isAgg34 Tryz.sizeOf34 | exact h_load_agg rfl rfl (.ints rfl (by omega)) Tryz.isAgg34 Tryz.sizeOf34) ?_
  refine s_st (by first | exact m_store_agg rfl rfl rfl (.whole (Nat.le_of_ble_eq_true rfl) rfl rfl) Tryz.sizeOf34 rfl | exact m_store_agg rfl rfl rfl (.seg (Nat.le_of_ble_eq_true rfl) rfl rfl rfl) Tryz.sizeOf34 rfl | exact m_store_agg rfl rfl rfl (.ints (Nat.le_of_ble_eq_true rfl) rfl (by omega)) Tryz.sizeOf34 rfl) ?_
  refine s_nil ?_
  refine n_wp ?_
  refine w_ret ?_
  exact ⟨.inl rfl, ret_cell_agg Tryz.results48 rfl rfl (.whole rfl) Tryz.isAgg34 Tryz.sizeOf34⟩

set_option maxRecDepth 100000 in
set_option maxHeartbeats 4000000 in
theorem one_c (H : Heap)  : ACall Tryz.prog 216 H [] (.agg [.ints .u64 4 [1, 0, 0, 0]]) [] := by
  refine acall_free Tryz.func216 rfl Tryz.ntmps216 (by simp) rfl rfl (fun W w hW => ?_) H
  refine w_seq ?_
  refine c_reg (by kernel_rfl) rfl ?_
  refine s_a (h_alloc (segs := [.ints .u64 4 (List.replicate 4 0)]) Tryz.zeroValue34 (by kernel_rfl) rfl) rfl ?_
  refine s_nil ?_
  refine n_wp ?_
  refine w_seq ?_
  refine c_reg (by kernel_rfl) rfl ?_
  refine s_p (h_call callable_48 rfl (Of_c _ 1)) ?_
  refine s_st (by first | exact m_store_agg rfl rfl rfl (.whole (Nat.le_of_ble_eq_true rfl) rfl rfl) Tryz.sizeOf34 rfl | exact m_store_agg rfl rfl rfl (.seg (Nat.le_of_ble_eq_true rfl) rfl rfl rfl) Tryz.sizeOf34 rfl | exact m_store_agg rfl rfl rfl (.ints (Nat.le_of_ble_eq_true rfl) rfl (by omega)) Tryz.sizeOf34 rfl) ?_
  refine s_nil ?_
  refine n_wp ?_
  refine w_ret ?_
  exact ⟨.inl rfl, ret_cell_agg Tryz.results216 rfl rfl (.whole rfl) Tryz.isAgg34 Tryz.sizeOf34⟩

def apx (L : List Int) (k : Nat) : Int := andK .u64 (shrK .u64 (L.getD (k / 2) 0) ((k % 2 * 32 : Nat) : Int)) 4294967295
def apN (L : List Int) : Nat → List Int
  | 0 => List.replicate 8 0
  | k + 1 => (apN L k).set k (apx L k)
theorem apN_len (L : List Int) (k : Nat) : (apN L k).length = 8 := by
  induction k with
  | zero => rfl
  | succ k ih => simp [apN, ih]
def I127 (L : List Int) (n : Nat) (T : Tm) (H : Heap) : Prop := ∃ k, k ≤ 8 ∧ n = 8 - k ∧ T = [(1, .s (.ptr 0 0 0)), (2, .s (.ptr 1 0 0)), (4, .s (.int .i64 ((k : Nat) : Int)))] ∧ H = [some ⟨true, [.ints .u64 4 L]⟩, some ⟨true, [.ints .u64 8 (apN L k)]⟩]
set_option maxRecDepth 100000 in
set_option maxHeartbeats 4000000 in
theorem apart_c (H : Heap) (L : List Int) : ACall Tryz.prog 127 H [.agg [.ints .u64 4 L]] (.agg [.ints .u64 8 (apN L 8)]) [] := by
  refine acall_free Tryz.func127 rfl Tryz.ntmps127 (by simp) rfl rfl (fun W w hW => ?_) H
  refine w_seq ?_
  refine c_reg (by kernel_rfl) rfl ?_
  refine s_a (by first | exact h_box_agg rfl rfl | exact h_box rfl (by simp) rfl) rfl ?_
  refine s_a (h_alloc (segs := [.ints .u64 8 (List.replicate 8 0)]) Tryz.zeroValue247 (by kernel_rfl) rfl) rfl ?_
  refine s_nil ?_
  refine n_wp ?_
  refine w_seq ?_
  refine w_seq ?_
  refine c_reg (by kernel_rfl) rfl ?_
  refine s_p (by first | exact h_move (v := .s _) rfl | exact h_move (v := .agg _) rfl | exact h_move (v := .tup _) rfl) ?_
  refine s_nil ?_
  refine n_wp ?_
  refine w_block ?_
  refine c_loop (I127 L) 8 ⟨0, by omega, rfl, rfl, rfl⟩ (weak' (by repeat (first | exact trivial | refine ⟨rfl, ?_⟩)) rfl rfl (Nat.le_of_ble_eq_true rfl)) ?_
  rintro n T H ⟨k, hk, rfl, rfl, rfl⟩
  refine w_seq ?_
  refine c_reg (by kernel_rfl) rfl ?_
  refine s_p (h_bin rfl rfl (b_lss rfl)) ?_
  refine s_nil ?_
  refine n_wp ?_
  refine w_seq ?_
  refine w_cond rfl (fun hc_t5 => ?_) (fun hc_t5 => ?_)
  · skip
    have hlt : k < 8 := by have := of_decide_eq_true hc_t5; omega
    refine w_skip ?_
    refine n_wp ?_
    refine w_seq ?_
    refine w_block ?_
    refine w_seq ?_
    refine c_reg (by kernel_rfl) rfl ?_
    refine s_p (by first | exact h_move (v := .s _) rfl | exact h_move (v := .agg _) rfl | exact h_move (v := .tup _) rfl) ?_
    refine s_p (by first | exact h_assign (v := .s _) rfl | exact h_assign (v := .agg _) rfl | exact h_assign (v := .tup _) rfl) ?_
    refine s_nil ?_
    refine n_wp ?_
    refine c_reg (by kernel_rfl) rfl ?_
    refine s_p (by first | exact h_move (v := .s _) rfl | exact h_move (v := .agg _) rfl | exact h_move (v := .tup _) rfl) ?_
    refine s_p (by first | exact h_move (v := .s _) rfl | exact h_move (v := .agg _) rfl | exact h_move (v := .tup _) rfl) ?_
    refine s_p (h_bin rfl rfl (b_quo (r := ((k / 2 : Nat) : Int)) (by omega) (by rw [show ((k : Nat) : Int).tdiv 2 = ((k / 2 : Nat) : Int) from rfl]; exact Go.IntWalk.i64_in _ (by omega)))) ?_
    refine s_p (by first | exact h_ix rfl rfl Tryz.underlying34 Tryz.sizeOf32 (by omega) | exact h_ixa rfl rfl Tryz.underlying34 Tryz.sizeOf32 (by omega) | exact h_ixl (Int.toNat _) rfl rfl (Int.toNat_of_nonneg (by omega)).symm Tryz.underlying34 Tryz.sizeOf32 (by omega)) ?_
    refine s_p (by first | exact h_load_ints rfl rfl rfl (by omega) rfl Tryz.isAgg32 | exact h_load_one rfl rfl rfl Tryz.isAgg32) ?_
    refine s_p (by first | exact h_move (v := .s _) rfl | exact h_move (v := .agg _) rfl | exact h_move (v := .tup _) rfl) ?_
    refine s_p (h_bin rfl rfl (b_rem (r := ((k % 2 : Nat) : Int)) (by omega) rfl)) ?_
    refine s_p (h_bin rfl rfl (b_mul (r := ((k % 2 * 32 : Nat) : Int)) (by rw [Go.IntWalk.i64_in _ (by omega)]; omega))) ?_
    refine s_p (h_bin rfl rfl (b_shr (by omega) rfl)) ?_
    refine s_p (h_bin rfl rfl (b_and rfl)) ?_
    refine s_p (by first | exact h_ix rfl rfl Tryz.underlying247 Tryz.sizeOf32 (by omega) | exact h_ixa rfl rfl Tryz.underlying247 Tryz.sizeOf32 (by omega) | exact h_ixl (Int.toNat _) rfl rfl (Int.toNat_of_nonneg (by omega)).symm Tryz.underlying247 Tryz.sizeOf32 (by omega)) ?_
    refine s_st (by first | exact m_store_int rfl rfl rfl rfl (by omega) (by (exact apN_len _ _)) Tryz.sizeOf32 rfl | exact m_store_one rfl rfl (by simp) rfl rfl Tryz.sizeOf32 rfl) ?_
    refine s_nil ?_
    refine n_blo ?_
    refine n_wp ?_
    refine c_reg (by kernel_rfl) rfl ?_
    refine s_p (by first | exact h_bin rfl rfl (b_add (Go.IntWalk.i64_in _ (by omega))) | exact h_bin rfl rfl (b_add rfl)) ?_
    refine s_p (by first | exact h_move (v := .s _) rfl | exact h_move (v := .agg _) rfl | exact h_move (v := .tup _) rfl) ?_
    refine s_nil ?_
    exact n_round (8 - (k + 1)) (by omega) ⟨k + 1, by omega, rfl, rfl, rfl⟩ (weak' (by repeat (first | exact trivial | refine ⟨rfl, ?_⟩)) rfl rfl (Nat.le_of_ble_eq_true rfl))
  · skip
    obtain rfl : k = 8 := by have := of_decide_eq_false hc_t5; omega
    refine w_exit ?_
    refine x_thn ?_
    refine x_thn ?_
    refine x_eq ?_
    refine n_wp ?_
    refine w_seq ?_
    refine c_reg (by kernel_rfl) rfl ?_
    refine s_p (by first | exact h_load_agg rfl rfl (.whole rfl) Tryz.isAgg247 Tryz.sizeOf247 | exact h_load_agg rfl rfl (.seg rfl rfl) Tryz.isAgg247 Tryz.sizeOf247 | exact h_load_agg rfl rfl (.ints rfl (by omega)) Tryz.isAgg247 Tryz.sizeOf247) ?_
    refine s_st (by first | exact m_store_agg rfl rfl rfl (.whole (Nat.le_of_ble_eq_true rfl) rfl rfl) Tryz.sizeOf247 rfl | exact m_store_agg rfl rfl rfl (.seg (Nat.le_of_ble_eq_true rfl) rfl rfl rfl) Tryz.sizeOf247 rfl | exact m_store_agg rfl rfl rfl (.ints (Nat.le_of_ble_eq_true rfl) rfl (by omega)) Tryz.sizeOf247 rfl) ?_
    refine s_nil ?_
    refine n_wp ?_
    refine w_ret ?_
    exact ⟨.inl rfl, ret_cell_agg Tryz.results127 rfl rfl (.whole rfl) Tryz.isAgg247 Tryz.sizeOf247⟩

theorem apart_z (H : Heap) : ACall Tryz.prog 127 H [.agg [.ints .u64 4 [0, 0, 0, 0]]] (.agg [.ints .u64 8 [0, 0, 0, 0, 0, 0, 0, 0]]) [] := by
  have h : apN [0, 0, 0, 0] 8 = [0, 0, 0, 0, 0, 0, 0, 0] := by decide +kernel
  have k := apart_c H [0, 0, 0, 0]
  rwa [h] at k
theorem apart_o (H : Heap) : ACall Tryz.prog 127 H [.agg [.ints .u64 4 [1, 0, 0, 0]]] (.agg [.ints .u64 8 [1, 0, 0, 0, 0, 0, 0, 0]]) [] := by
  have h : apN [1, 0, 0, 0] 8 = [1, 0, 0, 0, 0, 0, 0, 0] := by decide +kernel
  have k := apart_c H [1, 0, 0, 0]
  rwa [h] at k
def I47 (n : Nat) (T : Tm) (H : Heap) : Prop := n < 8 ∧ T = [(5, .s (.ptr 2 0 0)), (6, .s (.ptr 3 0 0)), (7, .s (.int .i64 ((n : Nat) : Int)))] ∧ H = [some ⟨true, [.ints .u64 4 [0, 0, 0, 0]]⟩, some ⟨true, [.ints .u64 4 [1, 0, 0, 0]]⟩, some ⟨true, [.ints .u64 8 [0, 0, 0, 0, 0, 0, 0, 0]]⟩, some ⟨true, [.ints .u64 8 [1, 0, 0, 0, 0, 0, 0, 0]]⟩]
theorem zzoo : ∀ n, n < 8 → ((([0, 0, 0, 0, 0, 0, 0, 0] : List Int).getD n 0 = ([1, 0, 0, 0, 0, 0, 0, 0] : List Int).getD n 0) ↔ n ≠ 0) := by decide
set_option maxRecDepth 100000 in
set_option maxHeartbeats 4000000 in
theorem Cmp_zo (H : Heap)  : ACall Tryz.prog 47 H [.agg [.ints .u64 4 [0, 0, 0, 0]], .agg [.ints .u64 4 [1, 0, 0, 0]]] (.s (.int .i64 (-1))) [] := by
  refine acall_free Tryz.func47 rfl Tryz.ntmps47 (by simp) rfl rfl (fun W w hW => ?_) H
  refine w_seq ?_
  refine c_reg (by kernel_rfl) rfl ?_
  refine s_a (by first | exact h_box_agg rfl rfl | exact h_box rfl (by simp) rfl) rfl ?_
  refine s_a (by first | exact h_box_agg rfl rfl | exact h_box rfl (by simp) rfl) rfl ?_
  refine s_p (by first | exact h_assign (v := .s _) rfl | exact h_assign (v := .agg _) rfl | exact h_assign (v := .tup _) rfl) ?_
  refine s_nil ?_
  refine n_wp ?_
  refine w_seq ?_
  refine c_any 6 mix (by kernel_rfl) (by kernel_rfl) rfl rfl rfl ?_
  refine t_p (by first | exact h_load_agg rfl rfl (.whole rfl) Tryz.isAgg34 Tryz.sizeOf34 | exact h_load_agg rfl rfl (.seg rfl rfl) Tryz.isAgg34 Tryz.sizeOf34 | exact h_load_agg rfl rfl (.ints rfl (by omega)) Tryz.isAgg34 Tryz.sizeOf34) ?_
  refine t_p (h_call callable_127 rfl (apart_z _)) ?_
  refine t_p (by first | exact h_load_agg rfl rfl (.whole rfl) Tryz.isAgg34 Tryz.sizeOf34 | exact h_load_agg rfl rfl (.seg rfl rfl) Tryz.isAgg34 Tryz.sizeOf34 | exact h_load_agg rfl rfl (.ints rfl (by omega)) Tryz.isAgg34 Tryz.sizeOf34) ?_
  refine t_p (h_call callable_127 rfl (apart_o _)) ?_
  refine t_a (h_alloc (segs := [.ints .u64 8 (List.replicate 8 0)]) Tryz.zeroValue247 (by kernel_rfl) rfl) rfl ?_
  refine t_a (h_alloc (segs := [.ints .u64 8 (List.replicate 8 0)]) Tryz.zeroValue247 (by kernel_rfl) rfl) rfl ?_
  refine t_nil ?_
  refine s_st (by first | exact m_store_agg rfl rfl rfl (.whole (Nat.le_of_ble_eq_true rfl) rfl rfl) Tryz.sizeOf247 rfl | exact m_store_agg rfl rfl rfl (.seg (Nat.le_of_ble_eq_true rfl) rfl rfl rfl) Tryz.sizeOf247 rfl | exact m_store_agg rfl rfl rfl (.ints (Nat.le_of_ble_eq_true rfl) rfl (by omega)) Tryz.sizeOf247 rfl) ?_
  refine s_st (by first | exact m_store_agg rfl rfl rfl (.whole (Nat.le_of_ble_eq_true rfl) rfl rfl) Tryz.sizeOf247 rfl | exact m_store_agg rfl rfl rfl (.seg (Nat.le_of_ble_eq_true rfl) rfl rfl rfl) Tryz.sizeOf247 rfl | exact m_store_agg rfl rfl rfl (.ints (Nat.le_of_ble_eq_true rfl) rfl (by omega)) Tryz.sizeOf247 rfl) ?_
  refine s_nil ?_
  refine n_wp ?_
  refine w_seq ?_
  refine w_seq ?_
  refine c_reg (by kernel_rfl) rfl ?_
  refine s_p (by first | exact h_load_agg rfl rfl (.whole rfl) Tryz.isAgg247 Tryz.sizeOf247 | exact h_load_agg rfl rfl (.seg rfl rfl) Tryz.isAgg247 Tryz.sizeOf247 | exact h_load_agg rfl rfl (.ints rfl (by omega)) Tryz.isAgg247 Tryz.sizeOf247) ?_
  refine s_p (by first | exact h_load_agg rfl rfl (.whole rfl) Tryz.isAgg247 Tryz.sizeOf247 | exact h_load_agg rfl rfl (.seg rfl rfl) Tryz.isAgg247 Tryz.sizeOf247 | exact h_load_agg rfl rfl (.ints rfl (by omega)) Tryz.isAgg247 Tryz.sizeOf247) ?_
  refine s_p (h_litb (r := .bool false) (z := .bool false) rfl rfl rfl rfl (fun w => by kernel_rfl) (fun w => by kernel_rfl) rfl rfl) ?_
  refine s_nil ?_
  refine n_wp ?_
  refine w_cond rfl (fun hc_t14 => ?_) (fun hc_t14 => ?_)
  · exact absurd hc_t14 (by simp)
  refine w_skip ?_
  refine n_wp ?_
  refine w_seq ?_
  refine c_reg (by kernel_rfl) rfl ?_
  refine s_p (by first | exact h_assign (v := .s _) rfl | exact h_assign (v := .agg _) rfl | exact h_assign (v := .tup _) rfl) ?_
  refine s_nil ?_
  refine n_wp ?_
  refine w_seq ?_
  refine w_block ?_
  refine c_loop (I47) 7 ⟨by omega, rfl, rfl⟩ (weak' (by repeat (first | exact trivial | refine ⟨rfl, ?_⟩)) rfl rfl (Nat.le_of_ble_eq_true rfl)) ?_
  rintro n T H ⟨hn, rfl, rfl⟩
  refine w_seq ?_
  refine w_seq ?_
  refine c_any 6 mix (by kernel_rfl) (by kernel_rfl) rfl rfl rfl ?_
  refine t_p (by first | exact h_move (v := .s _) rfl | exact h_move (v := .agg _) rfl | exact h_move (v := .tup _) rfl) ?_
  refine t_p (by first | exact h_ix rfl rfl Tryz.underlying247 Tryz.sizeOf32 (by omega) | exact h_ixa rfl rfl Tryz.underlying247 Tryz.sizeOf32 (by omega) | exact h_ixl (Int.toNat _) rfl rfl (Int.toNat_of_nonneg (by omega)).symm Tryz.underlying247 Tryz.sizeOf32 (by omega)) ?_
  refine t_p (by first | exact h_load_ints rfl rfl rfl (by omega) rfl Tryz.isAgg32 | exact h_load_one rfl rfl rfl Tryz.isAgg32) ?_
  refine t_p (by first | exact h_move (v := .s _) rfl | exact h_move (v := .agg _) rfl | exact h_move (v := .tup _) rfl) ?_
  refine t_p (by first | exact h_ix rfl rfl Tryz.underlying247 Tryz.sizeOf32 (by omega) | exact h_ixa rfl rfl Tryz.underlying247 Tryz.sizeOf32 (by omega) | exact h_ixl (Int.toNat _) rfl rfl (Int.toNat_of_nonneg (by omega)).symm Tryz.underlying247 Tryz.sizeOf32 (by omega)) ?_
  refine t_p (by first | exact h_load_ints rfl rfl rfl (by omega) rfl Tryz.isAgg32 | exact h_load_one rfl rfl rfl Tryz.isAgg32) ?_
  refine t_nil ?_
  refine s_p (h_bin rfl rfl (b_eql rfl)) ?_
  refine s_nil ?_
  refine n_wp ?_
  refine w_cond rfl (fun hc_t21 => ?_) (fun hc_t21 => ?_)
  · skip
    have hn0 : n ≠ 0 := (zzoo n hn).1 (of_decide_eq_true hc_t21)
    refine w_skip ?_
    refine n_wp ?_
    refine w_block ?_
    refine c_reg (by kernel_rfl) rfl ?_
    refine s_p (by first | exact h_move (v := .s _) rfl | exact h_move (v := .agg _) rfl | exact h_move (v := .tup _) rfl) ?_
    refine s_p (h_bin rfl rfl (b_sub (r := ((n - 1 : Nat) : Int)) (by rw [Go.IntWalk.i64_in _ (by omega)]; omega))) ?_
    refine s_p (by first | exact h_assign (v := .s _) rfl | exact h_assign (v := .agg _) rfl | exact h_assign (v := .tup _) rfl) ?_
    refine s_nil ?_
    refine n_blo ?_
    exact n_round (n - 1) (by omega) ⟨by omega, rfl, rfl⟩ (weak' (by repeat (first | exact trivial | refine ⟨rfl, ?_⟩)) rfl rfl (Nat.le_of_ble_eq_true rfl))
  · skip
    obtain rfl : n = 0 := Classical.byContradiction fun h => of_decide_eq_false hc_t21 ((zzoo n hn).2 h)
    refine w_exit ?_
    refine x_thn ?_
    refine x_thn ?_
    refine x_eq ?_
    refine n_wp ?_
    refine w_seq ?_
    refine w_seq ?_
    refine c_any 6 mix (by kernel_rfl) (by kernel_rfl) rfl rfl rfl ?_
    refine t_p (by first | exact h_move (v := .s _) rfl | exact h_move (v := .agg _) rfl | exact h_move (v := .tup _) rfl) ?_
    refine t_p (by first | exact h_ix rfl rfl Tryz.underlying247 Tryz.sizeOf32 (by omega) | exact h_ixa rfl rfl Tryz.underlying247 Tryz.sizeOf32 (by omega) | exact h_ixl (Int.toNat _) rfl rfl (Int.toNat_of_nonneg (by omega)).symm Tryz.underlying247 Tryz.sizeOf32 (by omega)) ?_
    refine t_p (by first | exact h_load_ints rfl rfl rfl (by omega) rfl Tryz.isAgg32 | exact h_load_one rfl rfl rfl Tryz.isAgg32) ?_
    refine t_p (by first | exact h_move (v := .s _) rfl | exact h_move (v := .agg _) rfl | exact h_move (v := .tup _) rfl) ?_
    refine t_p (by first | exact h_ix rfl rfl Tryz.underlying247 Tryz.sizeOf32 (by omega) | exact h_ixa rfl rfl Tryz.underlying247 Tryz.sizeOf32 (by omega) | exact h_ixl (Int.toNat _) rfl rfl (Int.toNat_of_nonneg (by omega)).symm Tryz.underlying247 Tryz.sizeOf32 (by omega)) ?_
    refine t_p (by first | exact h_load_ints rfl rfl rfl (by omega) rfl Tryz.isAgg32 | exact h_load_one rfl rfl rfl Tryz.isAgg32) ?_
    refine t_nil ?_
    refine s_p (h_bin rfl rfl (b_lss rfl)) ?_
    refine s_nil ?_
    refine n_wp ?_
    refine w_cond rfl (fun hc_t30 => ?_) (fun hc_t30 => ?_)
    rotate_left
    · exact absurd hc_t30 (by intro h; exact absurd (of_decide_eq_false h) (by decide))
    refine w_seq ?_
    refine c_reg (by kernel_rfl) rfl ?_
    refine s_p (by first | exact h_assign (v := .s _) rfl | exact h_assign (v := .agg _) rfl | exact h_assign (v := .tup _) rfl) ?_
    refine s_nil ?_
    refine n_wp ?_
    refine w_ret ?_
    refine r_thn ?_
    exact ⟨.inl rfl, ret_tmp Tryz.results47 rfl⟩

set_option maxRecDepth 100000 in
set_option maxHeartbeats 4000000 in
theorem Fine_z (H : Heap)  : ACall Tryz.prog 122 H [.agg [.ints .u64 4 (List.replicate 4 0), .ints .u64 4 (List.replicate 4 0), .ints .u64 4 (List.replicate 4 0)]] (.s (.bool false)) [] := by
  refine acall_free Tryz.func122 rfl Tryz.ntmps122 (by simp) rfl rfl (fun W w hW => ?_) H
  refine w_seq ?_
  refine c_reg (by kernel_rfl) rfl ?_
  refine s_a (by first | exact h_box_agg rfl rfl | exact h_box rfl (by simp) rfl) rfl ?_
  refine s_p (by first | exact h_assign (v := .s _) rfl | exact h_assign (v := .agg _) rfl | exact h_assign (v := .tup _) rfl) ?_
  refine s_nil ?_
  refine n_wp ?_
  refine w_seq ?_
  refine c_any 15 mix (by kernel_rfl) (by kernel_rfl) rfl rfl rfl ?_
  refine t_p (h_field rfl Tryz.underlying36 rfl Tryz.sizeOf34 (by decide)) ?_
  refine t_p (by first | exact h_load_agg rfl rfl (.whole rfl) Tryz.isAgg34 Tryz.sizeOf34 | exact h_load_agg rfl rfl (.seg rfl rfl) Tryz.isAgg34 Tryz.sizeOf34 | exact h_load_agg rfl rfl (.ints rfl (by omega)) Tryz.isAgg34 Tryz.sizeOf34) ?_
  refine t_p (h_call callable_216 rfl (one_c _)) ?_
  refine t_p (h_call callable_47 rfl (Cmp_zo _)) ?_
  refine t_p (h_bin rfl rfl (b_gtr rfl)) ?_
  refine t_p (by first | exact h_move (v := .s _) rfl | exact h_move (v := .agg _) rfl | exact h_move (v := .tup _) rfl) ?_
  first | refine t_on rfl rfl (by first | rfl | assumption) (h_field rfl Tryz.underlying36 rfl Tryz.sizeOf34 (by decide)) ?_ | refine t_off rfl rfl (by first | rfl | assumption) ?_
  first | refine t_on rfl rfl (by first | rfl | assumption) (by first | exact h_load_agg rfl rfl (.whole rfl) Tryz.isAgg34 Tryz.sizeOf34 | exact h_load_agg rfl rfl (.seg rfl rfl) Tryz.isAgg34 Tryz.sizeOf34 | exact h_load_agg rfl rfl (.ints rfl (by omega)) Tryz.isAgg34 Tryz.sizeOf34) ?_ | refine t_off rfl rfl (by first | rfl | assumption) ?_
  first | refine t_on rfl rfl (by first | rfl | assumption) (h_call callable_216 rfl (CALL216)) ?_ | refine t_off rfl rfl (by first | rfl | assumption) ?_
  first | refine t_on rfl rfl (by first | rfl | assumption) (h_litb (r := .bool false) (z := .bool false) rfl rfl rfl rfl (fun w => by kernel_rfl) (fun w => by kernel_rfl) rfl rfl) ?_ | refine t_off rfl rfl (by first | rfl | assumption) ?_
  refine t_p (by first | exact h_pick_t rfl (by first | rfl | assumption) rfl | exact h_pick_f rfl (by first | rfl | assumption) rfl) ?_
  refine t_p (by first | exact h_move (v := .s _) rfl | exact h_move (v := .agg _) rfl | exact h_move (v := .tup _) rfl) ?_
  first | refine t_on rfl rfl (by first | rfl | assumption) (by first | exact h_load_agg rfl rfl (.whole rfl) Tryz.isAgg36 Tryz.sizeOf36 | exact h_load_agg rfl rfl (.seg rfl rfl) Tryz.isAgg36 Tryz.sizeOf36 | exact h_load_agg rfl rfl (.ints rfl (by omega)) Tryz.isAgg36 Tryz.sizeOf36) ?_ | refine t_off rfl rfl (by first | rfl | assumption) ?_
  first | refine t_on rfl rfl (by first | rfl | assumption) (h_field rfl Tryz.underlying36 rfl Tryz.sizeOf34 (by decide)) ?_ | refine t_off rfl rfl (by first | rfl | assumption) ?_
  first | refine t_on rfl rfl (by first | rfl | assumption) (by first | exact h_load_agg rfl rfl (.whole rfl) Tryz.isAgg34 Tryz.sizeOf34 | exact h_load_agg rfl rfl (.seg rfl rfl) Tryz.isAgg34 Tryz.sizeOf34 | exact h_load_agg rfl rfl (.ints rfl (by omega)) Tryz.isAgg34 Tryz.sizeOf34) ?_ | refine t_off rfl rfl (by first | rfl | assumption) ?_
  refine t_nil ?_
  first | refine s_on rfl rfl (by first | rfl | assumption) (h_call callable_217 rfl (CALL217)) ?_ | refine s_off rfl rfl (by first | rfl | assumption) ?_
  refine s_p (by first | exact h_pick_t rfl (by first | rfl | assumption) rfl | exact h_pick_f rfl (by first | rfl | assumption) rfl) ?_
  refine s_p (by first | exact h_assign (v := .s _) rfl | exact h_assign (v := .agg _) rfl | exact h_assign (v := .tup _) rfl) ?_
  refine s_nil ?_
  refine n_wp ?_
  refine w_ret ?_
  exact ⟨.inl rfl, ret_tmp Tryz.results122 rfl⟩

set_option maxRecDepth 100000 in
set_option maxHeartbeats 4000000 in
theorem Key_z (H : Heap)  : ACall Tryz.prog 45 H [.agg [.ints .u64 4 (List.replicate 4 0), .ints .u64 4 (List.replicate 4 0), .ints .u64 4 (List.replicate 4 0)], .agg [.ints .u64 4 (List.replicate 4 0)]] (.tup [.agg [.ints .u64 4 (List.replicate 4 0)], .s (.int .i64 1)]) [] := by
  refine acall_free Tryz.func45 rfl Tryz.ntmps45 (by simp) rfl rfl (fun W w hW => ?_) H
  refine w_seq ?_
  refine c_reg (by kernel_rfl) rfl ?_
  refine s_a (by first | exact h_box_agg rfl rfl | exact h_box rfl (by simp) rfl) rfl ?_
  refine s_a (by first | exact h_box_agg rfl rfl | exact h_box rfl (by simp) rfl) rfl ?_
  refine s_a (h_alloc (segs := [.ints .u64 4 (List.replicate 4 0)]) Tryz.zeroValue34 (by kernel_rfl) rfl) rfl ?_
  refine s_p (by first | exact h_assign (v := .s _) rfl | exact h_assign (v := .agg _) rfl | exact h_assign (v := .tup _) rfl) ?_
  refine s_nil ?_
  refine n_wp ?_
  refine w_seq ?_
  refine w_seq ?_
  refine c_any 14 mix (by kernel_rfl) (by kernel_rfl) rfl rfl rfl ?_
  refine t_p (by first | exact h_load_agg rfl rfl (.whole rfl) Tryz.isAgg36 Tryz.sizeOf36 | exact h_load_agg rfl rfl (.seg rfl rfl) Tryz.isAgg36 Tryz.sizeOf36 | exact h_load_agg rfl rfl (.ints rfl (by omega)) Tryz.isAgg36 Tryz.sizeOf36) ?_
  refine t_p (h_call callable_122 rfl (Fine_z _)) ?_
  refine t_p (h_not rfl) ?_
  refine t_p (by first | exact h_move (v := .s _) rfl | exact h_move (v := .agg _) rfl | exact h_move (v := .tup _) rfl) ?_
  first | refine t_on rfl rfl (by first | rfl | assumption) (by first | exact h_load_agg rfl rfl (.whole rfl) Tryz.isAgg34 Tryz.sizeOf34 | exact h_load_agg rfl rfl (.seg rfl rfl) Tryz.isAgg34 Tryz.sizeOf34 | exact h_load_agg rfl rfl (.ints rfl (by omega)) Tryz.isAgg34 Tryz.sizeOf34) ?_ | refine t_off rfl rfl (by first | rfl | assumption) ?_
  first | refine t_on rfl rfl (by first | rfl | assumption) (h_call callable_48 rfl (CALL48)) ?_ | refine t_off rfl rfl (by first | rfl | assumption) ?_
  first | refine t_on rfl rfl (by first | rfl | assumption) (h_litb (r := .bool true) (z := .bool true) rfl rfl rfl rfl (fun w => by kernel_rfl) (fun w => by kernel_rfl) rfl rfl) ?_ | refine t_off rfl rfl (by first | rfl | assumption) ?_
  refine t_p (by first | exact h_pick_t rfl (by first | rfl | assumption) rfl | exact h_pick_f rfl (by first | rfl | assumption) rfl) ?_
  refine t_p (by first | exact h_move (v := .s _) rfl | exact h_move (v := .agg _) rfl | exact h_move (v := .tup _) rfl) ?_
  first | refine t_on rfl rfl (by first | rfl | assumption) (h_field rfl Tryz.underlying36 rfl Tryz.sizeOf34 (by decide)) ?_ | refine t_off rfl rfl (by first | rfl | assumption) ?_
  first | refine t_on rfl rfl (by first | rfl | assumption) (by first | exact h_load_agg rfl rfl (.whole rfl) Tryz.isAgg34 Tryz.sizeOf34 | exact h_load_agg rfl rfl (.seg rfl rfl) Tryz.isAgg34 Tryz.sizeOf34 | exact h_load_agg rfl rfl (.ints rfl (by omega)) Tryz.isAgg34 Tryz.sizeOf34) ?_ | refine t_off rfl rfl (by first | rfl | assumption) ?_
  first | refine t_on rfl rfl (by first | rfl | assumption) (h_call callable_123 rfl (CALL123)) ?_ | refine t_off rfl rfl (by first | rfl | assumption) ?_
  first | refine t_on rfl rfl (by first | rfl | assumption) (by first | exact h_load_agg rfl rfl (.whole rfl) Tryz.isAgg34 Tryz.sizeOf34 | exact h_load_agg rfl rfl (.seg rfl rfl) Tryz.isAgg34 Tryz.sizeOf34 | exact h_load_agg rfl rfl (.ints rfl (by omega)) Tryz.isAgg34 Tryz.sizeOf34) ?_ | refine t_off rfl rfl (by first | rfl | assumption) ?_
  first | refine t_on_a rfl rfl (by first | rfl | assumption) (h_bsl2 rfl rfl (by simp) (by simp) Tryz.underlying363 Tryz.sizeOfE Tryz.zeroValueE rfl) rfl ?_ | refine t_off rfl rfl (by first | rfl | assumption) ?_
  refine t_nil ?_
  first | refine s_on rfl rfl (by first | rfl | assumption) (TODO_call) ?_ | refine s_off rfl rfl (by first | rfl | assumption) ?_
  first | refine s_on rfl rfl (by first | rfl | assumption) (h_not rfl) ?_ | refine s_off rfl rfl (by first | rfl | assumption) ?_
  refine s_p (by first | exact h_pick_t rfl (by first | rfl | assumption) rfl | exact h_pick_f rfl (by first | rfl | assumption) rfl) ?_
  refine s_nil ?_
  refine n_wp ?_
  refine w_cond rfl (fun hc_t22 => ?_) (fun hc_t22 => ?_)
  rotate_left
  · exact absurd hc_t22 (by simp)
  refine w_seq ?_
  refine c_reg (by kernel_rfl) rfl ?_
  refine s_p (h_build0 (segs := [.ints .u64 4 (List.replicate 4 0)]) build0_34 (by kernel_rfl)) ?_
  refine s_st (by first | exact m_store_agg rfl rfl rfl (.whole (Nat.le_of_ble_eq_true rfl) rfl rfl) Tryz.sizeOf34 rfl | exact m_store_agg rfl rfl rfl (.seg (Nat.le_of_ble_eq_true rfl) rfl rfl rfl) Tryz.sizeOf34 rfl | exact m_store_agg rfl rfl rfl (.ints (Nat.le_of_ble_eq_true rfl) rfl (by omega)) Tryz.sizeOf34 rfl) ?_
  refine s_p (by first | exact h_assign (v := .s _) rfl | exact h_assign (v := .agg _) rfl | exact h_assign (v := .tup _) rfl) ?_
  refine s_nil ?_
  refine n_wp ?_
  refine w_ret ?_
  refine r_thn ?_
  exact ⟨.inl rfl, ret_cell_tmp Tryz.results45 rfl rfl (.whole rfl) Tryz.isAgg34 Tryz.sizeOf34 rfl⟩

set_option maxRecDepth 100000 in
set_option maxHeartbeats 4000000 in
theorem New_z (H : Heap)  : ACall Tryz.prog 18 H [.agg [.ints .u64 4 (List.replicate 4 0), .ints .u64 4 (List.replicate 4 0), .ints .u64 4 (List.replicate 4 0), .ints .u64 4 (List.replicate 4 0), .ints .u8 32 (List.replicate 32 0)], .s .nilp] (.tup [.s .nilp, .s (.int .i64 1)]) [] := by
  refine acall_free Tryz.func18 rfl Tryz.ntmps18 (by simp) rfl rfl (fun W w hW => ?_) H
  refine w_seq ?_
  refine c_reg (by kernel_rfl) rfl ?_
  refine s_a (by first | exact h_box_agg rfl rfl | exact h_box rfl (by simp) rfl) rfl ?_
  refine s_p (by first | exact h_assign (v := .s _) rfl | exact h_assign (v := .agg _) rfl | exact h_assign (v := .tup _) rfl) ?_
  refine s_p (by first | exact h_assign (v := .s _) rfl | exact h_assign (v := .agg _) rfl | exact h_assign (v := .tup _) rfl) ?_
  refine s_nil ?_
  refine n_wp ?_
  refine w_seq ?_
  refine c_reg (by kernel_rfl) rfl ?_
  refine s_p (h_field rfl Tryz.underlying40 rfl Tryz.sizeOf36 (by decide)) ?_
  refine s_p (h_load_agg rfl rfl (SubS.two rfl rfl (SubS.two rfl rfl (.seg rfl rfl))) Tryz.isAgg36 Tryz.sizeOf36) ?_
  refine s_p (h_field rfl Tryz.underlying40 rfl Tryz.sizeOf34 (by decide)) ?_
  refine s_p (by first | exact h_load_agg rfl rfl (.whole rfl) Tryz.isAgg34 Tryz.sizeOf34 | exact h_load_agg rfl rfl (.seg rfl rfl) Tryz.isAgg34 Tryz.sizeOf34 | exact h_load_agg rfl rfl (.ints rfl (by omega)) Tryz.isAgg34 Tryz.sizeOf34) ?_
  refine s_p (h_call callable_45 rfl (Key_z _)) ?_
  refine s_p (by first | exact h_move (v := .s _) rfl | exact h_move (v := .agg _) rfl | exact h_move (v := .tup _) rfl) ?_
  refine s_p (h_extract rfl rfl (by simp)) ?_
  refine s_p (h_extract rfl rfl (by simp)) ?_
  refine s_a (h_alloc (segs := [.ints .u64 4 (List.replicate 4 0)]) Tryz.zeroValue34 (by kernel_rfl) rfl) rfl ?_
  refine s_st (by first | exact m_store_agg rfl rfl rfl (.whole (Nat.le_of_ble_eq_true rfl) rfl rfl) Tryz.sizeOf34 rfl | exact m_store_agg rfl rfl rfl (.seg (Nat.le_of_ble_eq_true rfl) rfl rfl rfl) Tryz.sizeOf34 rfl | exact m_store_agg rfl rfl rfl (.ints (Nat.le_of_ble_eq_true rfl) rfl (by omega)) Tryz.sizeOf34 rfl) ?_
  refine s_p (by first | exact h_assign (v := .s _) rfl | exact h_assign (v := .agg _) rfl | exact h_assign (v := .tup _) rfl) ?_
  refine s_nil ?_
  refine n_wp ?_
  refine w_seq ?_
  refine w_block ?_
  refine w_seq ?_
  refine c_any 7 mix (by kernel_rfl) (by kernel_rfl) rfl rfl rfl ?_
  refine t_p (by first | exact h_move (v := .s _) rfl | exact h_move (v := .agg _) rfl | exact h_move (v := .tup _) rfl) ?_
  refine t_p (h_bin rfl rfl (b_neq rfl)) ?_
  refine t_p (by first | exact h_move (v := .s _) rfl | exact h_move (v := .agg _) rfl | exact h_move (v := .tup _) rfl) ?_
  first | refine t_on rfl rfl (by first | rfl | assumption) (h_field rfl Tryz.underlying40 rfl Tryz.sizeOf36 (by decide)) ?_ | refine t_off rfl rfl (by first | rfl | assumption) ?_
  first | refine t_on rfl rfl (by first | rfl | assumption) (h_field rfl Tryz.underlying36 rfl Tryz.sizeOf34 (by decide)) ?_ | refine t_off rfl rfl (by first | rfl | assumption) ?_
  first | refine t_on rfl rfl (by first | rfl | assumption) (by first | exact h_load_agg rfl rfl (.whole rfl) Tryz.isAgg34 Tryz.sizeOf34 | exact h_load_agg rfl rfl (.seg rfl rfl) Tryz.isAgg34 Tryz.sizeOf34 | exact h_load_agg rfl rfl (.ints rfl (by omega)) Tryz.isAgg34 Tryz.sizeOf34) ?_ | refine t_off rfl rfl (by first | rfl | assumption) ?_
  first | refine t_on rfl rfl (by first | rfl | assumption) (h_call callable_48 rfl (CALL48)) ?_ | refine t_off rfl rfl (by first | rfl | assumption) ?_
  refine t_nil ?_
  first | refine s_on rfl rfl (by first | rfl | assumption) (h_call callable_47 rfl (CALL47)) ?_ | refine s_off rfl rfl (by first | rfl | assumption) ?_
  first | refine s_on rfl rfl (by first | rfl | assumption) (h_bin rfl rfl (b_lss rfl)) ?_ | refine s_off rfl rfl (by first | rfl | assumption) ?_
  refine s_p (by first | exact h_pick_t rfl (by first | rfl | assumption) rfl | exact h_pick_f rfl (by first | rfl | assumption) rfl) ?_
  refine s_p (by first | exact h_assign (v := .s _) rfl | exact h_assign (v := .agg _) rfl | exact h_assign (v := .tup _) rfl) ?_
  refine s_nil ?_
  refine n_wp ?_
  refine w_cond rfl (fun hc_t17 => ?_) (fun hc_t17 => ?_)
  rotate_left
  · exact absurd hc_t17 (by simp)
  refine w_seq ?_
  refine c_reg (by kernel_rfl) rfl ?_
  refine s_p (by first | exact h_assign (v := .s _) rfl | exact h_assign (v := .agg _) rfl | exact h_assign (v := .tup _) rfl) ?_
  refine s_p (by first | exact h_assign (v := .s _) rfl | exact h_assign (v := .agg _) rfl | exact h_assign (v := .tup _) rfl) ?_
  refine s_nil ?_
  refine n_wp ?_
  refine w_ret ?_
  refine r_blo ?_
  refine r_thn ?_
  exact ⟨.inl rfl, ret_tmps2 Tryz.results18 rfl rfl⟩

end Go.Proofs.X
