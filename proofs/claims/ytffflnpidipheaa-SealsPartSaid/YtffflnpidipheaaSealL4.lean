/- A part of the proofs of this claim: SealL4 (SealL4). No conditions. -/
import Derived.Test.YtffflnpidipheaaSealL1
import Derived.Test.YtffflnpidipheaaSameW
set_option linter.unusedVariables false
set_option linter.unusedSimpArgs false
open Go Go.Ab Go.Proofs
namespace Go.Proofs.X
theorem callable_12 : Callable Try.prog 12 := ⟨_, Try.func12, by kernel_rfl, rfl⟩
def J12ss (M C X Y : List Int) (l n : Nat) (len0 cap0 : Nat) (B0 : List Int) (len1 cap1 : Nat) (B1 : List Int) (nn : Nat) (q : Nat) (T : Tm) (H : Heap) : Prop := ∃ i, i ≤ nn ∧ q = nn - i ∧
  T = [(1, .s (.slice 0 0 0 len0 cap0)), (2, .s (.slice 1 0 0 len1 cap1)), (3, .s (.ptr 2 0 0)), (7, .s (.int .i64 ((nn : Nat) : Int))), (8, .s (.slice 3 0 0 (29 + nn) (29 + nn))), (10, .s (.slice 4 0 0 (29 + nn) (29 + nn))), (12, .s (.int .i64 ((i : Nat) : Int)))] ∧ H = [some ⟨false, [.ints .u8 len0 B0]⟩, some ⟨false, [.ints .u8 len1 B1]⟩, some ⟨true, [.ints .u8 32 M, .ints .u8 16 C, .one (.int .u32 ((l : Nat) : Int)), .one (.int .u64 ((n : Nat) : Int))]⟩, some ⟨true, [.ints .u8 (29 + nn) X]⟩, some ⟨true, [.ints .u8 (29 + nn) Y]⟩]
set_option maxRecDepth 100000 in
set_option maxHeartbeats 2000000 in
theorem part_ss (M C : List Int) (l n : Nat) (hM : M.length = 32) (hC : C.length = 16) (hC8 : U8 C) (hl : l < 4294967296) (hn : n < 18446744073709551616) (len0 cap0 : Nat) (B0 : List Int) (len1 cap1 : Nat) (B1 : List Int) (nn : Nat) (hB0 : B0.length = len0) (hc0 : len0 ≤ cap0) (hp0 : 0 < len0) (hB1 : B1.length = len1) (hc1 : len1 ≤ cap1) (hp1 : 0 < len1)  (hnn : nn = min (min len0 len1) 2019) (c : Code) (hc : Try.f12.body = some c) (W : Nat → Prop) (w : World) (ρ0 : Rho) (hW : ∀ b, w.heap.size ≤ b → W b) (hdom : ∀ id, 2 ≤ id → ρ0 id = none) :
    Wp ⟨Try.prog, W, w, ρ0, 98, 2, hW, hdom⟩ c (argT 0 [.agg [.ints .u8 32 M, .ints .u8 16 C, .one (.int .u32 ((l : Nat) : Int)), .one (.int .u64 ((n : Nat) : Int))], .s (.slice 0 0 0 len0 cap0), .s (.slice 1 0 0 len1 cap1)]) [some ⟨false, [.ints .u8 len0 B0]⟩, some ⟨false, [.ints .u8 len1 B1]⟩] (DoneF ⟨Try.prog, W, w, ρ0, 98, 2, hW, hdom⟩ Try.f12 (.s (.bool true))) := by
  obtain ⟨X, hX⟩ : ∃ L : List Int, (sealL M C ((l : Nat) : Int) ((n : Nat) : Int) ((B0.drop 0).take nn) nn) = L := ⟨_, rfl⟩
  obtain ⟨Y, hY⟩ : ∃ L : List Int, (sealL M C ((l : Nat) : Int) ((n : Nat) : Int) ((B1.drop 0).take nn) nn) = L := ⟨_, rfl⟩
  have hXl : X.length = 29 + nn := by rw [← hX]; exact sealL_len _ _ _ _ _ _
  have hYl : Y.length = 29 + nn := by rw [← hY]; exact sealL_len _ _ _ _ _ _
  have hpre : ((X.drop 0).take 13) = ((Y.drop 0).take 13) := by rw [← hX, ← hY]; first | done | exact seal_pre _ _ _ _ _ _ _ _ _ _
  have hpt : ∀ i, i < nn → xorK .u8 (X.getD (13 + i) 0) (Y.getD (13 + i) 0) = xorK .u8 (B0.getD i 0) (B1.getD i 0) := fun i hi => by
    rw [← hX, ← hY, seal_part _ _ _ _ _ _ _ _ _ hi, getD_dt _ _ _ _ hi, getD_dt _ _ _ _ hi, Nat.zero_add]
  cases hc
  refine w_seq ?_
  refine c_reg (by kernel_rfl) rfl ?_
  refine s_a (by first | exact h_box_agg rfl rfl | exact h_box rfl (by simp) rfl) rfl ?_
  refine s_p (by first | exact h_assign (v := .s _) rfl | exact h_assign (v := .agg _) rfl | exact h_assign (v := .tup _) rfl) ?_
  refine s_nil ?_
  refine n_wp ?_
  refine w_seq ?_
  refine c_reg (by kernel_rfl) rfl ?_
  refine s_p (by first | exact h_move (v := .s _) rfl | exact h_move (v := .agg _) rfl | exact h_move (v := .tup _) rfl) ?_
  refine s_p (by first | exact h_len rfl Try.underlying29 | exact h_len_nil rfl Try.underlying29 | exact h_len_val rfl Try.underlying29) ?_
  refine s_p (by first | exact h_move (v := .s _) rfl | exact h_move (v := .agg _) rfl | exact h_move (v := .tup _) rfl) ?_
  refine s_p (by first | exact h_len rfl Try.underlying29 | exact h_len_nil rfl Try.underlying29 | exact h_len_val rfl Try.underlying29) ?_
  refine s_p (h_min3 (r := ((nn : Nat) : Int)) rfl rfl rfl (by repeat (first | split | omega))) ?_
  refine s_p (by first | exact h_assign (v := .s _) rfl | exact h_assign (v := .agg _) rfl | exact h_assign (v := .tup _) rfl) ?_
  refine s_nil ?_
  refine n_wp ?_
  refine w_seq ?_
  refine c_any 14 mix (by kernel_rfl) (by kernel_rfl) rfl rfl rfl ?_
  refine t_p (h_field rfl Try.underlying63 rfl Try.sizeOf56 (by decide)) ?_
  refine t_p (h_load_agg rfl rfl (.two (m := 32) (n := 16) rfl rfl (.seg rfl rfl)) Try.isAgg56 Try.sizeOf56) ?_
  refine t_p (h_field rfl Try.underlying63 rfl Try.sizeOf61 (by decide)) ?_
  refine t_p (by first | exact h_load_ints rfl rfl rfl (by omega) rfl Try.isAgg61 | exact h_load_one rfl rfl rfl Try.isAgg61) ?_
  refine t_p (h_field rfl Try.underlying63 rfl Try.sizeOf40 (by decide)) ?_
  refine t_p (by first | exact h_load_ints rfl rfl rfl (by omega) rfl Try.isAgg40 | exact h_load_one rfl rfl rfl Try.isAgg40) ?_
  refine t_p (by first | exact h_move (v := .s _) rfl | exact h_move (v := .agg _) rfl | exact h_move (v := .tup _) rfl) ?_
  refine t_p (by first | exact h_move (v := .s _) rfl | exact h_move (v := .agg _) rfl | exact h_move (v := .tup _) rfl) ?_
  refine t_p (h_slice_h (h := nn) rfl rfl rfl Try.underlying29 Try.sizeOf5 (by omega)) ?_
  refine t_a (h_call callable_35 rfl ((show ACall _ _ _ _ _ [⟨true, [.ints .u8 (29 + nn) X]⟩] by rw [← hX]; exact seal_s _ M C l n hM hC hC8 hl 0 0 nn cap0 ((B0.drop 0).take nn) _ (by simp; omega) (by omega) (by omega) rfl (fun i y hy => win_ints (segs := [.ints .u8 len0 B0]) (base := 0) (idx := 0) (n := nn) (m := len0) rfl (by omega) i y hy) (by omega) (by omega)))) rfl ?_
  refine t_p (by first | exact h_move (v := .s _) rfl | exact h_move (v := .agg _) rfl | exact h_move (v := .tup _) rfl) ?_
  refine t_p (h_extract rfl rfl (by simp)) ?_
  refine t_p (h_extract rfl rfl (by simp)) ?_
  refine t_p (by first | exact h_assign (v := .s _) rfl | exact h_assign (v := .agg _) rfl | exact h_assign (v := .tup _) rfl) ?_
  refine t_nil ?_
  refine s_p (by first | exact h_assign (v := .s _) rfl | exact h_assign (v := .agg _) rfl | exact h_assign (v := .tup _) rfl) ?_
  refine s_nil ?_
  refine n_wp ?_
  refine w_seq ?_
  refine c_any 14 mix (by kernel_rfl) (by kernel_rfl) rfl rfl rfl ?_
  refine t_p (h_field rfl Try.underlying63 rfl Try.sizeOf56 (by decide)) ?_
  refine t_p (h_load_agg rfl rfl (.two (m := 32) (n := 16) rfl rfl (.seg rfl rfl)) Try.isAgg56 Try.sizeOf56) ?_
  refine t_p (h_field rfl Try.underlying63 rfl Try.sizeOf61 (by decide)) ?_
  refine t_p (by first | exact h_load_ints rfl rfl rfl (by omega) rfl Try.isAgg61 | exact h_load_one rfl rfl rfl Try.isAgg61) ?_
  refine t_p (h_field rfl Try.underlying63 rfl Try.sizeOf40 (by decide)) ?_
  refine t_p (by first | exact h_load_ints rfl rfl rfl (by omega) rfl Try.isAgg40 | exact h_load_one rfl rfl rfl Try.isAgg40) ?_
  refine t_p (by first | exact h_move (v := .s _) rfl | exact h_move (v := .agg _) rfl | exact h_move (v := .tup _) rfl) ?_
  refine t_p (by first | exact h_move (v := .s _) rfl | exact h_move (v := .agg _) rfl | exact h_move (v := .tup _) rfl) ?_
  refine t_p (h_slice_h (h := nn) rfl rfl rfl Try.underlying29 Try.sizeOf5 (by omega)) ?_
  refine t_a (h_call callable_35 rfl ((show ACall _ _ _ _ _ [⟨true, [.ints .u8 (29 + nn) Y]⟩] by rw [← hY]; exact seal_s _ M C l n hM hC hC8 hl 1 0 nn cap1 ((B1.drop 0).take nn) _ (by simp; omega) (by omega) (by omega) rfl (fun i y hy => win_ints (segs := [.ints .u8 len1 B1]) (base := 0) (idx := 0) (n := nn) (m := len1) rfl (by omega) i y hy) (by omega) (by omega)))) rfl ?_
  refine t_p (by first | exact h_move (v := .s _) rfl | exact h_move (v := .agg _) rfl | exact h_move (v := .tup _) rfl) ?_
  refine t_p (h_extract rfl rfl (by simp)) ?_
  refine t_p (h_extract rfl rfl (by simp)) ?_
  refine t_p (by first | exact h_assign (v := .s _) rfl | exact h_assign (v := .agg _) rfl | exact h_assign (v := .tup _) rfl) ?_
  refine t_nil ?_
  refine s_p (by first | exact h_assign (v := .s _) rfl | exact h_assign (v := .agg _) rfl | exact h_assign (v := .tup _) rfl) ?_
  refine s_nil ?_
  refine n_wp ?_
  refine w_seq ?_
  refine w_seq ?_
  refine c_reg (by kernel_rfl) rfl ?_
  refine s_p (by first | exact h_move (v := .s _) rfl | exact h_move (v := .agg _) rfl | exact h_move (v := .tup _) rfl) ?_
  refine s_p (h_bin rfl rfl (b_neq (decide_eq_false (fun h => h rfl)))) ?_
  refine s_p (by first | exact h_move (v := .s _) rfl | exact h_move (v := .agg _) rfl | exact h_move (v := .tup _) rfl) ?_
  first | refine s_on rfl rfl (by first | rfl | assumption) (by first | exact h_move (v := .s _) rfl | exact h_move (v := .agg _) rfl | exact h_move (v := .tup _) rfl) ?_ | refine s_off rfl rfl (by first | rfl | assumption) ?_
  first | refine s_on rfl rfl (by first | rfl | assumption) (h_bin rfl rfl (b_neq (decide_eq_false (fun h => h rfl)))) ?_ | refine s_off rfl rfl (by first | rfl | assumption) ?_
  refine s_p (by first | exact h_pick_t rfl (by first | rfl | assumption) rfl | exact h_pick_f rfl (by first | rfl | assumption) rfl) ?_
  refine s_p (by first | exact h_move (v := .s _) rfl | exact h_move (v := .agg _) rfl | exact h_move (v := .tup _) rfl) ?_
  first | refine s_on rfl rfl (by first | rfl | assumption) (by first | exact h_move (v := .s _) rfl | exact h_move (v := .agg _) rfl | exact h_move (v := .tup _) rfl) ?_ | refine s_off rfl rfl (by first | rfl | assumption) ?_
  first | refine s_on rfl rfl (by first | rfl | assumption) (by first | exact h_len rfl Try.underlying29 | exact h_len_nil rfl Try.underlying29 | exact h_len_val rfl Try.underlying29) ?_ | refine s_off rfl rfl (by first | rfl | assumption) ?_
  first | refine s_on rfl rfl (by first | rfl | assumption) (by first | exact h_move (v := .s _) rfl | exact h_move (v := .agg _) rfl | exact h_move (v := .tup _) rfl) ?_ | refine s_off rfl rfl (by first | rfl | assumption) ?_
  first | refine s_on rfl rfl (by first | rfl | assumption) (h_bin rfl rfl (b_add (r := ((nn + 29 : Nat) : Int)) (wr_n (by omega) (by omega)))) ?_ | refine s_off rfl rfl (by first | rfl | assumption) ?_
  first | refine s_on rfl rfl (by first | rfl | assumption) (h_bin rfl rfl (b_neq (decide_eq_false (fun h => h (by omega))))) ?_ | refine s_off rfl rfl (by first | rfl | assumption) ?_
  refine s_p (by first | exact h_pick_t rfl (by first | rfl | assumption) rfl | exact h_pick_f rfl (by first | rfl | assumption) rfl) ?_
  refine s_p (by first | exact h_move (v := .s _) rfl | exact h_move (v := .agg _) rfl | exact h_move (v := .tup _) rfl) ?_
  first | refine s_on rfl rfl (by first | rfl | assumption) (by first | exact h_move (v := .s _) rfl | exact h_move (v := .agg _) rfl | exact h_move (v := .tup _) rfl) ?_ | refine s_off rfl rfl (by first | rfl | assumption) ?_
  first | refine s_on rfl rfl (by first | rfl | assumption) (by first | exact h_len rfl Try.underlying29 | exact h_len_nil rfl Try.underlying29 | exact h_len_val rfl Try.underlying29) ?_ | refine s_off rfl rfl (by first | rfl | assumption) ?_
  first | refine s_on rfl rfl (by first | rfl | assumption) (by first | exact h_move (v := .s _) rfl | exact h_move (v := .agg _) rfl | exact h_move (v := .tup _) rfl) ?_ | refine s_off rfl rfl (by first | rfl | assumption) ?_
  first | refine s_on rfl rfl (by first | rfl | assumption) (h_bin rfl rfl (b_add (r := ((nn + 29 : Nat) : Int)) (wr_n (by omega) (by omega)))) ?_ | refine s_off rfl rfl (by first | rfl | assumption) ?_
  first | refine s_on rfl rfl (by first | rfl | assumption) (h_bin rfl rfl (b_neq (decide_eq_false (fun h => h (by omega))))) ?_ | refine s_off rfl rfl (by first | rfl | assumption) ?_
  refine s_p (by first | exact h_pick_t rfl (by first | rfl | assumption) rfl | exact h_pick_f rfl (by first | rfl | assumption) rfl) ?_
  refine s_nil ?_
  refine n_wp ?_
  refine w_cond rfl (fun hc_t63 => ?_) (fun hc_t63 => ?_)
  · exact absurd hc_t63 (by simp)
  refine w_skip ?_
  refine n_wp ?_
  refine w_seq ?_
  refine w_seq ?_
  refine c_reg (by kernel_rfl) rfl ?_
  refine s_p (by first | exact h_assign (v := .s _) rfl | exact h_assign (v := .agg _) rfl | exact h_assign (v := .tup _) rfl) ?_
  refine s_nil ?_
  refine n_wp ?_
  refine w_block ?_
  refine c_loop (J12ss M C X Y l n len0 cap0 B0 len1 cap1 B1 nn) nn ⟨0, Nat.zero_le _, rfl, rfl, rfl⟩ (weak' (by repeat (first | exact trivial | refine ⟨rfl, ?_⟩)) rfl rfl (Nat.le_of_ble_eq_true rfl)) ?_
  rintro n T H ⟨i, hi, rfl, rfl, rfl⟩
  refine w_seq ?_
  refine w_seq ?_
  refine c_reg (by kernel_rfl) rfl ?_
  refine s_p (by first | exact h_move (v := .s _) rfl | exact h_move (v := .agg _) rfl | exact h_move (v := .tup _) rfl) ?_
  refine s_p (by first | exact h_move (v := .s _) rfl | exact h_move (v := .agg _) rfl | exact h_move (v := .tup _) rfl) ?_
  refine s_p (h_bin rfl rfl (b_lss rfl)) ?_
  refine s_nil ?_
  refine n_wp ?_
  refine w_cond rfl (fun hc_t66 => ?_) (fun hc_t66 => ?_)
  · skip
    have hlt : i < nn := by have := of_decide_eq_true hc_t66; omega
    refine w_skip ?_
    refine n_wp ?_
    refine w_seq ?_
    refine w_block ?_
    refine w_seq ?_
    refine c_any 20 mix (by kernel_rfl) (by kernel_rfl) rfl rfl rfl ?_
    refine t_p (by first | exact h_move (v := .s _) rfl | exact h_move (v := .agg _) rfl | exact h_move (v := .tup _) rfl) ?_
    refine t_p (by first | exact h_move (v := .s _) rfl | exact h_move (v := .agg _) rfl | exact h_move (v := .tup _) rfl) ?_
    refine t_p (h_bin rfl rfl (b_add (r := ((13 + i : Nat) : Int)) (wr_n (by omega) (by omega)))) ?_
    refine t_p (by first | exact h_ixs0 rfl rfl Try.underlying29 Try.sizeOf5 (by omega) | exact h_ixs rfl rfl Try.underlying29 Try.sizeOf5 (by omega) | exact h_ixsx rfl rfl Try.underlying29 Try.sizeOf5 (by omega)) ?_
    refine t_p (by first | exact h_load_ints rfl rfl rfl (by omega) rfl Try.isAgg5 | exact h_load_one rfl rfl rfl Try.isAgg5) ?_
    refine t_p (by first | exact h_move (v := .s _) rfl | exact h_move (v := .agg _) rfl | exact h_move (v := .tup _) rfl) ?_
    refine t_p (by first | exact h_move (v := .s _) rfl | exact h_move (v := .agg _) rfl | exact h_move (v := .tup _) rfl) ?_
    refine t_p (h_bin rfl rfl (b_add (r := ((13 + i : Nat) : Int)) (wr_n (by omega) (by omega)))) ?_
    refine t_p (by first | exact h_ixs0 rfl rfl Try.underlying29 Try.sizeOf5 (by omega) | exact h_ixs rfl rfl Try.underlying29 Try.sizeOf5 (by omega) | exact h_ixsx rfl rfl Try.underlying29 Try.sizeOf5 (by omega)) ?_
    refine t_p (by first | exact h_load_ints rfl rfl rfl (by omega) rfl Try.isAgg5 | exact h_load_one rfl rfl rfl Try.isAgg5) ?_
    refine t_p (h_bin rfl rfl (b_xor rfl)) ?_
    refine t_p (by first | exact h_move (v := .s _) rfl | exact h_move (v := .agg _) rfl | exact h_move (v := .tup _) rfl) ?_
    refine t_p (by first | exact h_move (v := .s _) rfl | exact h_move (v := .agg _) rfl | exact h_move (v := .tup _) rfl) ?_
    refine t_p (by first | exact h_ixs0 rfl rfl Try.underlying29 Try.sizeOf5 (by omega) | exact h_ixs rfl rfl Try.underlying29 Try.sizeOf5 (by omega) | exact h_ixsx rfl rfl Try.underlying29 Try.sizeOf5 (by omega)) ?_
    refine t_p (by first | exact h_load_ints rfl rfl rfl (by omega) rfl Try.isAgg5 | exact h_load_one rfl rfl rfl Try.isAgg5) ?_
    refine t_p (by first | exact h_move (v := .s _) rfl | exact h_move (v := .agg _) rfl | exact h_move (v := .tup _) rfl) ?_
    refine t_p (by first | exact h_move (v := .s _) rfl | exact h_move (v := .agg _) rfl | exact h_move (v := .tup _) rfl) ?_
    refine t_p (by first | exact h_ixs0 rfl rfl Try.underlying29 Try.sizeOf5 (by omega) | exact h_ixs rfl rfl Try.underlying29 Try.sizeOf5 (by omega) | exact h_ixsx rfl rfl Try.underlying29 Try.sizeOf5 (by omega)) ?_
    refine t_p (by first | exact h_load_ints rfl rfl rfl (by omega) rfl Try.isAgg5 | exact h_load_one rfl rfl rfl Try.isAgg5) ?_
    refine t_p (h_bin rfl rfl (b_xor rfl)) ?_
    refine t_nil ?_
    refine s_p (h_bin rfl rfl (b_neq (decide_eq_false (fun h => h (hpt i hlt))))) ?_
    refine s_nil ?_
    refine n_wp ?_
    refine w_cond rfl (fun hc_t89 => ?_) (fun hc_t89 => ?_)
    · exact absurd hc_t89 (by simp)
    refine w_skip ?_
    refine n_blo ?_
    refine n_wp ?_
    refine c_reg (by kernel_rfl) rfl ?_
    refine s_p (by first | exact h_move (v := .s _) rfl | exact h_move (v := .agg _) rfl | exact h_move (v := .tup _) rfl) ?_
    refine s_p (by first | exact h_bin rfl rfl (b_add (Go.IntWalk.i64_in _ (by omega))) | exact h_bin rfl rfl (b_add rfl)) ?_
    refine s_p (by first | exact h_assign (v := .s _) rfl | exact h_assign (v := .agg _) rfl | exact h_assign (v := .tup _) rfl) ?_
    refine s_nil ?_
    exact n_round (nn - (i + 1)) (by omega) ⟨i + 1, by omega, rfl, rfl, rfl⟩ (weak' (by repeat (first | exact trivial | refine ⟨rfl, ?_⟩)) rfl rfl (Nat.le_of_ble_eq_true rfl))
  · skip
    refine w_exit ?_
    refine x_thn ?_
    refine x_thn ?_
    refine x_eq ?_
    refine n_wp ?_
    refine w_seq ?_
    refine c_any 6 mix (by kernel_rfl) (by kernel_rfl) rfl rfl rfl ?_
    refine t_p (h_call callable_36 rfl (alive19 _)) ?_
    refine t_p (by first | exact h_move (v := .s _) rfl | exact h_move (v := .agg _) rfl | exact h_move (v := .tup _) rfl) ?_
    first | refine t_on rfl rfl (by first | rfl | assumption) (by first | exact h_move (v := .s _) rfl | exact h_move (v := .agg _) rfl | exact h_move (v := .tup _) rfl) ?_ | refine t_off rfl rfl (by first | rfl | assumption) ?_
    first | refine t_on rfl rfl (by first | rfl | assumption) (h_slice_h (h := 13) rfl rfl rfl Try.underlying29 Try.sizeOf5 (by omega)) ?_ | refine t_off rfl rfl (by first | rfl | assumption) ?_
    first | refine t_on rfl rfl (by first | rfl | assumption) (by first | exact h_move (v := .s _) rfl | exact h_move (v := .agg _) rfl | exact h_move (v := .tup _) rfl) ?_ | refine t_off rfl rfl (by first | rfl | assumption) ?_
    first | refine t_on rfl rfl (by first | rfl | assumption) (h_slice_h (h := 13) rfl rfl rfl Try.underlying29 Try.sizeOf5 (by omega)) ?_ | refine t_off rfl rfl (by first | rfl | assumption) ?_
    refine t_nil ?_
    first | refine s_on rfl rfl (by first | rfl | assumption) (h_call callable_27 rfl (same_ss ((X.drop 0).take 13) 13 _ _ (by omega) _ 3 0 0 (29 + nn) _ X rfl rfl (by omega) rfl 4 0 0 (29 + nn) _ Y rfl rfl (by omega) hpre)) ?_ | refine s_off rfl rfl (by first | rfl | assumption) ?_
    refine s_p (by first | exact h_pick_t rfl (by first | rfl | assumption) rfl | exact h_pick_f rfl (by first | rfl | assumption) rfl) ?_
    refine s_p (by first | exact h_assign (v := .s _) rfl | exact h_assign (v := .agg _) rfl | exact h_assign (v := .tup _) rfl) ?_
    refine s_nil ?_
    refine n_wp ?_
    refine w_ret ?_
    exact ⟨.inl rfl, ret_tmp Try.results12 rfl⟩
def J12sv (M C X Y : List Int) (l n : Nat) (len0 cap0 : Nat) (B0 : List Int) (a1 : Option Addr) (c1 : Nat) (q : Nat) (T : Tm) (H : Heap) : Prop := ∃ i, i ≤ 0 ∧ q = 0 - i ∧
  T = [(1, .s (.slice 0 0 0 len0 cap0)), (2, .s (.val (.slice a1 0 c1))), (3, .s (.ptr 1 0 0)), (7, .s (.int .i64 ((0 : Nat) : Int))), (8, .s (.slice 2 0 0 (29 + 0) (29 + 0))), (10, .s (.slice 3 0 0 (29 + 0) (29 + 0))), (12, .s (.int .i64 ((i : Nat) : Int)))] ∧ H = [some ⟨false, [.ints .u8 len0 B0]⟩, some ⟨true, [.ints .u8 32 M, .ints .u8 16 C, .one (.int .u32 ((l : Nat) : Int)), .one (.int .u64 ((n : Nat) : Int))]⟩, some ⟨true, [.ints .u8 (29 + 0) X]⟩, some ⟨true, [.ints .u8 (29 + 0) Y]⟩]
set_option maxRecDepth 100000 in
set_option maxHeartbeats 2000000 in
theorem part_sv (M C : List Int) (l n : Nat) (hM : M.length = 32) (hC : C.length = 16) (hC8 : U8 C) (hl : l < 4294967296) (hn : n < 18446744073709551616) (len0 cap0 : Nat) (B0 : List Int) (a1 : Option Addr) (c1 : Nat) (hB0 : B0.length = len0) (hc0 : len0 ≤ cap0) (hp0 : 0 < len0)  (c : Code) (hc : Try.f12.body = some c) (W : Nat → Prop) (w : World) (ρ0 : Rho) (hW : ∀ b, w.heap.size ≤ b → W b) (hdom : ∀ id, 1 ≤ id → ρ0 id = none) :
    Wp ⟨Try.prog, W, w, ρ0, 98, 1, hW, hdom⟩ c (argT 0 [.agg [.ints .u8 32 M, .ints .u8 16 C, .one (.int .u32 ((l : Nat) : Int)), .one (.int .u64 ((n : Nat) : Int))], .s (.slice 0 0 0 len0 cap0), .s (.val (.slice a1 0 c1))]) [some ⟨false, [.ints .u8 len0 B0]⟩] (DoneF ⟨Try.prog, W, w, ρ0, 98, 1, hW, hdom⟩ Try.f12 (.s (.bool true))) := by
  obtain ⟨X, hX⟩ : ∃ L : List Int, (sealL M C ((l : Nat) : Int) ((n : Nat) : Int) [] 0) = L := ⟨_, rfl⟩
  obtain ⟨Y, hY⟩ : ∃ L : List Int, (sealL M C ((l : Nat) : Int) ((n : Nat) : Int) [] 0) = L := ⟨_, rfl⟩
  have hXl : X.length = 29 + 0 := by rw [← hX]; exact sealL_len _ _ _ _ _ _
  have hYl : Y.length = 29 + 0 := by rw [← hY]; exact sealL_len _ _ _ _ _ _
  have hpre : ((X.drop 0).take 13) = ((Y.drop 0).take 13) := by rw [← hX, ← hY]; first | done | exact seal_pre _ _ _ _ _ _ _ _ _ _
  cases hc
  refine w_seq ?_
  refine c_reg (by kernel_rfl) rfl ?_
  refine s_a (by first | exact h_box_agg rfl rfl | exact h_box rfl (by simp) rfl) rfl ?_
  refine s_p (by first | exact h_assign (v := .s _) rfl | exact h_assign (v := .agg _) rfl | exact h_assign (v := .tup _) rfl) ?_
  refine s_nil ?_
  refine n_wp ?_
  refine w_seq ?_
  refine c_reg (by kernel_rfl) rfl ?_
  refine s_p (by first | exact h_move (v := .s _) rfl | exact h_move (v := .agg _) rfl | exact h_move (v := .tup _) rfl) ?_
  refine s_p (by first | exact h_len rfl Try.underlying29 | exact h_len_nil rfl Try.underlying29 | exact h_len_val rfl Try.underlying29) ?_
  refine s_p (by first | exact h_move (v := .s _) rfl | exact h_move (v := .agg _) rfl | exact h_move (v := .tup _) rfl) ?_
  refine s_p (by first | exact h_len rfl Try.underlying29 | exact h_len_nil rfl Try.underlying29 | exact h_len_val rfl Try.underlying29) ?_
  refine s_p (h_min3 (r := ((0 : Nat) : Int)) rfl rfl rfl (by repeat (first | split | omega))) ?_
  refine s_p (by first | exact h_assign (v := .s _) rfl | exact h_assign (v := .agg _) rfl | exact h_assign (v := .tup _) rfl) ?_
  refine s_nil ?_
  refine n_wp ?_
  refine w_seq ?_
  refine c_any 14 mix (by kernel_rfl) (by kernel_rfl) rfl rfl rfl ?_
  refine t_p (h_field rfl Try.underlying63 rfl Try.sizeOf56 (by decide)) ?_
  refine t_p (h_load_agg rfl rfl (.two (m := 32) (n := 16) rfl rfl (.seg rfl rfl)) Try.isAgg56 Try.sizeOf56) ?_
  refine t_p (h_field rfl Try.underlying63 rfl Try.sizeOf61 (by decide)) ?_
  refine t_p (by first | exact h_load_ints rfl rfl rfl (by omega) rfl Try.isAgg61 | exact h_load_one rfl rfl rfl Try.isAgg61) ?_
  refine t_p (h_field rfl Try.underlying63 rfl Try.sizeOf40 (by decide)) ?_
  refine t_p (by first | exact h_load_ints rfl rfl rfl (by omega) rfl Try.isAgg40 | exact h_load_one rfl rfl rfl Try.isAgg40) ?_
  refine t_p (by first | exact h_move (v := .s _) rfl | exact h_move (v := .agg _) rfl | exact h_move (v := .tup _) rfl) ?_
  refine t_p (by first | exact h_move (v := .s _) rfl | exact h_move (v := .agg _) rfl | exact h_move (v := .tup _) rfl) ?_
  refine t_p (h_slice_h (h := 0) rfl rfl rfl Try.underlying29 Try.sizeOf5 (by omega)) ?_
  refine t_a (h_call callable_35 rfl ((show ACall _ _ _ _ _ [⟨true, [.ints .u8 (29 + 0) X]⟩] by rw [← hX]; exact seal_0 _ M C l n hM hC hC8 hl 0 0 0 cap0 (by simp)))) rfl ?_
  refine t_p (by first | exact h_move (v := .s _) rfl | exact h_move (v := .agg _) rfl | exact h_move (v := .tup _) rfl) ?_
  refine t_p (h_extract rfl rfl (by simp)) ?_
  refine t_p (h_extract rfl rfl (by simp)) ?_
  refine t_p (by first | exact h_assign (v := .s _) rfl | exact h_assign (v := .agg _) rfl | exact h_assign (v := .tup _) rfl) ?_
  refine t_nil ?_
  refine s_p (by first | exact h_assign (v := .s _) rfl | exact h_assign (v := .agg _) rfl | exact h_assign (v := .tup _) rfl) ?_
  refine s_nil ?_
  refine n_wp ?_
  refine w_seq ?_
  refine c_any 14 mix (by kernel_rfl) (by kernel_rfl) rfl rfl rfl ?_
  refine t_p (h_field rfl Try.underlying63 rfl Try.sizeOf56 (by decide)) ?_
  refine t_p (h_load_agg rfl rfl (.two (m := 32) (n := 16) rfl rfl (.seg rfl rfl)) Try.isAgg56 Try.sizeOf56) ?_
  refine t_p (h_field rfl Try.underlying63 rfl Try.sizeOf61 (by decide)) ?_
  refine t_p (by first | exact h_load_ints rfl rfl rfl (by omega) rfl Try.isAgg61 | exact h_load_one rfl rfl rfl Try.isAgg61) ?_
  refine t_p (h_field rfl Try.underlying63 rfl Try.sizeOf40 (by decide)) ?_
  refine t_p (by first | exact h_load_ints rfl rfl rfl (by omega) rfl Try.isAgg40 | exact h_load_one rfl rfl rfl Try.isAgg40) ?_
  refine t_p (by first | exact h_move (v := .s _) rfl | exact h_move (v := .agg _) rfl | exact h_move (v := .tup _) rfl) ?_
  refine t_p (by first | exact h_move (v := .s _) rfl | exact h_move (v := .agg _) rfl | exact h_move (v := .tup _) rfl) ?_
  refine t_p (h_slice_hv rfl rfl rfl Try.underlying29 Try.sizeOf5) ?_
  refine t_a (h_call callable_35 rfl ((show ACall _ _ _ _ _ [⟨true, [.ints .u8 (29 + 0) Y]⟩] by rw [← hY]; exact seal_v _ M C l n hM hC hC8 hl a1 c1))) rfl ?_
  refine t_p (by first | exact h_move (v := .s _) rfl | exact h_move (v := .agg _) rfl | exact h_move (v := .tup _) rfl) ?_
  refine t_p (h_extract rfl rfl (by simp)) ?_
  refine t_p (h_extract rfl rfl (by simp)) ?_
  refine t_p (by first | exact h_assign (v := .s _) rfl | exact h_assign (v := .agg _) rfl | exact h_assign (v := .tup _) rfl) ?_
  refine t_nil ?_
  refine s_p (by first | exact h_assign (v := .s _) rfl | exact h_assign (v := .agg _) rfl | exact h_assign (v := .tup _) rfl) ?_
  refine s_nil ?_
  refine n_wp ?_
  refine w_seq ?_
  refine w_seq ?_
  refine c_reg (by kernel_rfl) rfl ?_
  refine s_p (by first | exact h_move (v := .s _) rfl | exact h_move (v := .agg _) rfl | exact h_move (v := .tup _) rfl) ?_
  refine s_p (h_bin rfl rfl (b_neq (decide_eq_false (fun h => h rfl)))) ?_
  refine s_p (by first | exact h_move (v := .s _) rfl | exact h_move (v := .agg _) rfl | exact h_move (v := .tup _) rfl) ?_
  first | refine s_on rfl rfl (by first | rfl | assumption) (by first | exact h_move (v := .s _) rfl | exact h_move (v := .agg _) rfl | exact h_move (v := .tup _) rfl) ?_ | refine s_off rfl rfl (by first | rfl | assumption) ?_
  first | refine s_on rfl rfl (by first | rfl | assumption) (h_bin rfl rfl (b_neq (decide_eq_false (fun h => h rfl)))) ?_ | refine s_off rfl rfl (by first | rfl | assumption) ?_
  refine s_p (by first | exact h_pick_t rfl (by first | rfl | assumption) rfl | exact h_pick_f rfl (by first | rfl | assumption) rfl) ?_
  refine s_p (by first | exact h_move (v := .s _) rfl | exact h_move (v := .agg _) rfl | exact h_move (v := .tup _) rfl) ?_
  first | refine s_on rfl rfl (by first | rfl | assumption) (by first | exact h_move (v := .s _) rfl | exact h_move (v := .agg _) rfl | exact h_move (v := .tup _) rfl) ?_ | refine s_off rfl rfl (by first | rfl | assumption) ?_
  first | refine s_on rfl rfl (by first | rfl | assumption) (by first | exact h_len rfl Try.underlying29 | exact h_len_nil rfl Try.underlying29 | exact h_len_val rfl Try.underlying29) ?_ | refine s_off rfl rfl (by first | rfl | assumption) ?_
  first | refine s_on rfl rfl (by first | rfl | assumption) (by first | exact h_move (v := .s _) rfl | exact h_move (v := .agg _) rfl | exact h_move (v := .tup _) rfl) ?_ | refine s_off rfl rfl (by first | rfl | assumption) ?_
  first | refine s_on rfl rfl (by first | rfl | assumption) (h_bin rfl rfl (b_add (r := ((0 + 29 : Nat) : Int)) (wr_n (by omega) (by omega)))) ?_ | refine s_off rfl rfl (by first | rfl | assumption) ?_
  first | refine s_on rfl rfl (by first | rfl | assumption) (h_bin rfl rfl (b_neq (decide_eq_false (fun h => h (by omega))))) ?_ | refine s_off rfl rfl (by first | rfl | assumption) ?_
  refine s_p (by first | exact h_pick_t rfl (by first | rfl | assumption) rfl | exact h_pick_f rfl (by first | rfl | assumption) rfl) ?_
  refine s_p (by first | exact h_move (v := .s _) rfl | exact h_move (v := .agg _) rfl | exact h_move (v := .tup _) rfl) ?_
  first | refine s_on rfl rfl (by first | rfl | assumption) (by first | exact h_move (v := .s _) rfl | exact h_move (v := .agg _) rfl | exact h_move (v := .tup _) rfl) ?_ | refine s_off rfl rfl (by first | rfl | assumption) ?_
  first | refine s_on rfl rfl (by first | rfl | assumption) (by first | exact h_len rfl Try.underlying29 | exact h_len_nil rfl Try.underlying29 | exact h_len_val rfl Try.underlying29) ?_ | refine s_off rfl rfl (by first | rfl | assumption) ?_
  first | refine s_on rfl rfl (by first | rfl | assumption) (by first | exact h_move (v := .s _) rfl | exact h_move (v := .agg _) rfl | exact h_move (v := .tup _) rfl) ?_ | refine s_off rfl rfl (by first | rfl | assumption) ?_
  first | refine s_on rfl rfl (by first | rfl | assumption) (h_bin rfl rfl (b_add (r := ((0 + 29 : Nat) : Int)) (wr_n (by omega) (by omega)))) ?_ | refine s_off rfl rfl (by first | rfl | assumption) ?_
  first | refine s_on rfl rfl (by first | rfl | assumption) (h_bin rfl rfl (b_neq (decide_eq_false (fun h => h (by omega))))) ?_ | refine s_off rfl rfl (by first | rfl | assumption) ?_
  refine s_p (by first | exact h_pick_t rfl (by first | rfl | assumption) rfl | exact h_pick_f rfl (by first | rfl | assumption) rfl) ?_
  refine s_nil ?_
  refine n_wp ?_
  refine w_cond rfl (fun hc_t63 => ?_) (fun hc_t63 => ?_)
  · exact absurd hc_t63 (by simp)
  refine w_skip ?_
  refine n_wp ?_
  refine w_seq ?_
  refine w_seq ?_
  refine c_reg (by kernel_rfl) rfl ?_
  refine s_p (by first | exact h_assign (v := .s _) rfl | exact h_assign (v := .agg _) rfl | exact h_assign (v := .tup _) rfl) ?_
  refine s_nil ?_
  refine n_wp ?_
  refine w_block ?_
  refine c_loop (J12sv M C X Y l n len0 cap0 B0 a1 c1 ) 0 ⟨0, Nat.zero_le _, rfl, rfl, rfl⟩ (weak' (by repeat (first | exact trivial | refine ⟨rfl, ?_⟩)) rfl rfl (Nat.le_of_ble_eq_true rfl)) ?_
  rintro n T H ⟨i, hi, rfl, rfl, rfl⟩
  refine w_seq ?_
  refine w_seq ?_
  refine c_reg (by kernel_rfl) rfl ?_
  refine s_p (by first | exact h_move (v := .s _) rfl | exact h_move (v := .agg _) rfl | exact h_move (v := .tup _) rfl) ?_
  refine s_p (by first | exact h_move (v := .s _) rfl | exact h_move (v := .agg _) rfl | exact h_move (v := .tup _) rfl) ?_
  refine s_p (h_bin rfl rfl (b_lss rfl)) ?_
  refine s_nil ?_
  refine n_wp ?_
  refine w_cond rfl (fun hc_t66 => ?_) (fun hc_t66 => ?_)
  · exact absurd hc_t66 (by intro h; have := of_decide_eq_true h; omega)
  refine w_exit ?_
  refine x_thn ?_
  refine x_thn ?_
  refine x_eq ?_
  refine n_wp ?_
  refine w_seq ?_
  refine c_any 6 mix (by kernel_rfl) (by kernel_rfl) rfl rfl rfl ?_
  refine t_p (h_call callable_36 rfl (alive19 _)) ?_
  refine t_p (by first | exact h_move (v := .s _) rfl | exact h_move (v := .agg _) rfl | exact h_move (v := .tup _) rfl) ?_
  first | refine t_on rfl rfl (by first | rfl | assumption) (by first | exact h_move (v := .s _) rfl | exact h_move (v := .agg _) rfl | exact h_move (v := .tup _) rfl) ?_ | refine t_off rfl rfl (by first | rfl | assumption) ?_
  first | refine t_on rfl rfl (by first | rfl | assumption) (h_slice_h (h := 13) rfl rfl rfl Try.underlying29 Try.sizeOf5 (by omega)) ?_ | refine t_off rfl rfl (by first | rfl | assumption) ?_
  first | refine t_on rfl rfl (by first | rfl | assumption) (by first | exact h_move (v := .s _) rfl | exact h_move (v := .agg _) rfl | exact h_move (v := .tup _) rfl) ?_ | refine t_off rfl rfl (by first | rfl | assumption) ?_
  first | refine t_on rfl rfl (by first | rfl | assumption) (h_slice_h (h := 13) rfl rfl rfl Try.underlying29 Try.sizeOf5 (by omega)) ?_ | refine t_off rfl rfl (by first | rfl | assumption) ?_
  refine t_nil ?_
  first | refine s_on rfl rfl (by first | rfl | assumption) (h_call callable_27 rfl (same_ss ((X.drop 0).take 13) 13 _ _ (by omega) _ 2 0 0 (29 + 0) _ X rfl rfl (by omega) rfl 3 0 0 (29 + 0) _ Y rfl rfl (by omega) hpre)) ?_ | refine s_off rfl rfl (by first | rfl | assumption) ?_
  refine s_p (by first | exact h_pick_t rfl (by first | rfl | assumption) rfl | exact h_pick_f rfl (by first | rfl | assumption) rfl) ?_
  refine s_p (by first | exact h_assign (v := .s _) rfl | exact h_assign (v := .agg _) rfl | exact h_assign (v := .tup _) rfl) ?_
  refine s_nil ?_
  refine n_wp ?_
  refine w_ret ?_
  exact ⟨.inl rfl, ret_tmp Try.results12 rfl⟩
def J12vs (M C X Y : List Int) (l n : Nat) (a0 : Option Addr) (c0 : Nat) (len1 cap1 : Nat) (B1 : List Int) (q : Nat) (T : Tm) (H : Heap) : Prop := ∃ i, i ≤ 0 ∧ q = 0 - i ∧
  T = [(1, .s (.val (.slice a0 0 c0))), (2, .s (.slice 0 0 0 len1 cap1)), (3, .s (.ptr 1 0 0)), (7, .s (.int .i64 ((0 : Nat) : Int))), (8, .s (.slice 2 0 0 (29 + 0) (29 + 0))), (10, .s (.slice 3 0 0 (29 + 0) (29 + 0))), (12, .s (.int .i64 ((i : Nat) : Int)))] ∧ H = [some ⟨false, [.ints .u8 len1 B1]⟩, some ⟨true, [.ints .u8 32 M, .ints .u8 16 C, .one (.int .u32 ((l : Nat) : Int)), .one (.int .u64 ((n : Nat) : Int))]⟩, some ⟨true, [.ints .u8 (29 + 0) X]⟩, some ⟨true, [.ints .u8 (29 + 0) Y]⟩]
set_option maxRecDepth 100000 in
set_option maxHeartbeats 2000000 in
theorem part_vs (M C : List Int) (l n : Nat) (hM : M.length = 32) (hC : C.length = 16) (hC8 : U8 C) (hl : l < 4294967296) (hn : n < 18446744073709551616) (a0 : Option Addr) (c0 : Nat) (len1 cap1 : Nat) (B1 : List Int) (hB1 : B1.length = len1) (hc1 : len1 ≤ cap1) (hp1 : 0 < len1)  (c : Code) (hc : Try.f12.body = some c) (W : Nat → Prop) (w : World) (ρ0 : Rho) (hW : ∀ b, w.heap.size ≤ b → W b) (hdom : ∀ id, 1 ≤ id → ρ0 id = none) :
    Wp ⟨Try.prog, W, w, ρ0, 98, 1, hW, hdom⟩ c (argT 0 [.agg [.ints .u8 32 M, .ints .u8 16 C, .one (.int .u32 ((l : Nat) : Int)), .one (.int .u64 ((n : Nat) : Int))], .s (.val (.slice a0 0 c0)), .s (.slice 0 0 0 len1 cap1)]) [some ⟨false, [.ints .u8 len1 B1]⟩] (DoneF ⟨Try.prog, W, w, ρ0, 98, 1, hW, hdom⟩ Try.f12 (.s (.bool true))) := by
  obtain ⟨X, hX⟩ : ∃ L : List Int, (sealL M C ((l : Nat) : Int) ((n : Nat) : Int) [] 0) = L := ⟨_, rfl⟩
  obtain ⟨Y, hY⟩ : ∃ L : List Int, (sealL M C ((l : Nat) : Int) ((n : Nat) : Int) [] 0) = L := ⟨_, rfl⟩
  have hXl : X.length = 29 + 0 := by rw [← hX]; exact sealL_len _ _ _ _ _ _
  have hYl : Y.length = 29 + 0 := by rw [← hY]; exact sealL_len _ _ _ _ _ _
  have hpre : ((X.drop 0).take 13) = ((Y.drop 0).take 13) := by rw [← hX, ← hY]; first | done | exact seal_pre _ _ _ _ _ _ _ _ _ _
  cases hc
  refine w_seq ?_
  refine c_reg (by kernel_rfl) rfl ?_
  refine s_a (by first | exact h_box_agg rfl rfl | exact h_box rfl (by simp) rfl) rfl ?_
  refine s_p (by first | exact h_assign (v := .s _) rfl | exact h_assign (v := .agg _) rfl | exact h_assign (v := .tup _) rfl) ?_
  refine s_nil ?_
  refine n_wp ?_
  refine w_seq ?_
  refine c_reg (by kernel_rfl) rfl ?_
  refine s_p (by first | exact h_move (v := .s _) rfl | exact h_move (v := .agg _) rfl | exact h_move (v := .tup _) rfl) ?_
  refine s_p (by first | exact h_len rfl Try.underlying29 | exact h_len_nil rfl Try.underlying29 | exact h_len_val rfl Try.underlying29) ?_
  refine s_p (by first | exact h_move (v := .s _) rfl | exact h_move (v := .agg _) rfl | exact h_move (v := .tup _) rfl) ?_
  refine s_p (by first | exact h_len rfl Try.underlying29 | exact h_len_nil rfl Try.underlying29 | exact h_len_val rfl Try.underlying29) ?_
  refine s_p (h_min3 (r := ((0 : Nat) : Int)) rfl rfl rfl (by repeat (first | split | omega))) ?_
  refine s_p (by first | exact h_assign (v := .s _) rfl | exact h_assign (v := .agg _) rfl | exact h_assign (v := .tup _) rfl) ?_
  refine s_nil ?_
  refine n_wp ?_
  refine w_seq ?_
  refine c_any 14 mix (by kernel_rfl) (by kernel_rfl) rfl rfl rfl ?_
  refine t_p (h_field rfl Try.underlying63 rfl Try.sizeOf56 (by decide)) ?_
  refine t_p (h_load_agg rfl rfl (.two (m := 32) (n := 16) rfl rfl (.seg rfl rfl)) Try.isAgg56 Try.sizeOf56) ?_
  refine t_p (h_field rfl Try.underlying63 rfl Try.sizeOf61 (by decide)) ?_
  refine t_p (by first | exact h_load_ints rfl rfl rfl (by omega) rfl Try.isAgg61 | exact h_load_one rfl rfl rfl Try.isAgg61) ?_
  refine t_p (h_field rfl Try.underlying63 rfl Try.sizeOf40 (by decide)) ?_
  refine t_p (by first | exact h_load_ints rfl rfl rfl (by omega) rfl Try.isAgg40 | exact h_load_one rfl rfl rfl Try.isAgg40) ?_
  refine t_p (by first | exact h_move (v := .s _) rfl | exact h_move (v := .agg _) rfl | exact h_move (v := .tup _) rfl) ?_
  refine t_p (by first | exact h_move (v := .s _) rfl | exact h_move (v := .agg _) rfl | exact h_move (v := .tup _) rfl) ?_
  refine t_p (h_slice_hv rfl rfl rfl Try.underlying29 Try.sizeOf5) ?_
  refine t_a (h_call callable_35 rfl ((show ACall _ _ _ _ _ [⟨true, [.ints .u8 (29 + 0) X]⟩] by rw [← hX]; exact seal_v _ M C l n hM hC hC8 hl a0 c0))) rfl ?_
  refine t_p (by first | exact h_move (v := .s _) rfl | exact h_move (v := .agg _) rfl | exact h_move (v := .tup _) rfl) ?_
  refine t_p (h_extract rfl rfl (by simp)) ?_
  refine t_p (h_extract rfl rfl (by simp)) ?_
  refine t_p (by first | exact h_assign (v := .s _) rfl | exact h_assign (v := .agg _) rfl | exact h_assign (v := .tup _) rfl) ?_
  refine t_nil ?_
  refine s_p (by first | exact h_assign (v := .s _) rfl | exact h_assign (v := .agg _) rfl | exact h_assign (v := .tup _) rfl) ?_
  refine s_nil ?_
  refine n_wp ?_
  refine w_seq ?_
  refine c_any 14 mix (by kernel_rfl) (by kernel_rfl) rfl rfl rfl ?_
  refine t_p (h_field rfl Try.underlying63 rfl Try.sizeOf56 (by decide)) ?_
  refine t_p (h_load_agg rfl rfl (.two (m := 32) (n := 16) rfl rfl (.seg rfl rfl)) Try.isAgg56 Try.sizeOf56) ?_
  refine t_p (h_field rfl Try.underlying63 rfl Try.sizeOf61 (by decide)) ?_
  refine t_p (by first | exact h_load_ints rfl rfl rfl (by omega) rfl Try.isAgg61 | exact h_load_one rfl rfl rfl Try.isAgg61) ?_
  refine t_p (h_field rfl Try.underlying63 rfl Try.sizeOf40 (by decide)) ?_
  refine t_p (by first | exact h_load_ints rfl rfl rfl (by omega) rfl Try.isAgg40 | exact h_load_one rfl rfl rfl Try.isAgg40) ?_
  refine t_p (by first | exact h_move (v := .s _) rfl | exact h_move (v := .agg _) rfl | exact h_move (v := .tup _) rfl) ?_
  refine t_p (by first | exact h_move (v := .s _) rfl | exact h_move (v := .agg _) rfl | exact h_move (v := .tup _) rfl) ?_
  refine t_p (h_slice_h (h := 0) rfl rfl rfl Try.underlying29 Try.sizeOf5 (by omega)) ?_
  refine t_a (h_call callable_35 rfl ((show ACall _ _ _ _ _ [⟨true, [.ints .u8 (29 + 0) Y]⟩] by rw [← hY]; exact seal_0 _ M C l n hM hC hC8 hl 0 0 0 cap1 (by simp)))) rfl ?_
  refine t_p (by first | exact h_move (v := .s _) rfl | exact h_move (v := .agg _) rfl | exact h_move (v := .tup _) rfl) ?_
  refine t_p (h_extract rfl rfl (by simp)) ?_
  refine t_p (h_extract rfl rfl (by simp)) ?_
  refine t_p (by first | exact h_assign (v := .s _) rfl | exact h_assign (v := .agg _) rfl | exact h_assign (v := .tup _) rfl) ?_
  refine t_nil ?_
  refine s_p (by first | exact h_assign (v := .s _) rfl | exact h_assign (v := .agg _) rfl | exact h_assign (v := .tup _) rfl) ?_
  refine s_nil ?_
  refine n_wp ?_
  refine w_seq ?_
  refine w_seq ?_
  refine c_reg (by kernel_rfl) rfl ?_
  refine s_p (by first | exact h_move (v := .s _) rfl | exact h_move (v := .agg _) rfl | exact h_move (v := .tup _) rfl) ?_
  refine s_p (h_bin rfl rfl (b_neq (decide_eq_false (fun h => h rfl)))) ?_
  refine s_p (by first | exact h_move (v := .s _) rfl | exact h_move (v := .agg _) rfl | exact h_move (v := .tup _) rfl) ?_
  first | refine s_on rfl rfl (by first | rfl | assumption) (by first | exact h_move (v := .s _) rfl | exact h_move (v := .agg _) rfl | exact h_move (v := .tup _) rfl) ?_ | refine s_off rfl rfl (by first | rfl | assumption) ?_
  first | refine s_on rfl rfl (by first | rfl | assumption) (h_bin rfl rfl (b_neq (decide_eq_false (fun h => h rfl)))) ?_ | refine s_off rfl rfl (by first | rfl | assumption) ?_
  refine s_p (by first | exact h_pick_t rfl (by first | rfl | assumption) rfl | exact h_pick_f rfl (by first | rfl | assumption) rfl) ?_
  refine s_p (by first | exact h_move (v := .s _) rfl | exact h_move (v := .agg _) rfl | exact h_move (v := .tup _) rfl) ?_
  first | refine s_on rfl rfl (by first | rfl | assumption) (by first | exact h_move (v := .s _) rfl | exact h_move (v := .agg _) rfl | exact h_move (v := .tup _) rfl) ?_ | refine s_off rfl rfl (by first | rfl | assumption) ?_
  first | refine s_on rfl rfl (by first | rfl | assumption) (by first | exact h_len rfl Try.underlying29 | exact h_len_nil rfl Try.underlying29 | exact h_len_val rfl Try.underlying29) ?_ | refine s_off rfl rfl (by first | rfl | assumption) ?_
  first | refine s_on rfl rfl (by first | rfl | assumption) (by first | exact h_move (v := .s _) rfl | exact h_move (v := .agg _) rfl | exact h_move (v := .tup _) rfl) ?_ | refine s_off rfl rfl (by first | rfl | assumption) ?_
  first | refine s_on rfl rfl (by first | rfl | assumption) (h_bin rfl rfl (b_add (r := ((0 + 29 : Nat) : Int)) (wr_n (by omega) (by omega)))) ?_ | refine s_off rfl rfl (by first | rfl | assumption) ?_
  first | refine s_on rfl rfl (by first | rfl | assumption) (h_bin rfl rfl (b_neq (decide_eq_false (fun h => h (by omega))))) ?_ | refine s_off rfl rfl (by first | rfl | assumption) ?_
  refine s_p (by first | exact h_pick_t rfl (by first | rfl | assumption) rfl | exact h_pick_f rfl (by first | rfl | assumption) rfl) ?_
  refine s_p (by first | exact h_move (v := .s _) rfl | exact h_move (v := .agg _) rfl | exact h_move (v := .tup _) rfl) ?_
  first | refine s_on rfl rfl (by first | rfl | assumption) (by first | exact h_move (v := .s _) rfl | exact h_move (v := .agg _) rfl | exact h_move (v := .tup _) rfl) ?_ | refine s_off rfl rfl (by first | rfl | assumption) ?_
  first | refine s_on rfl rfl (by first | rfl | assumption) (by first | exact h_len rfl Try.underlying29 | exact h_len_nil rfl Try.underlying29 | exact h_len_val rfl Try.underlying29) ?_ | refine s_off rfl rfl (by first | rfl | assumption) ?_
  first | refine s_on rfl rfl (by first | rfl | assumption) (by first | exact h_move (v := .s _) rfl | exact h_move (v := .agg _) rfl | exact h_move (v := .tup _) rfl) ?_ | refine s_off rfl rfl (by first | rfl | assumption) ?_
  first | refine s_on rfl rfl (by first | rfl | assumption) (h_bin rfl rfl (b_add (r := ((0 + 29 : Nat) : Int)) (wr_n (by omega) (by omega)))) ?_ | refine s_off rfl rfl (by first | rfl | assumption) ?_
  first | refine s_on rfl rfl (by first | rfl | assumption) (h_bin rfl rfl (b_neq (decide_eq_false (fun h => h (by omega))))) ?_ | refine s_off rfl rfl (by first | rfl | assumption) ?_
  refine s_p (by first | exact h_pick_t rfl (by first | rfl | assumption) rfl | exact h_pick_f rfl (by first | rfl | assumption) rfl) ?_
  refine s_nil ?_
  refine n_wp ?_
  refine w_cond rfl (fun hc_t63 => ?_) (fun hc_t63 => ?_)
  · exact absurd hc_t63 (by simp)
  refine w_skip ?_
  refine n_wp ?_
  refine w_seq ?_
  refine w_seq ?_
  refine c_reg (by kernel_rfl) rfl ?_
  refine s_p (by first | exact h_assign (v := .s _) rfl | exact h_assign (v := .agg _) rfl | exact h_assign (v := .tup _) rfl) ?_
  refine s_nil ?_
  refine n_wp ?_
  refine w_block ?_
  refine c_loop (J12vs M C X Y l n a0 c0 len1 cap1 B1 ) 0 ⟨0, Nat.zero_le _, rfl, rfl, rfl⟩ (weak' (by repeat (first | exact trivial | refine ⟨rfl, ?_⟩)) rfl rfl (Nat.le_of_ble_eq_true rfl)) ?_
  rintro n T H ⟨i, hi, rfl, rfl, rfl⟩
  refine w_seq ?_
  refine w_seq ?_
  refine c_reg (by kernel_rfl) rfl ?_
  refine s_p (by first | exact h_move (v := .s _) rfl | exact h_move (v := .agg _) rfl | exact h_move (v := .tup _) rfl) ?_
  refine s_p (by first | exact h_move (v := .s _) rfl | exact h_move (v := .agg _) rfl | exact h_move (v := .tup _) rfl) ?_
  refine s_p (h_bin rfl rfl (b_lss rfl)) ?_
  refine s_nil ?_
  refine n_wp ?_
  refine w_cond rfl (fun hc_t66 => ?_) (fun hc_t66 => ?_)
  · exact absurd hc_t66 (by intro h; have := of_decide_eq_true h; omega)
  refine w_exit ?_
  refine x_thn ?_
  refine x_thn ?_
  refine x_eq ?_
  refine n_wp ?_
  refine w_seq ?_
  refine c_any 6 mix (by kernel_rfl) (by kernel_rfl) rfl rfl rfl ?_
  refine t_p (h_call callable_36 rfl (alive19 _)) ?_
  refine t_p (by first | exact h_move (v := .s _) rfl | exact h_move (v := .agg _) rfl | exact h_move (v := .tup _) rfl) ?_
  first | refine t_on rfl rfl (by first | rfl | assumption) (by first | exact h_move (v := .s _) rfl | exact h_move (v := .agg _) rfl | exact h_move (v := .tup _) rfl) ?_ | refine t_off rfl rfl (by first | rfl | assumption) ?_
  first | refine t_on rfl rfl (by first | rfl | assumption) (h_slice_h (h := 13) rfl rfl rfl Try.underlying29 Try.sizeOf5 (by omega)) ?_ | refine t_off rfl rfl (by first | rfl | assumption) ?_
  first | refine t_on rfl rfl (by first | rfl | assumption) (by first | exact h_move (v := .s _) rfl | exact h_move (v := .agg _) rfl | exact h_move (v := .tup _) rfl) ?_ | refine t_off rfl rfl (by first | rfl | assumption) ?_
  first | refine t_on rfl rfl (by first | rfl | assumption) (h_slice_h (h := 13) rfl rfl rfl Try.underlying29 Try.sizeOf5 (by omega)) ?_ | refine t_off rfl rfl (by first | rfl | assumption) ?_
  refine t_nil ?_
  first | refine s_on rfl rfl (by first | rfl | assumption) (h_call callable_27 rfl (same_ss ((X.drop 0).take 13) 13 _ _ (by omega) _ 2 0 0 (29 + 0) _ X rfl rfl (by omega) rfl 3 0 0 (29 + 0) _ Y rfl rfl (by omega) hpre)) ?_ | refine s_off rfl rfl (by first | rfl | assumption) ?_
  refine s_p (by first | exact h_pick_t rfl (by first | rfl | assumption) rfl | exact h_pick_f rfl (by first | rfl | assumption) rfl) ?_
  refine s_p (by first | exact h_assign (v := .s _) rfl | exact h_assign (v := .agg _) rfl | exact h_assign (v := .tup _) rfl) ?_
  refine s_nil ?_
  refine n_wp ?_
  refine w_ret ?_
  exact ⟨.inl rfl, ret_tmp Try.results12 rfl⟩
def J12vv (M C X Y : List Int) (l n : Nat) (a0 : Option Addr) (c0 : Nat) (a1 : Option Addr) (c1 : Nat) (q : Nat) (T : Tm) (H : Heap) : Prop := ∃ i, i ≤ 0 ∧ q = 0 - i ∧
  T = [(1, .s (.val (.slice a0 0 c0))), (2, .s (.val (.slice a1 0 c1))), (3, .s (.ptr 0 0 0)), (7, .s (.int .i64 ((0 : Nat) : Int))), (8, .s (.slice 1 0 0 (29 + 0) (29 + 0))), (10, .s (.slice 2 0 0 (29 + 0) (29 + 0))), (12, .s (.int .i64 ((i : Nat) : Int)))] ∧ H = [some ⟨true, [.ints .u8 32 M, .ints .u8 16 C, .one (.int .u32 ((l : Nat) : Int)), .one (.int .u64 ((n : Nat) : Int))]⟩, some ⟨true, [.ints .u8 (29 + 0) X]⟩, some ⟨true, [.ints .u8 (29 + 0) Y]⟩]
set_option maxRecDepth 100000 in
set_option maxHeartbeats 2000000 in
theorem part_vv (M C : List Int) (l n : Nat) (hM : M.length = 32) (hC : C.length = 16) (hC8 : U8 C) (hl : l < 4294967296) (hn : n < 18446744073709551616) (a0 : Option Addr) (c0 : Nat) (a1 : Option Addr) (c1 : Nat)   (c : Code) (hc : Try.f12.body = some c) (W : Nat → Prop) (w : World) (ρ0 : Rho) (hW : ∀ b, w.heap.size ≤ b → W b) (hdom : ∀ id, 0 ≤ id → ρ0 id = none) :
    Wp ⟨Try.prog, W, w, ρ0, 98, 0, hW, hdom⟩ c (argT 0 [.agg [.ints .u8 32 M, .ints .u8 16 C, .one (.int .u32 ((l : Nat) : Int)), .one (.int .u64 ((n : Nat) : Int))], .s (.val (.slice a0 0 c0)), .s (.val (.slice a1 0 c1))]) [] (DoneF ⟨Try.prog, W, w, ρ0, 98, 0, hW, hdom⟩ Try.f12 (.s (.bool true))) := by
  obtain ⟨X, hX⟩ : ∃ L : List Int, (sealL M C ((l : Nat) : Int) ((n : Nat) : Int) [] 0) = L := ⟨_, rfl⟩
  obtain ⟨Y, hY⟩ : ∃ L : List Int, (sealL M C ((l : Nat) : Int) ((n : Nat) : Int) [] 0) = L := ⟨_, rfl⟩
  have hXl : X.length = 29 + 0 := by rw [← hX]; exact sealL_len _ _ _ _ _ _
  have hYl : Y.length = 29 + 0 := by rw [← hY]; exact sealL_len _ _ _ _ _ _
  have hpre : ((X.drop 0).take 13) = ((Y.drop 0).take 13) := by rw [← hX, ← hY]; first | done | exact seal_pre _ _ _ _ _ _ _ _ _ _
  cases hc
  refine w_seq ?_
  refine c_reg (by kernel_rfl) rfl ?_
  refine s_a (by first | exact h_box_agg rfl rfl | exact h_box rfl (by simp) rfl) rfl ?_
  refine s_p (by first | exact h_assign (v := .s _) rfl | exact h_assign (v := .agg _) rfl | exact h_assign (v := .tup _) rfl) ?_
  refine s_nil ?_
  refine n_wp ?_
  refine w_seq ?_
  refine c_reg (by kernel_rfl) rfl ?_
  refine s_p (by first | exact h_move (v := .s _) rfl | exact h_move (v := .agg _) rfl | exact h_move (v := .tup _) rfl) ?_
  refine s_p (by first | exact h_len rfl Try.underlying29 | exact h_len_nil rfl Try.underlying29 | exact h_len_val rfl Try.underlying29) ?_
  refine s_p (by first | exact h_move (v := .s _) rfl | exact h_move (v := .agg _) rfl | exact h_move (v := .tup _) rfl) ?_
  refine s_p (by first | exact h_len rfl Try.underlying29 | exact h_len_nil rfl Try.underlying29 | exact h_len_val rfl Try.underlying29) ?_
  refine s_p (h_min3 (r := ((0 : Nat) : Int)) rfl rfl rfl (by repeat (first | split | omega))) ?_
  refine s_p (by first | exact h_assign (v := .s _) rfl | exact h_assign (v := .agg _) rfl | exact h_assign (v := .tup _) rfl) ?_
  refine s_nil ?_
  refine n_wp ?_
  refine w_seq ?_
  refine c_any 14 mix (by kernel_rfl) (by kernel_rfl) rfl rfl rfl ?_
  refine t_p (h_field rfl Try.underlying63 rfl Try.sizeOf56 (by decide)) ?_
  refine t_p (h_load_agg rfl rfl (.two (m := 32) (n := 16) rfl rfl (.seg rfl rfl)) Try.isAgg56 Try.sizeOf56) ?_
  refine t_p (h_field rfl Try.underlying63 rfl Try.sizeOf61 (by decide)) ?_
  refine t_p (by first | exact h_load_ints rfl rfl rfl (by omega) rfl Try.isAgg61 | exact h_load_one rfl rfl rfl Try.isAgg61) ?_
  refine t_p (h_field rfl Try.underlying63 rfl Try.sizeOf40 (by decide)) ?_
  refine t_p (by first | exact h_load_ints rfl rfl rfl (by omega) rfl Try.isAgg40 | exact h_load_one rfl rfl rfl Try.isAgg40) ?_
  refine t_p (by first | exact h_move (v := .s _) rfl | exact h_move (v := .agg _) rfl | exact h_move (v := .tup _) rfl) ?_
  refine t_p (by first | exact h_move (v := .s _) rfl | exact h_move (v := .agg _) rfl | exact h_move (v := .tup _) rfl) ?_
  refine t_p (h_slice_hv rfl rfl rfl Try.underlying29 Try.sizeOf5) ?_
  refine t_a (h_call callable_35 rfl ((show ACall _ _ _ _ _ [⟨true, [.ints .u8 (29 + 0) X]⟩] by rw [← hX]; exact seal_v _ M C l n hM hC hC8 hl a0 c0))) rfl ?_
  refine t_p (by first | exact h_move (v := .s _) rfl | exact h_move (v := .agg _) rfl | exact h_move (v := .tup _) rfl) ?_
  refine t_p (h_extract rfl rfl (by simp)) ?_
  refine t_p (h_extract rfl rfl (by simp)) ?_
  refine t_p (by first | exact h_assign (v := .s _) rfl | exact h_assign (v := .agg _) rfl | exact h_assign (v := .tup _) rfl) ?_
  refine t_nil ?_
  refine s_p (by first | exact h_assign (v := .s _) rfl | exact h_assign (v := .agg _) rfl | exact h_assign (v := .tup _) rfl) ?_
  refine s_nil ?_
  refine n_wp ?_
  refine w_seq ?_
  refine c_any 14 mix (by kernel_rfl) (by kernel_rfl) rfl rfl rfl ?_
  refine t_p (h_field rfl Try.underlying63 rfl Try.sizeOf56 (by decide)) ?_
  refine t_p (h_load_agg rfl rfl (.two (m := 32) (n := 16) rfl rfl (.seg rfl rfl)) Try.isAgg56 Try.sizeOf56) ?_
  refine t_p (h_field rfl Try.underlying63 rfl Try.sizeOf61 (by decide)) ?_
  refine t_p (by first | exact h_load_ints rfl rfl rfl (by omega) rfl Try.isAgg61 | exact h_load_one rfl rfl rfl Try.isAgg61) ?_
  refine t_p (h_field rfl Try.underlying63 rfl Try.sizeOf40 (by decide)) ?_
  refine t_p (by first | exact h_load_ints rfl rfl rfl (by omega) rfl Try.isAgg40 | exact h_load_one rfl rfl rfl Try.isAgg40) ?_
  refine t_p (by first | exact h_move (v := .s _) rfl | exact h_move (v := .agg _) rfl | exact h_move (v := .tup _) rfl) ?_
  refine t_p (by first | exact h_move (v := .s _) rfl | exact h_move (v := .agg _) rfl | exact h_move (v := .tup _) rfl) ?_
  refine t_p (h_slice_hv rfl rfl rfl Try.underlying29 Try.sizeOf5) ?_
  refine t_a (h_call callable_35 rfl ((show ACall _ _ _ _ _ [⟨true, [.ints .u8 (29 + 0) Y]⟩] by rw [← hY]; exact seal_v _ M C l n hM hC hC8 hl a1 c1))) rfl ?_
  refine t_p (by first | exact h_move (v := .s _) rfl | exact h_move (v := .agg _) rfl | exact h_move (v := .tup _) rfl) ?_
  refine t_p (h_extract rfl rfl (by simp)) ?_
  refine t_p (h_extract rfl rfl (by simp)) ?_
  refine t_p (by first | exact h_assign (v := .s _) rfl | exact h_assign (v := .agg _) rfl | exact h_assign (v := .tup _) rfl) ?_
  refine t_nil ?_
  refine s_p (by first | exact h_assign (v := .s _) rfl | exact h_assign (v := .agg _) rfl | exact h_assign (v := .tup _) rfl) ?_
  refine s_nil ?_
  refine n_wp ?_
  refine w_seq ?_
  refine w_seq ?_
  refine c_reg (by kernel_rfl) rfl ?_
  refine s_p (by first | exact h_move (v := .s _) rfl | exact h_move (v := .agg _) rfl | exact h_move (v := .tup _) rfl) ?_
  refine s_p (h_bin rfl rfl (b_neq (decide_eq_false (fun h => h rfl)))) ?_
  refine s_p (by first | exact h_move (v := .s _) rfl | exact h_move (v := .agg _) rfl | exact h_move (v := .tup _) rfl) ?_
  first | refine s_on rfl rfl (by first | rfl | assumption) (by first | exact h_move (v := .s _) rfl | exact h_move (v := .agg _) rfl | exact h_move (v := .tup _) rfl) ?_ | refine s_off rfl rfl (by first | rfl | assumption) ?_
  first | refine s_on rfl rfl (by first | rfl | assumption) (h_bin rfl rfl (b_neq (decide_eq_false (fun h => h rfl)))) ?_ | refine s_off rfl rfl (by first | rfl | assumption) ?_
  refine s_p (by first | exact h_pick_t rfl (by first | rfl | assumption) rfl | exact h_pick_f rfl (by first | rfl | assumption) rfl) ?_
  refine s_p (by first | exact h_move (v := .s _) rfl | exact h_move (v := .agg _) rfl | exact h_move (v := .tup _) rfl) ?_
  first | refine s_on rfl rfl (by first | rfl | assumption) (by first | exact h_move (v := .s _) rfl | exact h_move (v := .agg _) rfl | exact h_move (v := .tup _) rfl) ?_ | refine s_off rfl rfl (by first | rfl | assumption) ?_
  first | refine s_on rfl rfl (by first | rfl | assumption) (by first | exact h_len rfl Try.underlying29 | exact h_len_nil rfl Try.underlying29 | exact h_len_val rfl Try.underlying29) ?_ | refine s_off rfl rfl (by first | rfl | assumption) ?_
  first | refine s_on rfl rfl (by first | rfl | assumption) (by first | exact h_move (v := .s _) rfl | exact h_move (v := .agg _) rfl | exact h_move (v := .tup _) rfl) ?_ | refine s_off rfl rfl (by first | rfl | assumption) ?_
  first | refine s_on rfl rfl (by first | rfl | assumption) (h_bin rfl rfl (b_add (r := ((0 + 29 : Nat) : Int)) (wr_n (by omega) (by omega)))) ?_ | refine s_off rfl rfl (by first | rfl | assumption) ?_
  first | refine s_on rfl rfl (by first | rfl | assumption) (h_bin rfl rfl (b_neq (decide_eq_false (fun h => h (by omega))))) ?_ | refine s_off rfl rfl (by first | rfl | assumption) ?_
  refine s_p (by first | exact h_pick_t rfl (by first | rfl | assumption) rfl | exact h_pick_f rfl (by first | rfl | assumption) rfl) ?_
  refine s_p (by first | exact h_move (v := .s _) rfl | exact h_move (v := .agg _) rfl | exact h_move (v := .tup _) rfl) ?_
  first | refine s_on rfl rfl (by first | rfl | assumption) (by first | exact h_move (v := .s _) rfl | exact h_move (v := .agg _) rfl | exact h_move (v := .tup _) rfl) ?_ | refine s_off rfl rfl (by first | rfl | assumption) ?_
  first | refine s_on rfl rfl (by first | rfl | assumption) (by first | exact h_len rfl Try.underlying29 | exact h_len_nil rfl Try.underlying29 | exact h_len_val rfl Try.underlying29) ?_ | refine s_off rfl rfl (by first | rfl | assumption) ?_
  first | refine s_on rfl rfl (by first | rfl | assumption) (by first | exact h_move (v := .s _) rfl | exact h_move (v := .agg _) rfl | exact h_move (v := .tup _) rfl) ?_ | refine s_off rfl rfl (by first | rfl | assumption) ?_
  first | refine s_on rfl rfl (by first | rfl | assumption) (h_bin rfl rfl (b_add (r := ((0 + 29 : Nat) : Int)) (wr_n (by omega) (by omega)))) ?_ | refine s_off rfl rfl (by first | rfl | assumption) ?_
  first | refine s_on rfl rfl (by first | rfl | assumption) (h_bin rfl rfl (b_neq (decide_eq_false (fun h => h (by omega))))) ?_ | refine s_off rfl rfl (by first | rfl | assumption) ?_
  refine s_p (by first | exact h_pick_t rfl (by first | rfl | assumption) rfl | exact h_pick_f rfl (by first | rfl | assumption) rfl) ?_
  refine s_nil ?_
  refine n_wp ?_
  refine w_cond rfl (fun hc_t63 => ?_) (fun hc_t63 => ?_)
  · exact absurd hc_t63 (by simp)
  refine w_skip ?_
  refine n_wp ?_
  refine w_seq ?_
  refine w_seq ?_
  refine c_reg (by kernel_rfl) rfl ?_
  refine s_p (by first | exact h_assign (v := .s _) rfl | exact h_assign (v := .agg _) rfl | exact h_assign (v := .tup _) rfl) ?_
  refine s_nil ?_
  refine n_wp ?_
  refine w_block ?_
  refine c_loop (J12vv M C X Y l n a0 c0 a1 c1 ) 0 ⟨0, Nat.zero_le _, rfl, rfl, rfl⟩ (weak' (by repeat (first | exact trivial | refine ⟨rfl, ?_⟩)) rfl rfl (Nat.le_of_ble_eq_true rfl)) ?_
  rintro n T H ⟨i, hi, rfl, rfl, rfl⟩
  refine w_seq ?_
  refine w_seq ?_
  refine c_reg (by kernel_rfl) rfl ?_
  refine s_p (by first | exact h_move (v := .s _) rfl | exact h_move (v := .agg _) rfl | exact h_move (v := .tup _) rfl) ?_
  refine s_p (by first | exact h_move (v := .s _) rfl | exact h_move (v := .agg _) rfl | exact h_move (v := .tup _) rfl) ?_
  refine s_p (h_bin rfl rfl (b_lss rfl)) ?_
  refine s_nil ?_
  refine n_wp ?_
  refine w_cond rfl (fun hc_t66 => ?_) (fun hc_t66 => ?_)
  · exact absurd hc_t66 (by intro h; have := of_decide_eq_true h; omega)
  refine w_exit ?_
  refine x_thn ?_
  refine x_thn ?_
  refine x_eq ?_
  refine n_wp ?_
  refine w_seq ?_
  refine c_any 6 mix (by kernel_rfl) (by kernel_rfl) rfl rfl rfl ?_
  refine t_p (h_call callable_36 rfl (alive19 _)) ?_
  refine t_p (by first | exact h_move (v := .s _) rfl | exact h_move (v := .agg _) rfl | exact h_move (v := .tup _) rfl) ?_
  first | refine t_on rfl rfl (by first | rfl | assumption) (by first | exact h_move (v := .s _) rfl | exact h_move (v := .agg _) rfl | exact h_move (v := .tup _) rfl) ?_ | refine t_off rfl rfl (by first | rfl | assumption) ?_
  first | refine t_on rfl rfl (by first | rfl | assumption) (h_slice_h (h := 13) rfl rfl rfl Try.underlying29 Try.sizeOf5 (by omega)) ?_ | refine t_off rfl rfl (by first | rfl | assumption) ?_
  first | refine t_on rfl rfl (by first | rfl | assumption) (by first | exact h_move (v := .s _) rfl | exact h_move (v := .agg _) rfl | exact h_move (v := .tup _) rfl) ?_ | refine t_off rfl rfl (by first | rfl | assumption) ?_
  first | refine t_on rfl rfl (by first | rfl | assumption) (h_slice_h (h := 13) rfl rfl rfl Try.underlying29 Try.sizeOf5 (by omega)) ?_ | refine t_off rfl rfl (by first | rfl | assumption) ?_
  refine t_nil ?_
  first | refine s_on rfl rfl (by first | rfl | assumption) (h_call callable_27 rfl (same_ss ((X.drop 0).take 13) 13 _ _ (by omega) _ 1 0 0 (29 + 0) _ X rfl rfl (by omega) rfl 2 0 0 (29 + 0) _ Y rfl rfl (by omega) hpre)) ?_ | refine s_off rfl rfl (by first | rfl | assumption) ?_
  refine s_p (by first | exact h_pick_t rfl (by first | rfl | assumption) rfl | exact h_pick_f rfl (by first | rfl | assumption) rfl) ?_
  refine s_p (by first | exact h_assign (v := .s _) rfl | exact h_assign (v := .agg _) rfl | exact h_assign (v := .tup _) rfl) ?_
  refine s_nil ?_
  refine n_wp ?_
  refine w_ret ?_
  exact ⟨.inl rfl, ret_tmp Try.results12 rfl⟩
end Go.Proofs.X
