/- A part of the proofs of this claim: SealL5 (SealL5). No conditions. -/
import Derived.Test.YtffflnpidipheaaSealL1
import Derived.Test.YtffflnpidipheaaSameW
set_option linter.unusedVariables false
set_option linter.unusedSimpArgs false
open Go Go.Ab Go.Proofs
namespace Go.Proofs.X
theorem callable_13 : Callable Try.prog 13 := ⟨_, Try.func13, by kernel_rfl, rfl⟩
set_option maxRecDepth 100000 in
set_option maxHeartbeats 2000000 in
theorem same_sn (id base idx cap : Nat) (H : Heap) : ACall Try.prog 27 H [.s (.slice id base idx 0 cap), .s (.nils)] (.s (.bool true)) [] := by
  refine acall_gen (args0 := [.s (.slice 0 0 0 0 cap), .s (.nils)]) (H0 := [none]) (vf := fun _ => .s (.bool true)) [(id, base + idx)] Try.func27 rfl Try.ntmps27 (by simp) rfl foot_none rfl (fun i x0 x h0 h1 ρ u hr => by match i, h0, h1 with | 0, h0, h1 => (simp at h0 h1; subst h0; subst h1; exact arg_slice (by rfl) hr) | 1, h0, h1 => (simp at h0 h1; subst h0; subst h1; exact arg_free rfl hr) | i + 2, h0, _ => simp at h0) rfl (ren_free rfl) (fun W w ρ0 hW hdom => ?_)
  refine w_seq ?_
  refine c_reg (by kernel_rfl) rfl ?_
  refine s_p (by first | exact h_assign (v := .s _) rfl | exact h_assign (v := .agg _) rfl | exact h_assign (v := .tup _) rfl) ?_
  refine s_nil ?_
  refine n_wp ?_
  refine w_seq ?_
  refine w_seq ?_
  refine c_reg (by kernel_rfl) rfl ?_
  refine s_p (by first | exact h_move (v := .s _) rfl | exact h_move (v := .agg _) rfl | exact h_move (v := .tup _) rfl) ?_
  refine s_p (by first | exact h_len rfl Try.underlying29 | exact h_len_nil rfl Try.underlying29 | exact h_len_val rfl Try.underlying29) ?_
  refine s_p (by first | exact h_move (v := .s _) rfl | exact h_move (v := .agg _) rfl | exact h_move (v := .tup _) rfl) ?_
  refine s_p (by first | exact h_len rfl Try.underlying29 | exact h_len_nil rfl Try.underlying29 | exact h_len_val rfl Try.underlying29) ?_
  refine s_p (h_bin rfl rfl (b_neq rfl)) ?_
  refine s_nil ?_
  refine n_wp ?_
  refine w_cond rfl (fun hc_t10 => ?_) (fun hc_t10 => ?_)
  · exact absurd hc_t10 (by exact absurd rfl (of_decide_eq_true hc_t10))
  refine w_skip ?_
  refine n_wp ?_
  refine w_seq ?_
  refine w_seq ?_
  refine c_reg (by kernel_rfl) rfl ?_
  refine s_p (by first | exact h_assign (v := .s _) rfl | exact h_assign (v := .agg _) rfl | exact h_assign (v := .tup _) rfl) ?_
  refine s_nil ?_
  refine n_wp ?_
  refine w_block ?_
  refine c_loop (I27e (.slice 0 0 0 0 cap) .nils [none]) 0 ⟨rfl, rfl⟩ (weak' (by repeat (first | exact trivial | refine ⟨rfl, ?_⟩)) rfl rfl (Nat.le_of_ble_eq_true rfl)) ?_
  rintro n T H ⟨rfl, rfl⟩
  refine w_seq ?_
  refine w_seq ?_
  refine c_reg (by kernel_rfl) rfl ?_
  refine s_p (by first | exact h_move (v := .s _) rfl | exact h_move (v := .agg _) rfl | exact h_move (v := .tup _) rfl) ?_
  refine s_p (by first | exact h_move (v := .s _) rfl | exact h_move (v := .agg _) rfl | exact h_move (v := .tup _) rfl) ?_
  refine s_p (by first | exact h_len rfl Try.underlying29 | exact h_len_nil rfl Try.underlying29 | exact h_len_val rfl Try.underlying29) ?_
  refine s_p (h_bin rfl rfl (b_lss rfl)) ?_
  refine s_nil ?_
  refine n_wp ?_
  refine w_cond rfl (fun hc_t14 => ?_) (fun hc_t14 => ?_)
  · exact absurd hc_t14 (by exact absurd (of_decide_eq_true hc_t14) (by omega))
  refine w_exit ?_
  refine x_thn ?_
  refine x_thn ?_
  refine x_eq ?_
  refine n_wp ?_
  refine w_seq ?_
  refine c_reg (by kernel_rfl) rfl ?_
  refine s_p (by first | exact h_assign (v := .s _) rfl | exact h_assign (v := .agg _) rfl | exact h_assign (v := .tup _) rfl) ?_
  refine s_nil ?_
  refine n_wp ?_
  refine w_ret ?_
  refine done0 ?_
  exact ret_tmp Try.results27 rfl
def J13as (M C X : List Int) (l n : Nat) (len cap : Nat) (B : List Int) (q : Nat) (T : Tm) (H : Heap) : Prop := ∃ i, i ≤ 4 ∧ q = 4 - i ∧ T = [(1, .s (.slice 0 0 0 len cap)), (2, .s (.ptr 1 0 0)), (5, .s (.slice 2 0 0 (29 + len) (29 + len))), (7, .s (.int .i64 ((13 + len : Nat) : Int))), (8, .s (.ptr 4 0 0)), (9, .s (.ptr 5 0 0)), (10, .s (.int .i64 ((i : Nat) : Int)))] ∧ H = [some ⟨false, [.ints .u8 len B]⟩, some ⟨true, [.ints .u8 32 M, .ints .u8 16 C, .one (.int .u32 ((l : Nat) : Int)), .one (.int .u64 ((n : Nat) : Int))]⟩, some ⟨true, [.ints .u8 (29 + len) X]⟩, some ⟨true, [.one (.slice 2 0 0 (13 + len) (29 + len))]⟩, some ⟨true, [.ints .u8 32 (sMac M X (13 + len))]⟩, some ⟨true, [.ints .u8 16 (hf ((l : Nat) : Int) i)]⟩]
def J13bs (M C X : List Int) (l n : Nat) (len cap : Nat) (B : List Int) (q : Nat) (T : Tm) (H : Heap) : Prop := ∃ i, i ≤ 8 ∧ q = 8 - i ∧ T = [(1, .s (.slice 0 0 0 len cap)), (2, .s (.ptr 1 0 0)), (5, .s (.slice 2 0 0 (29 + len) (29 + len))), (7, .s (.int .i64 ((13 + len : Nat) : Int))), (8, .s (.ptr 4 0 0)), (9, .s (.ptr 5 0 0)), (11, .s (.int .i64 ((i : Nat) : Int)))] ∧ H = [some ⟨false, [.ints .u8 len B]⟩, some ⟨true, [.ints .u8 32 M, .ints .u8 16 C, .one (.int .u32 ((l : Nat) : Int)), .one (.int .u64 ((n : Nat) : Int))]⟩, some ⟨true, [.ints .u8 (29 + len) X]⟩, some ⟨true, [.one (.slice 2 0 0 (13 + len) (29 + len))]⟩, some ⟨true, [.ints .u8 32 (sMac M X (13 + len))]⟩, some ⟨true, [.ints .u8 16 (hg ((l : Nat) : Int) ((n : Nat) : Int) i)]⟩]
set_option maxRecDepth 100000 in
set_option maxHeartbeats 2000000 in
theorem head_s (M C : List Int) (l n : Nat) (hM : M.length = 32) (hC : C.length = 16) (hC8 : U8 C) (hl : l < 4294967296) (hn : n < 18446744073709551616) (len cap : Nat) (B : List Int) (hBl : B.length = len) (hcap : len ≤ cap) (h0 : 0 < len) (h2k : len ≤ 2019) (cd : Code) (hc : Try.f13.body = some cd) (W : Nat → Prop) (w : World) (ρ0 : Rho) (hW : ∀ b, w.heap.size ≤ b → W b) (hdom : ∀ id, 1 ≤ id → ρ0 id = none) :
    Wp ⟨Try.prog, W, w, ρ0, 106, 1, hW, hdom⟩ cd (argT 0 [.agg [.ints .u8 32 M, .ints .u8 16 C, .one (.int .u32 ((l : Nat) : Int)), .one (.int .u64 ((n : Nat) : Int))], .s (.slice 0 0 0 len cap)]) [some ⟨false, [.ints .u8 len B]⟩] (DoneF ⟨Try.prog, W, w, ρ0, 106, 1, hW, hdom⟩ Try.f13 (.s (.bool true))) := by
  obtain ⟨X, hX⟩ : ∃ L : List Int, (sealL M C ((l : Nat) : Int) ((n : Nat) : Int) B len) = L := ⟨_, rfl⟩
  have hXl : X.length = 29 + len := by rw [← hX]; exact sealL_len _ _ _ _ _ _
  have hX9 : X.getD 0 0 = 9 := by rw [← hX]; exact seal_nine _ _ _ _ _ _
  have hfx : ((X.drop (0 + 1)).take 12) = (((fiL (ahL ((l : Nat) : Int) ((n : Nat) : Int))).drop 0).take 12) := by rw [← hX]; exact seal_first _ _ _ _ _ _
  have hlx : ((X.drop (0 + (13 + len))).take 16) = (((sMac M X (13 + len)).drop 0).take 16) := by rw [← hX]; exact seal_last _ _ _ _ _ _
  have hcx : (streamN C (fiL (ahL ((l : Nat) : Int) ((n : Nat) : Int))) B len) = (X.drop (0 + 13)).take len := by rw [← hX]; exact (seal_ct _ _ _ _ _ _).symm
  cases hc
  refine w_seq ?_
  refine c_reg (by kernel_rfl) rfl ?_
  refine s_a (by first | exact h_box_agg rfl rfl | exact h_box rfl (by simp) rfl) rfl ?_
  refine s_p (by first | exact h_assign (v := .s _) rfl | exact h_assign (v := .agg _) rfl | exact h_assign (v := .tup _) rfl) ?_
  refine s_nil ?_
  refine n_wp ?_
  refine w_seq ?_
  refine c_reg (by kernel_rfl) rfl ?_
  refine s_p (h_field rfl Try.underlying63 rfl Try.sizeOf56 (by decide)) ?_
  refine s_p (h_load_agg rfl rfl (.two (m := 32) (n := 16) rfl rfl (.seg rfl rfl)) Try.isAgg56 Try.sizeOf56) ?_
  refine s_p (h_field rfl Try.underlying63 rfl Try.sizeOf61 (by decide)) ?_
  refine s_p (by first | exact h_load_ints rfl rfl rfl (by omega) rfl Try.isAgg61 | exact h_load_one rfl rfl rfl Try.isAgg61) ?_
  refine s_p (h_field rfl Try.underlying63 rfl Try.sizeOf40 (by decide)) ?_
  refine s_p (by first | exact h_load_ints rfl rfl rfl (by omega) rfl Try.isAgg40 | exact h_load_one rfl rfl rfl Try.isAgg40) ?_
  refine s_p (by first | exact h_move (v := .s _) rfl | exact h_move (v := .agg _) rfl | exact h_move (v := .tup _) rfl) ?_
  refine s_a (h_call callable_35 rfl ((show ACall _ _ _ _ _ [⟨true, [.ints .u8 (29 + len) X]⟩] by rw [← hX]; exact seal_s _ M C l n hM hC hC8 hl 0 0 len cap B _ hBl hcap (by omega) rfl (fun i y hy => by rw [Nat.zero_add i]; exact hy) h0 h2k))) rfl ?_
  refine s_p (by first | exact h_move (v := .s _) rfl | exact h_move (v := .agg _) rfl | exact h_move (v := .tup _) rfl) ?_
  refine s_p (h_extract rfl rfl (by simp)) ?_
  refine s_p (h_extract rfl rfl (by simp)) ?_
  refine s_p (by first | exact h_assign (v := .s _) rfl | exact h_assign (v := .agg _) rfl | exact h_assign (v := .tup _) rfl) ?_
  refine s_p (by first | exact h_assign (v := .s _) rfl | exact h_assign (v := .agg _) rfl | exact h_assign (v := .tup _) rfl) ?_
  refine s_nil ?_
  refine n_wp ?_
  refine w_seq ?_
  refine w_seq ?_
  refine c_reg (by kernel_rfl) rfl ?_
  refine s_p (by first | exact h_move (v := .s _) rfl | exact h_move (v := .agg _) rfl | exact h_move (v := .tup _) rfl) ?_
  refine s_p (h_bin rfl rfl (b_neq (decide_eq_false (fun h => h rfl)))) ?_
  refine s_nil ?_
  refine n_wp ?_
  refine w_cond rfl (fun hc_t24 => ?_) (fun hc_t24 => ?_)
  · exact absurd hc_t24 (by simp)
  refine w_skip ?_
  refine n_wp ?_
  refine w_seq ?_
  refine w_seq ?_
  refine c_reg (by kernel_rfl) rfl ?_
  refine s_p (by first | exact h_move (v := .s _) rfl | exact h_move (v := .agg _) rfl | exact h_move (v := .tup _) rfl) ?_
  refine s_p (by first | exact h_len rfl Try.underlying29 | exact h_len_nil rfl Try.underlying29 | exact h_len_val rfl Try.underlying29) ?_
  refine s_p (h_bin rfl rfl (b_lss (decide_eq_false (by omega)))) ?_
  refine s_nil ?_
  refine n_wp ?_
  refine w_cond rfl (fun hc_t33 => ?_) (fun hc_t33 => ?_)
  · exact absurd hc_t33 (by simp)
  refine w_skip ?_
  refine n_wp ?_
  refine w_seq ?_
  refine c_reg (by kernel_rfl) rfl ?_
  refine s_p (by first | exact h_move (v := .s _) rfl | exact h_move (v := .agg _) rfl | exact h_move (v := .tup _) rfl) ?_
  refine s_p (by first | exact h_len rfl Try.underlying29 | exact h_len_nil rfl Try.underlying29 | exact h_len_val rfl Try.underlying29) ?_
  refine s_p (h_bin rfl rfl (b_sub (r := ((13 + len : Nat) : Int)) (wr_n (by omega) (by omega)))) ?_
  refine s_p (by first | exact h_assign (v := .s _) rfl | exact h_assign (v := .agg _) rfl | exact h_assign (v := .tup _) rfl) ?_
  refine s_nil ?_
  refine n_wp ?_
  refine w_seq ?_
  refine c_any 9 mix (by kernel_rfl) (by kernel_rfl) rfl rfl rfl ?_
  refine t_p (h_field rfl Try.underlying63 rfl Try.sizeOf56 (by decide)) ?_
  refine t_p (h_field rfl Try.underlying56 rfl Try.sizeOf44 (by decide)) ?_
  refine t_p (h_asl_0 rfl Try.underlying44 Try.sizeOf5 (by omega)) ?_
  refine t_p (by first | exact h_move (v := .s _) rfl | exact h_move (v := .agg _) rfl | exact h_move (v := .tup _) rfl) ?_
  refine t_p (by first | exact h_move (v := .s _) rfl | exact h_move (v := .agg _) rfl | exact h_move (v := .tup _) rfl) ?_
  refine t_p (h_slice_h (h := 13 + len) rfl rfl rfl Try.underlying29 Try.sizeOf5 (by omega)) ?_
  refine t_a (h_bsls1 rfl (by simp) Try.underlying92 Try.sizeOf29 Try.zeroValue29 rfl rfl) rfl ?_
  refine t_p (h_call callable_31 rfl (mac1 _ 1 0 32 3 M _ _ ((X.drop 0).take (13 + len)) (13 + len) (29 + len) hM (Nat.le_refl _) rfl win_fst rfl 2 0 _ (by rw [List.drop_zero, List.length_take]; omega) (by omega) (by omega) rfl (fun i y hy => win_ints (segs := [.ints .u8 (29 + len) X]) (base := 0) (idx := 0) (n := 13 + len) (m := 29 + len) rfl (by omega) i y hy) rfl)) ?_
  refine t_a (h_alloc (segs := [.ints .u8 32 (z 32)]) Try.zeroValue44 (by kernel_rfl) rfl) rfl ?_
  refine t_nil ?_
  refine s_st (m_store_agg (n := 32) (segs := [.ints .u8 32 (z 32)]) (sub := [.ints .u8 32 (sMac M X (13 + len))]) (id := 4) (base := 0) (idx := 0) rfl rfl rfl (.whole (Nat.le_of_ble_eq_true rfl) rfl rfl) Try.sizeOf44 rfl) ?_
  refine s_nil ?_
  refine n_wp ?_
  refine w_seq ?_
  refine c_reg (by kernel_rfl) rfl ?_
  refine s_a (h_alloc (segs := [.ints .u8 16 (z 16)]) Try.zeroValue22 (by kernel_rfl) rfl) rfl ?_
  refine s_nil ?_
  refine n_wp ?_
  refine w_seq ?_
  refine w_seq ?_
  refine c_reg (by kernel_rfl) rfl ?_
  refine s_p (by first | exact h_assign (v := .s _) rfl | exact h_assign (v := .agg _) rfl | exact h_assign (v := .tup _) rfl) ?_
  refine s_nil ?_
  refine n_wp ?_
  refine w_block ?_
  refine c_loop (J13as M C X l n len cap B) 4 ⟨0, Nat.zero_le _, rfl, rfl, rfl⟩ (weak' (by repeat (first | exact trivial | refine ⟨rfl, ?_⟩)) rfl rfl (Nat.le_of_ble_eq_true rfl)) ?_
  rintro n T H ⟨i, hi, rfl, rfl, rfl⟩
  refine w_seq ?_
  refine w_seq ?_
  refine c_reg (by kernel_rfl) rfl ?_
  refine s_p (by first | exact h_move (v := .s _) rfl | exact h_move (v := .agg _) rfl | exact h_move (v := .tup _) rfl) ?_
  refine s_p (h_bin rfl rfl (b_lss rfl)) ?_
  refine s_nil ?_
  refine n_wp ?_
  refine w_cond rfl (fun hc_t46 => ?_) (fun hc_t46 => ?_)
  · skip
    have hlt : i < 4 := by have := of_decide_eq_true hc_t46; omega
    refine w_skip ?_
    refine n_wp ?_
    refine w_seq ?_
    refine w_block ?_
    refine c_reg (by kernel_rfl) rfl ?_
    refine s_p (by first | exact h_move (v := .s _) rfl | exact h_move (v := .agg _) rfl | exact h_move (v := .tup _) rfl) ?_
    refine s_p (h_field rfl Try.underlying63 rfl Try.sizeOf61 (by decide)) ?_
    refine s_p (by first | exact h_load_ints rfl rfl rfl (by omega) rfl Try.isAgg61 | exact h_load_one rfl rfl rfl Try.isAgg61) ?_
    refine s_p (by first | exact h_move (v := .s _) rfl | exact h_move (v := .agg _) rfl | exact h_move (v := .tup _) rfl) ?_
    refine s_p (h_bin rfl rfl (b_mul (r := ((8 * i : Nat) : Int)) (wr_n (by omega) (by omega)))) ?_
    refine s_p (h_bin rfl rfl (b_sub (r := ((24 - 8 * i : Nat) : Int)) (wr_n (by omega) (by omega)))) ?_
    refine s_p (h_conv (r := ((24 - 8 * i : Nat) : Int)) rfl Try.underlying3 Try.underlying71 (wrap64 (by omega) (by omega))) ?_
    refine s_p (h_bin rfl rfl (b_shr (by omega) rfl)) ?_
    refine s_p (h_conv rfl Try.underlying61 Try.underlying5 rfl) ?_
    refine s_p (by first | exact h_ix rfl rfl Try.underlying22 Try.sizeOf5 (by omega) | exact h_ixa rfl rfl Try.underlying22 Try.sizeOf5 (by omega) | exact h_ixl (Int.toNat _) rfl rfl (Int.toNat_of_nonneg (by omega)).symm Try.underlying22 Try.sizeOf5 (by omega)) ?_
    refine s_st (by first | exact m_store_int rfl rfl rfl rfl (by omega) (by (first | exact hf_len _ _ | exact hg_len _ _ _)) Try.sizeOf5 rfl | exact m_store_one rfl rfl (by simp) rfl rfl Try.sizeOf5 rfl) ?_
    refine s_nil ?_
    refine n_blo ?_
    refine n_wp ?_
    refine c_reg (by kernel_rfl) rfl ?_
    refine s_p (by first | exact h_move (v := .s _) rfl | exact h_move (v := .agg _) rfl | exact h_move (v := .tup _) rfl) ?_
    refine s_p (by first | exact h_bin rfl rfl (b_add (Go.IntWalk.i64_in _ (by omega))) | exact h_bin rfl rfl (b_add rfl)) ?_
    refine s_p (by first | exact h_assign (v := .s _) rfl | exact h_assign (v := .agg _) rfl | exact h_assign (v := .tup _) rfl) ?_
    refine s_nil ?_
    exact n_round (4 - (i + 1)) (by omega) ⟨i + 1, by omega, rfl, rfl, rfl⟩ (weak' (by repeat (first | exact trivial | refine ⟨rfl, ?_⟩)) rfl rfl (Nat.le_of_ble_eq_true rfl))
  · skip
    have hi4 : 4 = i := by have := of_decide_eq_false hc_t46; omega
    subst hi4
    refine w_exit ?_
    refine x_thn ?_
    refine x_thn ?_
    refine x_eq ?_
    refine n_wp ?_
    refine w_seq ?_
    refine w_seq ?_
    refine c_reg (by kernel_rfl) rfl ?_
    refine s_p (by first | exact h_assign (v := .s _) rfl | exact h_assign (v := .agg _) rfl | exact h_assign (v := .tup _) rfl) ?_
    refine s_nil ?_
    refine n_wp ?_
    refine w_block ?_
    refine c_loop (J13bs M C X l n len cap B) 8 ⟨0, Nat.zero_le _, rfl, rfl, rfl⟩ (weak' (by repeat (first | exact trivial | refine ⟨rfl, ?_⟩)) rfl rfl (Nat.le_of_ble_eq_true rfl)) ?_
    rintro n T H ⟨i, hi, rfl, rfl, rfl⟩
    refine w_seq ?_
    refine w_seq ?_
    refine c_reg (by kernel_rfl) rfl ?_
    refine s_p (by first | exact h_move (v := .s _) rfl | exact h_move (v := .agg _) rfl | exact h_move (v := .tup _) rfl) ?_
    refine s_p (h_bin rfl rfl (b_lss rfl)) ?_
    refine s_nil ?_
    refine n_wp ?_
    refine w_cond rfl (fun hc_t60 => ?_) (fun hc_t60 => ?_)
    · skip
      have hlt : i < 8 := by have := of_decide_eq_true hc_t60; omega
      refine w_skip ?_
      refine n_wp ?_
      refine w_seq ?_
      refine w_block ?_
      refine c_reg (by kernel_rfl) rfl ?_
      refine s_p (by first | exact h_move (v := .s _) rfl | exact h_move (v := .agg _) rfl | exact h_move (v := .tup _) rfl) ?_
      refine s_p (h_bin rfl rfl (b_add (r := ((4 + i : Nat) : Int)) (wr_n (by omega) (by omega)))) ?_
      refine s_p (h_field rfl Try.underlying63 rfl Try.sizeOf40 (by decide)) ?_
      refine s_p (by first | exact h_load_ints rfl rfl rfl (by omega) rfl Try.isAgg40 | exact h_load_one rfl rfl rfl Try.isAgg40) ?_
      refine s_p (by first | exact h_move (v := .s _) rfl | exact h_move (v := .agg _) rfl | exact h_move (v := .tup _) rfl) ?_
      refine s_p (h_bin rfl rfl (b_mul (r := ((8 * i : Nat) : Int)) (wr_n (by omega) (by omega)))) ?_
      refine s_p (h_bin rfl rfl (b_sub (r := ((56 - 8 * i : Nat) : Int)) (wr_n (by omega) (by omega)))) ?_
      refine s_p (h_conv (r := ((56 - 8 * i : Nat) : Int)) rfl Try.underlying3 Try.underlying71 (wrap64 (by omega) (by omega))) ?_
      refine s_p (h_bin rfl rfl (b_shr (by omega) rfl)) ?_
      refine s_p (h_conv rfl Try.underlying40 Try.underlying5 rfl) ?_
      refine s_p (by first | exact h_ix rfl rfl Try.underlying22 Try.sizeOf5 (by omega) | exact h_ixa rfl rfl Try.underlying22 Try.sizeOf5 (by omega) | exact h_ixl (Int.toNat _) rfl rfl (Int.toNat_of_nonneg (by omega)).symm Try.underlying22 Try.sizeOf5 (by omega)) ?_
      refine s_st (by first | exact m_store_int rfl rfl rfl rfl (by omega) (by (first | exact hf_len _ _ | exact hg_len _ _ _)) Try.sizeOf5 rfl | exact m_store_one rfl rfl (by simp) rfl rfl Try.sizeOf5 rfl) ?_
      refine s_nil ?_
      refine n_blo ?_
      refine n_wp ?_
      refine c_reg (by kernel_rfl) rfl ?_
      refine s_p (by first | exact h_move (v := .s _) rfl | exact h_move (v := .agg _) rfl | exact h_move (v := .tup _) rfl) ?_
      refine s_p (by first | exact h_bin rfl rfl (b_add (Go.IntWalk.i64_in _ (by omega))) | exact h_bin rfl rfl (b_add rfl)) ?_
      refine s_p (by first | exact h_assign (v := .s _) rfl | exact h_assign (v := .agg _) rfl | exact h_assign (v := .tup _) rfl) ?_
      refine s_nil ?_
      exact n_round (8 - (i + 1)) (by omega) ⟨i + 1, by omega, rfl, rfl, rfl⟩ (weak' (by repeat (first | exact trivial | refine ⟨rfl, ?_⟩)) rfl rfl (Nat.le_of_ble_eq_true rfl))
    · skip
      have hi8 : 8 = i := by have := of_decide_eq_false hc_t60; omega
      subst hi8
      rw [hg_eq l n hl hn]
      refine w_exit ?_
      refine x_thn ?_
      refine x_thn ?_
      refine x_eq ?_
      refine n_wp ?_
      refine w_seq ?_
      refine c_any 30 mix (by kernel_rfl) (by kernel_rfl) rfl rfl rfl ?_
      refine t_p (h_call callable_36 rfl (alive19 _)) ?_
      refine t_p (by first | exact h_move (v := .s _) rfl | exact h_move (v := .agg _) rfl | exact h_move (v := .tup _) rfl) ?_
      first | refine t_on rfl rfl (by first | rfl | assumption) (by first | exact h_move (v := .s _) rfl | exact h_move (v := .agg _) rfl | exact h_move (v := .tup _) rfl) ?_ | refine t_off rfl rfl (by first | rfl | assumption) ?_
      first | refine t_on rfl rfl (by first | rfl | assumption) (h_ixs0l 0 rfl rfl rfl Try.underlying29 Try.sizeOf5 (by omega)) ?_ | refine t_off rfl rfl (by first | rfl | assumption) ?_
      first | refine t_on rfl rfl (by first | rfl | assumption) (by first | exact h_load_ints rfl rfl rfl (by omega) rfl Try.isAgg5 | exact h_load_one rfl rfl rfl Try.isAgg5) ?_ | refine t_off rfl rfl (by first | rfl | assumption) ?_
      first | refine t_on rfl rfl (by first | rfl | assumption) (h_bin rfl rfl (b_eql (decide_eq_true hX9))) ?_ | refine t_off rfl rfl (by first | rfl | assumption) ?_
      refine t_p (by first | exact h_pick_t rfl (by first | rfl | assumption) rfl | exact h_pick_f rfl (by first | rfl | assumption) rfl) ?_
      refine t_p (by first | exact h_move (v := .s _) rfl | exact h_move (v := .agg _) rfl | exact h_move (v := .tup _) rfl) ?_
      first | refine t_on rfl rfl (by first | rfl | assumption) (by first | exact h_move (v := .s _) rfl | exact h_move (v := .agg _) rfl | exact h_move (v := .tup _) rfl) ?_ | refine t_off rfl rfl (by first | rfl | assumption) ?_
      first | refine t_on rfl rfl (by first | rfl | assumption) (h_slice_lh (l := 1) (h := 13) (n := 12) rfl rfl rfl rfl rfl Try.underlying29 Try.sizeOf5 (by omega) (by omega) (by omega) (by omega) rfl) ?_ | refine t_off rfl rfl (by first | rfl | assumption) ?_
      first | refine t_on rfl rfl (by first | rfl | assumption) (h_asl_h (h := 12) rfl rfl rfl Try.underlying22 Try.sizeOf5 (by omega) (by omega)) ?_ | refine t_off rfl rfl (by first | rfl | assumption) ?_
      first | refine t_on rfl rfl (by first | rfl | assumption) (h_call callable_27 rfl (same_ss ((X.drop (0 + 1)).take 12) 12 _ _ (by omega) _ 2 0 (0 + 1) (29 + len) _ X rfl rfl (by omega) rfl 5 0 0 16 _ (fiL (ahL ((l : Nat) : Int) ((n : Nat) : Int))) rfl rfl (by omega) hfx)) ?_ | refine t_off rfl rfl (by first | rfl | assumption) ?_
      refine t_p (by first | exact h_pick_t rfl (by first | rfl | assumption) rfl | exact h_pick_f rfl (by first | rfl | assumption) rfl) ?_
      refine t_p (by first | exact h_move (v := .s _) rfl | exact h_move (v := .agg _) rfl | exact h_move (v := .tup _) rfl) ?_
      first | refine t_on rfl rfl (by first | rfl | assumption) (by first | exact h_move (v := .s _) rfl | exact h_move (v := .agg _) rfl | exact h_move (v := .tup _) rfl) ?_ | refine t_off rfl rfl (by first | rfl | assumption) ?_
      first | refine t_on rfl rfl (by first | rfl | assumption) (by first | exact h_move (v := .s _) rfl | exact h_move (v := .agg _) rfl | exact h_move (v := .tup _) rfl) ?_ | refine t_off rfl rfl (by first | rfl | assumption) ?_
      first | refine t_on rfl rfl (by first | rfl | assumption) (h_slice_l3 (l := 13 + len) (n := 16) (c := 16) rfl rfl rfl Try.underlying29 Try.sizeOf5 (by omega) (by omega) (by omega) (by omega)) ?_ | refine t_off rfl rfl (by first | rfl | assumption) ?_
      first | refine t_on rfl rfl (by first | rfl | assumption) (h_asl_h (h := 16) rfl rfl rfl Try.underlying44 Try.sizeOf5 (by omega) (by omega)) ?_ | refine t_off rfl rfl (by first | rfl | assumption) ?_
      first | refine t_on rfl rfl (by first | rfl | assumption) (h_call callable_27 rfl (same_ss ((X.drop (0 + (13 + len))).take 16) 16 _ _ (by omega) _ 2 0 (0 + (13 + len)) (29 + len) _ X rfl rfl (by omega) rfl 4 0 0 32 _ (sMac M X (13 + len)) rfl rfl (by omega) hlx)) ?_ | refine t_off rfl rfl (by first | rfl | assumption) ?_
      refine t_p (by first | exact h_pick_t rfl (by first | rfl | assumption) rfl | exact h_pick_f rfl (by first | rfl | assumption) rfl) ?_
      refine t_p (by first | exact h_move (v := .s _) rfl | exact h_move (v := .agg _) rfl | exact h_move (v := .tup _) rfl) ?_
      first | refine t_on rfl rfl (by first | rfl | assumption) (by first | exact h_move (v := .s _) rfl | exact h_move (v := .agg _) rfl | exact h_move (v := .tup _) rfl) ?_ | refine t_off rfl rfl (by first | rfl | assumption) ?_
      first | refine t_on rfl rfl (by first | rfl | assumption) (by first | exact h_move (v := .s _) rfl | exact h_move (v := .agg _) rfl | exact h_move (v := .tup _) rfl) ?_ | refine t_off rfl rfl (by first | rfl | assumption) ?_
      first | refine t_on rfl rfl (by first | rfl | assumption) (h_slice_lh (l := 13) (h := 13 + len) (n := len) rfl rfl rfl rfl rfl Try.underlying29 Try.sizeOf5 (by omega) (by omega) (by omega) (by omega) rfl) ?_ | refine t_off rfl rfl (by first | rfl | assumption) ?_
      first | refine t_on rfl rfl (by first | rfl | assumption) (h_field rfl Try.underlying63 rfl Try.sizeOf56 (by decide)) ?_ | refine t_off rfl rfl (by first | rfl | assumption) ?_
      first | refine t_on rfl rfl (by first | rfl | assumption) (h_field rfl Try.underlying56 rfl Try.sizeOf22 (by decide)) ?_ | refine t_off rfl rfl (by first | rfl | assumption) ?_
      first | refine t_on rfl rfl (by first | rfl | assumption) (by first | exact h_load_agg rfl rfl (.whole rfl) Try.isAgg22 Try.sizeOf22 | exact h_load_agg rfl rfl (.seg rfl rfl) Try.isAgg22 Try.sizeOf22 | exact h_load_agg rfl rfl (.ints rfl (by omega)) Try.isAgg22 Try.sizeOf22) ?_ | refine t_off rfl rfl (by first | rfl | assumption) ?_
      first | refine t_on rfl rfl (by first | rfl | assumption) (by first | exact h_load_agg rfl rfl (.whole rfl) Try.isAgg22 Try.sizeOf22 | exact h_load_agg rfl rfl (.seg rfl rfl) Try.isAgg22 Try.sizeOf22 | exact h_load_agg rfl rfl (.ints rfl (by omega)) Try.isAgg22 Try.sizeOf22) ?_ | refine t_off rfl rfl (by first | rfl | assumption) ?_
      first | refine t_on rfl rfl (by first | rfl | assumption) (by first | exact h_move (v := .s _) rfl | exact h_move (v := .agg _) rfl | exact h_move (v := .tup _) rfl) ?_ | refine t_off rfl rfl (by first | rfl | assumption) ?_
      first | refine t_on_a rfl rfl (by first | rfl | assumption) (h_call callable_26 rfl (stream_c C (fiL (ahL ((l : Nat) : Int) ((n : Nat) : Int))) B hC hC8 (fiL_len _) (fiL_U8 (ahL_U8 _ _)) len cap h0 (by omega) _ 0 0 0 len _ B rfl rfl (by omega) (by rw [List.drop_zero, List.take_of_length_le (Nat.le_of_eq hBl)]))) rfl ?_ | refine t_off rfl rfl (by first | rfl | assumption) ?_
      refine t_nil ?_
      first | refine s_on rfl rfl (by first | rfl | assumption) (h_call callable_27 rfl (same_ss (streamN C (fiL (ahL ((l : Nat) : Int) ((n : Nat) : Int))) B len) len _ _ (by omega) _ 2 0 (0 + 13) (29 + len) _ X rfl rfl (by omega) hcx 6 0 0 len _ (streamN C (fiL (ahL ((l : Nat) : Int) ((n : Nat) : Int))) B len) rfl rfl (by omega) (by rw [List.drop_zero, List.take_of_length_le (Nat.le_of_eq (streamN_len _ _ _ _))]))) ?_ | refine s_off rfl rfl (by first | rfl | assumption) ?_
      refine s_p (by first | exact h_pick_t rfl (by first | rfl | assumption) rfl | exact h_pick_f rfl (by first | rfl | assumption) rfl) ?_
      refine s_p (by first | exact h_assign (v := .s _) rfl | exact h_assign (v := .agg _) rfl | exact h_assign (v := .tup _) rfl) ?_
      refine s_nil ?_
      refine n_wp ?_
      refine w_ret ?_
      exact ⟨.inl rfl, ret_tmp Try.results13 rfl⟩
def J13av (M C X : List Int) (l n : Nat) (a : Option Addr) (c : Nat) (q : Nat) (T : Tm) (H : Heap) : Prop := ∃ i, i ≤ 4 ∧ q = 4 - i ∧ T = [(1, .s (.val (.slice a 0 c))), (2, .s (.ptr 0 0 0)), (5, .s (.slice 1 0 0 (29 + 0) (29 + 0))), (7, .s (.int .i64 ((13 + 0 : Nat) : Int))), (8, .s (.ptr 3 0 0)), (9, .s (.ptr 4 0 0)), (10, .s (.int .i64 ((i : Nat) : Int)))] ∧ H = [some ⟨true, [.ints .u8 32 M, .ints .u8 16 C, .one (.int .u32 ((l : Nat) : Int)), .one (.int .u64 ((n : Nat) : Int))]⟩, some ⟨true, [.ints .u8 (29 + 0) X]⟩, some ⟨true, [.one (.slice 1 0 0 (13 + 0) (29 + 0))]⟩, some ⟨true, [.ints .u8 32 (sMac M X (13 + 0))]⟩, some ⟨true, [.ints .u8 16 (hf ((l : Nat) : Int) i)]⟩]
def J13bv (M C X : List Int) (l n : Nat) (a : Option Addr) (c : Nat) (q : Nat) (T : Tm) (H : Heap) : Prop := ∃ i, i ≤ 8 ∧ q = 8 - i ∧ T = [(1, .s (.val (.slice a 0 c))), (2, .s (.ptr 0 0 0)), (5, .s (.slice 1 0 0 (29 + 0) (29 + 0))), (7, .s (.int .i64 ((13 + 0 : Nat) : Int))), (8, .s (.ptr 3 0 0)), (9, .s (.ptr 4 0 0)), (11, .s (.int .i64 ((i : Nat) : Int)))] ∧ H = [some ⟨true, [.ints .u8 32 M, .ints .u8 16 C, .one (.int .u32 ((l : Nat) : Int)), .one (.int .u64 ((n : Nat) : Int))]⟩, some ⟨true, [.ints .u8 (29 + 0) X]⟩, some ⟨true, [.one (.slice 1 0 0 (13 + 0) (29 + 0))]⟩, some ⟨true, [.ints .u8 32 (sMac M X (13 + 0))]⟩, some ⟨true, [.ints .u8 16 (hg ((l : Nat) : Int) ((n : Nat) : Int) i)]⟩]
set_option maxRecDepth 100000 in
set_option maxHeartbeats 2000000 in
theorem head_v (M C : List Int) (l n : Nat) (hM : M.length = 32) (hC : C.length = 16) (hC8 : U8 C) (hl : l < 4294967296) (hn : n < 18446744073709551616) (a : Option Addr) (c : Nat)  (cd : Code) (hc : Try.f13.body = some cd) (W : Nat → Prop) (w : World) (ρ0 : Rho) (hW : ∀ b, w.heap.size ≤ b → W b) (hdom : ∀ id, 0 ≤ id → ρ0 id = none) :
    Wp ⟨Try.prog, W, w, ρ0, 106, 0, hW, hdom⟩ cd (argT 0 [.agg [.ints .u8 32 M, .ints .u8 16 C, .one (.int .u32 ((l : Nat) : Int)), .one (.int .u64 ((n : Nat) : Int))], .s (.val (.slice a 0 c))]) [] (DoneF ⟨Try.prog, W, w, ρ0, 106, 0, hW, hdom⟩ Try.f13 (.s (.bool true))) := by
  obtain ⟨X, hX⟩ : ∃ L : List Int, (sealL M C ((l : Nat) : Int) ((n : Nat) : Int) [] 0) = L := ⟨_, rfl⟩
  have hXl : X.length = 29 + 0 := by rw [← hX]; exact sealL_len _ _ _ _ _ _
  have hX9 : X.getD 0 0 = 9 := by rw [← hX]; exact seal_nine _ _ _ _ _ _
  have hfx : ((X.drop (0 + 1)).take 12) = (((fiL (ahL ((l : Nat) : Int) ((n : Nat) : Int))).drop 0).take 12) := by rw [← hX]; exact seal_first _ _ _ _ _ _
  have hlx : ((X.drop (0 + (13 + 0))).take 16) = (((sMac M X (13 + 0)).drop 0).take 16) := by rw [← hX]; exact seal_last _ _ _ _ _ _
  cases hc
  refine w_seq ?_
  refine c_reg (by kernel_rfl) rfl ?_
  refine s_a (by first | exact h_box_agg rfl rfl | exact h_box rfl (by simp) rfl) rfl ?_
  refine s_p (by first | exact h_assign (v := .s _) rfl | exact h_assign (v := .agg _) rfl | exact h_assign (v := .tup _) rfl) ?_
  refine s_nil ?_
  refine n_wp ?_
  refine w_seq ?_
  refine c_reg (by kernel_rfl) rfl ?_
  refine s_p (h_field rfl Try.underlying63 rfl Try.sizeOf56 (by decide)) ?_
  refine s_p (h_load_agg rfl rfl (.two (m := 32) (n := 16) rfl rfl (.seg rfl rfl)) Try.isAgg56 Try.sizeOf56) ?_
  refine s_p (h_field rfl Try.underlying63 rfl Try.sizeOf61 (by decide)) ?_
  refine s_p (by first | exact h_load_ints rfl rfl rfl (by omega) rfl Try.isAgg61 | exact h_load_one rfl rfl rfl Try.isAgg61) ?_
  refine s_p (h_field rfl Try.underlying63 rfl Try.sizeOf40 (by decide)) ?_
  refine s_p (by first | exact h_load_ints rfl rfl rfl (by omega) rfl Try.isAgg40 | exact h_load_one rfl rfl rfl Try.isAgg40) ?_
  refine s_p (by first | exact h_move (v := .s _) rfl | exact h_move (v := .agg _) rfl | exact h_move (v := .tup _) rfl) ?_
  refine s_a (h_call callable_35 rfl ((show ACall _ _ _ _ _ [⟨true, [.ints .u8 (29 + 0) X]⟩] by rw [← hX]; exact seal_v _ M C l n hM hC hC8 hl a c))) rfl ?_
  refine s_p (by first | exact h_move (v := .s _) rfl | exact h_move (v := .agg _) rfl | exact h_move (v := .tup _) rfl) ?_
  refine s_p (h_extract rfl rfl (by simp)) ?_
  refine s_p (h_extract rfl rfl (by simp)) ?_
  refine s_p (by first | exact h_assign (v := .s _) rfl | exact h_assign (v := .agg _) rfl | exact h_assign (v := .tup _) rfl) ?_
  refine s_p (by first | exact h_assign (v := .s _) rfl | exact h_assign (v := .agg _) rfl | exact h_assign (v := .tup _) rfl) ?_
  refine s_nil ?_
  refine n_wp ?_
  refine w_seq ?_
  refine w_seq ?_
  refine c_reg (by kernel_rfl) rfl ?_
  refine s_p (by first | exact h_move (v := .s _) rfl | exact h_move (v := .agg _) rfl | exact h_move (v := .tup _) rfl) ?_
  refine s_p (h_bin rfl rfl (b_neq (decide_eq_false (fun h => h rfl)))) ?_
  refine s_nil ?_
  refine n_wp ?_
  refine w_cond rfl (fun hc_t24 => ?_) (fun hc_t24 => ?_)
  · exact absurd hc_t24 (by simp)
  refine w_skip ?_
  refine n_wp ?_
  refine w_seq ?_
  refine w_seq ?_
  refine c_reg (by kernel_rfl) rfl ?_
  refine s_p (by first | exact h_move (v := .s _) rfl | exact h_move (v := .agg _) rfl | exact h_move (v := .tup _) rfl) ?_
  refine s_p (by first | exact h_len rfl Try.underlying29 | exact h_len_nil rfl Try.underlying29 | exact h_len_val rfl Try.underlying29) ?_
  refine s_p (h_bin rfl rfl (b_lss (decide_eq_false (by omega)))) ?_
  refine s_nil ?_
  refine n_wp ?_
  refine w_cond rfl (fun hc_t33 => ?_) (fun hc_t33 => ?_)
  · exact absurd hc_t33 (by simp)
  refine w_skip ?_
  refine n_wp ?_
  refine w_seq ?_
  refine c_reg (by kernel_rfl) rfl ?_
  refine s_p (by first | exact h_move (v := .s _) rfl | exact h_move (v := .agg _) rfl | exact h_move (v := .tup _) rfl) ?_
  refine s_p (by first | exact h_len rfl Try.underlying29 | exact h_len_nil rfl Try.underlying29 | exact h_len_val rfl Try.underlying29) ?_
  refine s_p (h_bin rfl rfl (b_sub (r := ((13 + 0 : Nat) : Int)) (wr_n (by omega) (by omega)))) ?_
  refine s_p (by first | exact h_assign (v := .s _) rfl | exact h_assign (v := .agg _) rfl | exact h_assign (v := .tup _) rfl) ?_
  refine s_nil ?_
  refine n_wp ?_
  refine w_seq ?_
  refine c_any 9 mix (by kernel_rfl) (by kernel_rfl) rfl rfl rfl ?_
  refine t_p (h_field rfl Try.underlying63 rfl Try.sizeOf56 (by decide)) ?_
  refine t_p (h_field rfl Try.underlying56 rfl Try.sizeOf44 (by decide)) ?_
  refine t_p (h_asl_0 rfl Try.underlying44 Try.sizeOf5 (by omega)) ?_
  refine t_p (by first | exact h_move (v := .s _) rfl | exact h_move (v := .agg _) rfl | exact h_move (v := .tup _) rfl) ?_
  refine t_p (by first | exact h_move (v := .s _) rfl | exact h_move (v := .agg _) rfl | exact h_move (v := .tup _) rfl) ?_
  refine t_p (h_slice_h (h := 13 + 0) rfl rfl rfl Try.underlying29 Try.sizeOf5 (by omega)) ?_
  refine t_a (h_bsls1 rfl (by simp) Try.underlying92 Try.sizeOf29 Try.zeroValue29 rfl rfl) rfl ?_
  refine t_p (h_call callable_31 rfl (mac1 _ 0 0 32 2 M _ _ ((X.drop 0).take (13 + 0)) (13 + 0) (29 + 0) hM (Nat.le_refl _) rfl win_fst rfl 1 0 _ (by rw [List.drop_zero, List.length_take]; omega) (by omega) (by omega) rfl (fun i y hy => win_ints (segs := [.ints .u8 (29 + 0) X]) (base := 0) (idx := 0) (n := 13 + 0) (m := 29 + 0) rfl (by omega) i y hy) rfl)) ?_
  refine t_a (h_alloc (segs := [.ints .u8 32 (z 32)]) Try.zeroValue44 (by kernel_rfl) rfl) rfl ?_
  refine t_nil ?_
  refine s_st (m_store_agg (n := 32) (segs := [.ints .u8 32 (z 32)]) (sub := [.ints .u8 32 (sMac M X (13 + 0))]) (id := 3) (base := 0) (idx := 0) rfl rfl rfl (.whole (Nat.le_of_ble_eq_true rfl) rfl rfl) Try.sizeOf44 rfl) ?_
  refine s_nil ?_
  refine n_wp ?_
  refine w_seq ?_
  refine c_reg (by kernel_rfl) rfl ?_
  refine s_a (h_alloc (segs := [.ints .u8 16 (z 16)]) Try.zeroValue22 (by kernel_rfl) rfl) rfl ?_
  refine s_nil ?_
  refine n_wp ?_
  refine w_seq ?_
  refine w_seq ?_
  refine c_reg (by kernel_rfl) rfl ?_
  refine s_p (by first | exact h_assign (v := .s _) rfl | exact h_assign (v := .agg _) rfl | exact h_assign (v := .tup _) rfl) ?_
  refine s_nil ?_
  refine n_wp ?_
  refine w_block ?_
  refine c_loop (J13av M C X l n a c) 4 ⟨0, Nat.zero_le _, rfl, rfl, rfl⟩ (weak' (by repeat (first | exact trivial | refine ⟨rfl, ?_⟩)) rfl rfl (Nat.le_of_ble_eq_true rfl)) ?_
  rintro n T H ⟨i, hi, rfl, rfl, rfl⟩
  refine w_seq ?_
  refine w_seq ?_
  refine c_reg (by kernel_rfl) rfl ?_
  refine s_p (by first | exact h_move (v := .s _) rfl | exact h_move (v := .agg _) rfl | exact h_move (v := .tup _) rfl) ?_
  refine s_p (h_bin rfl rfl (b_lss rfl)) ?_
  refine s_nil ?_
  refine n_wp ?_
  refine w_cond rfl (fun hc_t46 => ?_) (fun hc_t46 => ?_)
  · skip
    have hlt : i < 4 := by have := of_decide_eq_true hc_t46; omega
    refine w_skip ?_
    refine n_wp ?_
    refine w_seq ?_
    refine w_block ?_
    refine c_reg (by kernel_rfl) rfl ?_
    refine s_p (by first | exact h_move (v := .s _) rfl | exact h_move (v := .agg _) rfl | exact h_move (v := .tup _) rfl) ?_
    refine s_p (h_field rfl Try.underlying63 rfl Try.sizeOf61 (by decide)) ?_
    refine s_p (by first | exact h_load_ints rfl rfl rfl (by omega) rfl Try.isAgg61 | exact h_load_one rfl rfl rfl Try.isAgg61) ?_
    refine s_p (by first | exact h_move (v := .s _) rfl | exact h_move (v := .agg _) rfl | exact h_move (v := .tup _) rfl) ?_
    refine s_p (h_bin rfl rfl (b_mul (r := ((8 * i : Nat) : Int)) (wr_n (by omega) (by omega)))) ?_
    refine s_p (h_bin rfl rfl (b_sub (r := ((24 - 8 * i : Nat) : Int)) (wr_n (by omega) (by omega)))) ?_
    refine s_p (h_conv (r := ((24 - 8 * i : Nat) : Int)) rfl Try.underlying3 Try.underlying71 (wrap64 (by omega) (by omega))) ?_
    refine s_p (h_bin rfl rfl (b_shr (by omega) rfl)) ?_
    refine s_p (h_conv rfl Try.underlying61 Try.underlying5 rfl) ?_
    refine s_p (by first | exact h_ix rfl rfl Try.underlying22 Try.sizeOf5 (by omega) | exact h_ixa rfl rfl Try.underlying22 Try.sizeOf5 (by omega) | exact h_ixl (Int.toNat _) rfl rfl (Int.toNat_of_nonneg (by omega)).symm Try.underlying22 Try.sizeOf5 (by omega)) ?_
    refine s_st (by first | exact m_store_int rfl rfl rfl rfl (by omega) (by (first | exact hf_len _ _ | exact hg_len _ _ _)) Try.sizeOf5 rfl | exact m_store_one rfl rfl (by simp) rfl rfl Try.sizeOf5 rfl) ?_
    refine s_nil ?_
    refine n_blo ?_
    refine n_wp ?_
    refine c_reg (by kernel_rfl) rfl ?_
    refine s_p (by first | exact h_move (v := .s _) rfl | exact h_move (v := .agg _) rfl | exact h_move (v := .tup _) rfl) ?_
    refine s_p (by first | exact h_bin rfl rfl (b_add (Go.IntWalk.i64_in _ (by omega))) | exact h_bin rfl rfl (b_add rfl)) ?_
    refine s_p (by first | exact h_assign (v := .s _) rfl | exact h_assign (v := .agg _) rfl | exact h_assign (v := .tup _) rfl) ?_
    refine s_nil ?_
    exact n_round (4 - (i + 1)) (by omega) ⟨i + 1, by omega, rfl, rfl, rfl⟩ (weak' (by repeat (first | exact trivial | refine ⟨rfl, ?_⟩)) rfl rfl (Nat.le_of_ble_eq_true rfl))
  · skip
    have hi4 : 4 = i := by have := of_decide_eq_false hc_t46; omega
    subst hi4
    refine w_exit ?_
    refine x_thn ?_
    refine x_thn ?_
    refine x_eq ?_
    refine n_wp ?_
    refine w_seq ?_
    refine w_seq ?_
    refine c_reg (by kernel_rfl) rfl ?_
    refine s_p (by first | exact h_assign (v := .s _) rfl | exact h_assign (v := .agg _) rfl | exact h_assign (v := .tup _) rfl) ?_
    refine s_nil ?_
    refine n_wp ?_
    refine w_block ?_
    refine c_loop (J13bv M C X l n a c) 8 ⟨0, Nat.zero_le _, rfl, rfl, rfl⟩ (weak' (by repeat (first | exact trivial | refine ⟨rfl, ?_⟩)) rfl rfl (Nat.le_of_ble_eq_true rfl)) ?_
    rintro n T H ⟨i, hi, rfl, rfl, rfl⟩
    refine w_seq ?_
    refine w_seq ?_
    refine c_reg (by kernel_rfl) rfl ?_
    refine s_p (by first | exact h_move (v := .s _) rfl | exact h_move (v := .agg _) rfl | exact h_move (v := .tup _) rfl) ?_
    refine s_p (h_bin rfl rfl (b_lss rfl)) ?_
    refine s_nil ?_
    refine n_wp ?_
    refine w_cond rfl (fun hc_t60 => ?_) (fun hc_t60 => ?_)
    · skip
      have hlt : i < 8 := by have := of_decide_eq_true hc_t60; omega
      refine w_skip ?_
      refine n_wp ?_
      refine w_seq ?_
      refine w_block ?_
      refine c_reg (by kernel_rfl) rfl ?_
      refine s_p (by first | exact h_move (v := .s _) rfl | exact h_move (v := .agg _) rfl | exact h_move (v := .tup _) rfl) ?_
      refine s_p (h_bin rfl rfl (b_add (r := ((4 + i : Nat) : Int)) (wr_n (by omega) (by omega)))) ?_
      refine s_p (h_field rfl Try.underlying63 rfl Try.sizeOf40 (by decide)) ?_
      refine s_p (by first | exact h_load_ints rfl rfl rfl (by omega) rfl Try.isAgg40 | exact h_load_one rfl rfl rfl Try.isAgg40) ?_
      refine s_p (by first | exact h_move (v := .s _) rfl | exact h_move (v := .agg _) rfl | exact h_move (v := .tup _) rfl) ?_
      refine s_p (h_bin rfl rfl (b_mul (r := ((8 * i : Nat) : Int)) (wr_n (by omega) (by omega)))) ?_
      refine s_p (h_bin rfl rfl (b_sub (r := ((56 - 8 * i : Nat) : Int)) (wr_n (by omega) (by omega)))) ?_
      refine s_p (h_conv (r := ((56 - 8 * i : Nat) : Int)) rfl Try.underlying3 Try.underlying71 (wrap64 (by omega) (by omega))) ?_
      refine s_p (h_bin rfl rfl (b_shr (by omega) rfl)) ?_
      refine s_p (h_conv rfl Try.underlying40 Try.underlying5 rfl) ?_
      refine s_p (by first | exact h_ix rfl rfl Try.underlying22 Try.sizeOf5 (by omega) | exact h_ixa rfl rfl Try.underlying22 Try.sizeOf5 (by omega) | exact h_ixl (Int.toNat _) rfl rfl (Int.toNat_of_nonneg (by omega)).symm Try.underlying22 Try.sizeOf5 (by omega)) ?_
      refine s_st (by first | exact m_store_int rfl rfl rfl rfl (by omega) (by (first | exact hf_len _ _ | exact hg_len _ _ _)) Try.sizeOf5 rfl | exact m_store_one rfl rfl (by simp) rfl rfl Try.sizeOf5 rfl) ?_
      refine s_nil ?_
      refine n_blo ?_
      refine n_wp ?_
      refine c_reg (by kernel_rfl) rfl ?_
      refine s_p (by first | exact h_move (v := .s _) rfl | exact h_move (v := .agg _) rfl | exact h_move (v := .tup _) rfl) ?_
      refine s_p (by first | exact h_bin rfl rfl (b_add (Go.IntWalk.i64_in _ (by omega))) | exact h_bin rfl rfl (b_add rfl)) ?_
      refine s_p (by first | exact h_assign (v := .s _) rfl | exact h_assign (v := .agg _) rfl | exact h_assign (v := .tup _) rfl) ?_
      refine s_nil ?_
      exact n_round (8 - (i + 1)) (by omega) ⟨i + 1, by omega, rfl, rfl, rfl⟩ (weak' (by repeat (first | exact trivial | refine ⟨rfl, ?_⟩)) rfl rfl (Nat.le_of_ble_eq_true rfl))
    · skip
      have hi8 : 8 = i := by have := of_decide_eq_false hc_t60; omega
      subst hi8
      rw [hg_eq l n hl hn]
      refine w_exit ?_
      refine x_thn ?_
      refine x_thn ?_
      refine x_eq ?_
      refine n_wp ?_
      refine w_seq ?_
      refine c_any 30 mix (by kernel_rfl) (by kernel_rfl) rfl rfl rfl ?_
      refine t_p (h_call callable_36 rfl (alive19 _)) ?_
      refine t_p (by first | exact h_move (v := .s _) rfl | exact h_move (v := .agg _) rfl | exact h_move (v := .tup _) rfl) ?_
      first | refine t_on rfl rfl (by first | rfl | assumption) (by first | exact h_move (v := .s _) rfl | exact h_move (v := .agg _) rfl | exact h_move (v := .tup _) rfl) ?_ | refine t_off rfl rfl (by first | rfl | assumption) ?_
      first | refine t_on rfl rfl (by first | rfl | assumption) (h_ixs0l 0 rfl rfl rfl Try.underlying29 Try.sizeOf5 (by omega)) ?_ | refine t_off rfl rfl (by first | rfl | assumption) ?_
      first | refine t_on rfl rfl (by first | rfl | assumption) (by first | exact h_load_ints rfl rfl rfl (by omega) rfl Try.isAgg5 | exact h_load_one rfl rfl rfl Try.isAgg5) ?_ | refine t_off rfl rfl (by first | rfl | assumption) ?_
      first | refine t_on rfl rfl (by first | rfl | assumption) (h_bin rfl rfl (b_eql (decide_eq_true hX9))) ?_ | refine t_off rfl rfl (by first | rfl | assumption) ?_
      refine t_p (by first | exact h_pick_t rfl (by first | rfl | assumption) rfl | exact h_pick_f rfl (by first | rfl | assumption) rfl) ?_
      refine t_p (by first | exact h_move (v := .s _) rfl | exact h_move (v := .agg _) rfl | exact h_move (v := .tup _) rfl) ?_
      first | refine t_on rfl rfl (by first | rfl | assumption) (by first | exact h_move (v := .s _) rfl | exact h_move (v := .agg _) rfl | exact h_move (v := .tup _) rfl) ?_ | refine t_off rfl rfl (by first | rfl | assumption) ?_
      first | refine t_on rfl rfl (by first | rfl | assumption) (h_slice_lh (l := 1) (h := 13) (n := 12) rfl rfl rfl rfl rfl Try.underlying29 Try.sizeOf5 (by omega) (by omega) (by omega) (by omega) rfl) ?_ | refine t_off rfl rfl (by first | rfl | assumption) ?_
      first | refine t_on rfl rfl (by first | rfl | assumption) (h_asl_h (h := 12) rfl rfl rfl Try.underlying22 Try.sizeOf5 (by omega) (by omega)) ?_ | refine t_off rfl rfl (by first | rfl | assumption) ?_
      first | refine t_on rfl rfl (by first | rfl | assumption) (h_call callable_27 rfl (same_ss ((X.drop (0 + 1)).take 12) 12 _ _ (by omega) _ 1 0 (0 + 1) (29 + 0) _ X rfl rfl (by omega) rfl 4 0 0 16 _ (fiL (ahL ((l : Nat) : Int) ((n : Nat) : Int))) rfl rfl (by omega) hfx)) ?_ | refine t_off rfl rfl (by first | rfl | assumption) ?_
      refine t_p (by first | exact h_pick_t rfl (by first | rfl | assumption) rfl | exact h_pick_f rfl (by first | rfl | assumption) rfl) ?_
      refine t_p (by first | exact h_move (v := .s _) rfl | exact h_move (v := .agg _) rfl | exact h_move (v := .tup _) rfl) ?_
      first | refine t_on rfl rfl (by first | rfl | assumption) (by first | exact h_move (v := .s _) rfl | exact h_move (v := .agg _) rfl | exact h_move (v := .tup _) rfl) ?_ | refine t_off rfl rfl (by first | rfl | assumption) ?_
      first | refine t_on rfl rfl (by first | rfl | assumption) (by first | exact h_move (v := .s _) rfl | exact h_move (v := .agg _) rfl | exact h_move (v := .tup _) rfl) ?_ | refine t_off rfl rfl (by first | rfl | assumption) ?_
      first | refine t_on rfl rfl (by first | rfl | assumption) (h_slice_l3 (l := 13 + 0) (n := 16) (c := 16) rfl rfl rfl Try.underlying29 Try.sizeOf5 (by omega) (by omega) (by omega) (by omega)) ?_ | refine t_off rfl rfl (by first | rfl | assumption) ?_
      first | refine t_on rfl rfl (by first | rfl | assumption) (h_asl_h (h := 16) rfl rfl rfl Try.underlying44 Try.sizeOf5 (by omega) (by omega)) ?_ | refine t_off rfl rfl (by first | rfl | assumption) ?_
      first | refine t_on rfl rfl (by first | rfl | assumption) (h_call callable_27 rfl (same_ss ((X.drop (0 + (13 + 0))).take 16) 16 _ _ (by omega) _ 1 0 (0 + (13 + 0)) (29 + 0) _ X rfl rfl (by omega) rfl 3 0 0 32 _ (sMac M X (13 + 0)) rfl rfl (by omega) hlx)) ?_ | refine t_off rfl rfl (by first | rfl | assumption) ?_
      refine t_p (by first | exact h_pick_t rfl (by first | rfl | assumption) rfl | exact h_pick_f rfl (by first | rfl | assumption) rfl) ?_
      refine t_p (by first | exact h_move (v := .s _) rfl | exact h_move (v := .agg _) rfl | exact h_move (v := .tup _) rfl) ?_
      first | refine t_on rfl rfl (by first | rfl | assumption) (by first | exact h_move (v := .s _) rfl | exact h_move (v := .agg _) rfl | exact h_move (v := .tup _) rfl) ?_ | refine t_off rfl rfl (by first | rfl | assumption) ?_
      first | refine t_on rfl rfl (by first | rfl | assumption) (by first | exact h_move (v := .s _) rfl | exact h_move (v := .agg _) rfl | exact h_move (v := .tup _) rfl) ?_ | refine t_off rfl rfl (by first | rfl | assumption) ?_
      first | refine t_on rfl rfl (by first | rfl | assumption) (h_slice_lh (l := 13) (h := 13 + 0) (n := 0) rfl rfl rfl rfl rfl Try.underlying29 Try.sizeOf5 (by omega) (by omega) (by omega) (by omega) rfl) ?_ | refine t_off rfl rfl (by first | rfl | assumption) ?_
      first | refine t_on rfl rfl (by first | rfl | assumption) (h_field rfl Try.underlying63 rfl Try.sizeOf56 (by decide)) ?_ | refine t_off rfl rfl (by first | rfl | assumption) ?_
      first | refine t_on rfl rfl (by first | rfl | assumption) (h_field rfl Try.underlying56 rfl Try.sizeOf22 (by decide)) ?_ | refine t_off rfl rfl (by first | rfl | assumption) ?_
      first | refine t_on rfl rfl (by first | rfl | assumption) (by first | exact h_load_agg rfl rfl (.whole rfl) Try.isAgg22 Try.sizeOf22 | exact h_load_agg rfl rfl (.seg rfl rfl) Try.isAgg22 Try.sizeOf22 | exact h_load_agg rfl rfl (.ints rfl (by omega)) Try.isAgg22 Try.sizeOf22) ?_ | refine t_off rfl rfl (by first | rfl | assumption) ?_
      first | refine t_on rfl rfl (by first | rfl | assumption) (by first | exact h_load_agg rfl rfl (.whole rfl) Try.isAgg22 Try.sizeOf22 | exact h_load_agg rfl rfl (.seg rfl rfl) Try.isAgg22 Try.sizeOf22 | exact h_load_agg rfl rfl (.ints rfl (by omega)) Try.isAgg22 Try.sizeOf22) ?_ | refine t_off rfl rfl (by first | rfl | assumption) ?_
      first | refine t_on rfl rfl (by first | rfl | assumption) (by first | exact h_move (v := .s _) rfl | exact h_move (v := .agg _) rfl | exact h_move (v := .tup _) rfl) ?_ | refine t_off rfl rfl (by first | rfl | assumption) ?_
      first | refine t_on rfl rfl (by first | rfl | assumption) (h_call callable_26 rfl (stream_e C (fiL (ahL ((l : Nat) : Int) ((n : Nat) : Int))) a c _)) ?_ | refine t_off rfl rfl (by first | rfl | assumption) ?_
      refine t_nil ?_
      first | refine s_on rfl rfl (by first | rfl | assumption) (h_call callable_27 rfl (same_sn 1 0 (0 + 13) _ _)) ?_ | refine s_off rfl rfl (by first | rfl | assumption) ?_
      refine s_p (by first | exact h_pick_t rfl (by first | rfl | assumption) rfl | exact h_pick_f rfl (by first | rfl | assumption) rfl) ?_
      refine s_p (by first | exact h_assign (v := .s _) rfl | exact h_assign (v := .agg _) rfl | exact h_assign (v := .tup _) rfl) ?_
      refine s_nil ?_
      refine n_wp ?_
      refine w_ret ?_
      exact ⟨.inl rfl, ret_tmp Try.results13 rfl⟩
set_option maxRecDepth 100000 in
set_option maxHeartbeats 2000000 in
theorem head_big (H : Heap) (M C : List Int) (l n : Nat) (a : Option Addr) (k c : Nat) (hk : 2019 < k) : ACall Try.prog 13 H [.agg [.ints .u8 32 M, .ints .u8 16 C, .one (.int .u32 ((l : Nat) : Int)), .one (.int .u64 ((n : Nat) : Int))], .s (.val (.slice a k c))] (.s (.bool true)) [] := by
  refine acall_gen2 (args0 := [.agg [.ints .u8 32 M, .ints .u8 16 C, .one (.int .u32 ((l : Nat) : Int)), .one (.int .u64 ((n : Nat) : Int))], .s (.val (.slice a k c))]) (H0 := []) (Hf := []) (v0 := .s (.bool true)) [] [] Try.func13 rfl Try.ntmps13 (by simp) rfl
    (fun k id sh b0 h1 h2 => by simp at h1) (fun W ρ vals w hH ha k id' sh' hk => by simp at hk) rfl rfl rfl (by decide) rfl rfl rfl (fun W w ρ0 hW hdom => ?_)
  refine w_seq ?_
  refine c_reg (by kernel_rfl) rfl ?_
  refine s_a (by first | exact h_box_agg rfl rfl | exact h_box rfl (by simp) rfl) rfl ?_
  refine s_p (by first | exact h_assign (v := .s _) rfl | exact h_assign (v := .agg _) rfl | exact h_assign (v := .tup _) rfl) ?_
  refine s_nil ?_
  refine n_wp ?_
  refine w_seq ?_
  refine c_reg (by kernel_rfl) rfl ?_
  refine s_p (h_field rfl Try.underlying63 rfl Try.sizeOf56 (by decide)) ?_
  refine s_p (h_load_agg rfl rfl (.two (m := 32) (n := 16) rfl rfl (.seg rfl rfl)) Try.isAgg56 Try.sizeOf56) ?_
  refine s_p (h_field rfl Try.underlying63 rfl Try.sizeOf61 (by decide)) ?_
  refine s_p (by first | exact h_load_ints rfl rfl rfl (by omega) rfl Try.isAgg61 | exact h_load_one rfl rfl rfl Try.isAgg61) ?_
  refine s_p (h_field rfl Try.underlying63 rfl Try.sizeOf40 (by decide)) ?_
  refine s_p (by first | exact h_load_ints rfl rfl rfl (by omega) rfl Try.isAgg40 | exact h_load_one rfl rfl rfl Try.isAgg40) ?_
  refine s_p (by first | exact h_move (v := .s _) rfl | exact h_move (v := .agg _) rfl | exact h_move (v := .tup _) rfl) ?_
  refine s_p (h_call callable_35 rfl (seal_big _ M C ((l : Nat) : Int) ((n : Nat) : Int) a k c hk)) ?_
  refine s_p (by first | exact h_move (v := .s _) rfl | exact h_move (v := .agg _) rfl | exact h_move (v := .tup _) rfl) ?_
  refine s_p (h_extract rfl rfl (by simp)) ?_
  refine s_p (h_extract rfl rfl (by simp)) ?_
  refine s_p (by first | exact h_assign (v := .s _) rfl | exact h_assign (v := .agg _) rfl | exact h_assign (v := .tup _) rfl) ?_
  refine s_p (by first | exact h_assign (v := .s _) rfl | exact h_assign (v := .agg _) rfl | exact h_assign (v := .tup _) rfl) ?_
  refine s_nil ?_
  refine n_wp ?_
  refine w_seq ?_
  refine w_seq ?_
  refine c_reg (by kernel_rfl) rfl ?_
  refine s_p (by first | exact h_move (v := .s _) rfl | exact h_move (v := .agg _) rfl | exact h_move (v := .tup _) rfl) ?_
  refine s_p (h_bin rfl rfl (b_neq (decide_eq_true (by decide)))) ?_
  refine s_nil ?_
  refine n_wp ?_
  refine w_cond rfl (fun hc_t24 => ?_) (fun hc_t24 => ?_)
  rotate_left
  · exact absurd hc_t24 (by simp)
  refine w_seq ?_
  refine c_reg (by kernel_rfl) rfl ?_
  refine s_p (h_call callable_36 rfl (alive19 _)) ?_
  refine s_p (by first | exact h_move (v := .s _) rfl | exact h_move (v := .agg _) rfl | exact h_move (v := .tup _) rfl) ?_
  first | refine s_on rfl rfl (by first | rfl | assumption) (by first | exact h_move (v := .s _) rfl | exact h_move (v := .agg _) rfl | exact h_move (v := .tup _) rfl) ?_ | refine s_off rfl rfl (by first | rfl | assumption) ?_
  first | refine s_on rfl rfl (by first | rfl | assumption) (by first | exact h_len rfl Try.underlying29 | exact h_len_nil rfl Try.underlying29 | exact h_len_val rfl Try.underlying29) ?_ | refine s_off rfl rfl (by first | rfl | assumption) ?_
  first | refine s_on rfl rfl (by first | rfl | assumption) (h_bin rfl rfl (b_gtr (decide_eq_true (by omega)))) ?_ | refine s_off rfl rfl (by first | rfl | assumption) ?_
  refine s_p (by first | exact h_pick_t rfl (by first | rfl | assumption) rfl | exact h_pick_f rfl (by first | rfl | assumption) rfl) ?_
  refine s_p (by first | exact h_assign (v := .s _) rfl | exact h_assign (v := .agg _) rfl | exact h_assign (v := .tup _) rfl) ?_
  refine s_nil ?_
  refine n_wp ?_
  refine w_ret ?_
  refine r_thn ?_
  exact doneM (by repeat (first | exact trivial | refine ⟨rfl, ?_⟩)) (ret_tmp Try.results13 rfl)
end Go.Proofs.X
