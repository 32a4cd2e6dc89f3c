/- A part of the proofs of this claim: RowW2. No conditions. -/
import Derived.Test.YtffflnpidipheaaRowW1
open Go Go.Ab Go.Proofs
namespace Go.Proofs.X
theorem infoB5 : Try.prog.info? 5 = some Try.t5 := by kernel_rfl
def HRn (each N tot : Nat) (ws : List Int) (out : List Int) (p : Nat) : Heap := [some ⟨false, [.ints .u64 N ws]⟩, some ⟨true, [.one (.int .i64 ((each : Nat) : Int))]⟩, some ⟨true, [.ints .u8 tot out]⟩, some ⟨true, [.one (.slice 2 0 0 tot tot)]⟩, some ⟨true, [.one (.int .i64 ((p : Nat) : Int))]⟩, some ⟨true, [.one (.slice 0 0 0 N N)]⟩]
def I59HRn (each N tot : Nat) (ws : List Int) (out : List Int) (p : Nat) (v : Int) (n : Nat) (T : Tm) (H : Heap) : Prop := ∃ j : Nat, j ≤ each ∧ n = each - j ∧
  T = [(7, .s (.ptr 3 0 0)), (8, .s (.ptr 4 0 0)), (10, .s (.int .u64 (rb out p v j).2)), (25, .s (.int .i64 ((each : Nat) : Int))), (26, .s (.int .i64 ((j : Nat) : Int)))] ∧ H = HRn each N tot ws (rb out p v j).1 (p - j)
set_option maxRecDepth 100000 in
set_option maxHeartbeats 2000000 in
theorem row_n (H : Heap) (jw sw each N tot : Nat) (ws : List Int) (bw : Blk) (hws : ws.length = N) (hw : H[jw]? = some (some bw)) (hwr : ∀ (i : Nat) (y : SV), atS [.ints .u64 N ws] i = some y → atS bw.segs (sw + i) = some y) (hN : N ≤ 4) (he : each ≤ 8) (ht : tot = 0 + each * N) (htb : tot ≤ 140737488355328) : ACall Try.prog 59 H [.s .nils, .s (.int .i64 ((each : Nat) : Int)), .s (.slice jw (0 + sw) 0 N N)] (.s (.slice (H.length + 0) (0 + 0) 0 tot tot)) [⟨true, [.ints .u8 tot (rr tot each N ws N)]⟩] := by
  have hjw : jw < H.length := (List.getElem?_eq_some_iff.1 hw).1
  refine acall_gen2 (args0 := [.s .nils, .s (.int .i64 ((each : Nat) : Int)), .s (.slice 0 0 0 N N)]) (H0 := [some ⟨false, [.ints .u64 N ws]⟩]) (Hf := [none, none, some ⟨true, [.ints .u8 tot (rr tot each N ws N)]⟩]) (v0 := .s (.slice 2 0 0 tot tot)) [(jw, sw)] [2] Try.func59 rfl Try.ntmps59 (by simp) rfl
    (fun k id' sh' b0 h1 h2 => by
      match k, h1, h2 with
      | 0, h1, h2 => simp at h1 h2; obtain ⟨rfl, rfl⟩ := h1; subst h2; exact ⟨rfl, rfl, _, hw, fun i y hy => by (have h := hwr i y hy; obtain ⟨_, rfl⟩ := atS_ints1 hy; exact h)⟩
      | k + 1, h1, _ => simp at h1)
    (fun W ρ vals w hH ha k id' sh' hk => by
      match k, hk with
      | 0, hk => simp at hk; obtain ⟨rfl, rfl⟩ := hk; exact ⟨hjw, live_slice (i := 2) ha rfl⟩
      | k + 1, hk => simp at hk)
    rfl rfl rfl (by decide) rfl rfl rfl (fun W w ρ0 hW hdom => ?_)
  have hm : each * N ≤ 32 := Nat.mul_le_mul he hN
  refine w_seq ?_
  refine c_reg (by kernel_rfl) rfl ?_
  refine s_a (by first | exact h_box_agg rfl rfl | exact h_box rfl (by simp) rfl) rfl ?_
  refine s_p (by first | exact h_assign (v := .s _) rfl | exact h_assign (v := .agg _) rfl | exact h_assign (v := .tup _) rfl) ?_
  refine s_nil ?_
  refine n_wp ?_
  refine w_seq ?_
  refine c_reg (by kernel_rfl) rfl ?_
  refine s_p (by first | exact h_move (v := .s _) rfl | exact h_move (v := .agg _) rfl | exact h_move (v := .tup _) rfl) ?_
  refine s_p (by first | exact h_len rfl Try.underlying29 | exact h_len_nil rfl Try.underlying29 | exact h_len_val rfl Try.underlying29) ?_
  refine s_p (by first | exact h_load_ints rfl rfl rfl (by omega) rfl Try.isAgg3 | exact h_load_one rfl rfl rfl Try.isAgg3) ?_
  refine s_p (by first | exact h_move (v := .s _) rfl | exact h_move (v := .agg _) rfl | exact h_move (v := .tup _) rfl) ?_
  refine s_p (by first | exact h_len rfl Try.underlying143 | exact h_len_nil rfl Try.underlying143 | exact h_len_val rfl Try.underlying143) ?_
  refine s_p (h_bin rfl rfl (b_mul (r := ((each * N : Nat) : Int)) (wr_n (by rw [Int.natCast_mul]) (by omega)))) ?_
  refine s_p (h_bin rfl rfl (b_add (r := ((tot : Nat) : Int)) (wr_n (by omega) (by omega)))) ?_
  refine s_a (h_make (l := tot) (c := tot) rfl rfl (Nat.le_refl _) (by rw [show Try.t5.bytes = 1 from rfl]; omega) (by omega) Try.underlying29 infoB5 rfl rfl rfl) rfl ?_
  refine s_a (h_alloc (segs := [.one .nils]) Try.zeroValue29 (by kernel_rfl) rfl) rfl ?_
  refine s_st (by first | exact m_store_int rfl rfl rfl rfl (by omega) (by (rw [rb_len, rr_len])) Try.sizeOf29 rfl | exact m_store_one rfl rfl (by simp) rfl rfl Try.sizeOf29 rfl) ?_
  refine s_nil ?_
  refine n_wp ?_
  refine w_seq ?_
  refine c_reg (by kernel_rfl) rfl ?_
  refine s_p (by first | exact h_load_ints rfl rfl rfl (by omega) rfl Try.isAgg29 | exact h_load_one rfl rfl rfl Try.isAgg29) ?_
  refine s_p (by first | exact h_len rfl Try.underlying29 | exact h_len_nil rfl Try.underlying29 | exact h_len_val rfl Try.underlying29) ?_
  refine s_a (h_alloc (segs := [.one (.int .i64 0)]) Try.zeroValue3 (by kernel_rfl) rfl) rfl ?_
  refine s_st (by first | exact m_store_int rfl rfl rfl rfl (by omega) (by (rw [rb_len, rr_len])) Try.sizeOf3 rfl | exact m_store_one rfl rfl (by simp) rfl rfl Try.sizeOf3 rfl) ?_
  refine s_nil ?_
  refine n_wp ?_
  refine w_seq ?_
  refine w_seq ?_
  refine c_reg (by kernel_rfl) rfl ?_
  refine s_p (by first | exact h_move (v := .s _) rfl | exact h_move (v := .agg _) rfl | exact h_move (v := .tup _) rfl) ?_
  refine s_nb (h_call callable_75 rfl (backward_c _ 0 0 N N (Nat.le_of_ble_eq_true rfl))) rfl ?_
  refine s_nil ?_
  refine n_wp ?_
  refine w_block ?_
  refine w_rangeFunc rfl callable_79 (back_iter W w ρ0 44 _ hW hdom 5 0 N N ws _ _ _ (fun k => HRn each N tot ws (rr tot each N ws k) (tot - each * k)) (by omega) (by decide) (fun _ => rfl) (fun _ => rfl) (fun _ _ => rfl) (fun _ _ => ⟨_, rfl, rfl⟩) (fun k hk => ⟨[(4, .s (.ptr 1 0 0)), (7, .s (.ptr 3 0 0)), (8, .s (.ptr 4 0 0)), (10, .s (.int .u64 (ws.getD (N - 1 - k) 0)))], fun l1 W1 w1 ρ1 hW1 hdom1 => ⟨?_, ?_⟩⟩)) ?_
  · skip
    refine i_reg (by kernel_rfl) (by kernel_rfl) rfl ?_
    refine s_p (by first | exact h_assign (v := .s _) rfl | exact h_assign (v := .agg _) rfl | exact h_assign (v := .tup _) rfl) ?_
    refine s_nil ?_
    exact ⟨rfl, weak' (by repeat (first | exact trivial | refine ⟨rfl, ?_⟩)) rfl rfl (Nat.le_refl _)⟩
  · skip
    have hke : each * k + each ≤ each * N := Nat.mul_le_mul_left each (show k + 1 ≤ N from hk)
    obtain ⟨p, hp⟩ : ∃ p, p = tot - each * k := ⟨_, rfl⟩
    show WpI _ _ _ _ (HRn each N tot ws (rr tot each N ws k) (tot - each * k)) (fun e T1 H1 => e = .normal ∧ Weak _ T1 H1 [] (HRn each N tot ws (rr tot each N ws (k + 1)) (tot - each * (k + 1))))
    rw [show rr tot each N ws (k + 1) = (rb (rr tot each N ws k) p (ws.getD (N - 1 - k) 0) each).1 by rw [hp]; rfl]
    rw [← hp]
    refine i_block ?_
    refine i_seq ?_
    refine i_reg (by kernel_rfl) (by kernel_rfl) rfl ?_
    refine s_p (by first | exact h_load_ints rfl rfl rfl (by omega) rfl Try.isAgg3 | exact h_load_one rfl rfl rfl Try.isAgg3) ?_
    refine s_p (by first | exact h_move (v := .s _) rfl | exact h_move (v := .agg _) rfl | exact h_move (v := .tup _) rfl) ?_
    refine s_nil ?_
    refine ni_wp ?_
    refine i_block ?_
    refine i_loop (I59HRn each N tot ws (rr tot each N ws k) p (ws.getD (N - 1 - k) 0)) each ⟨0, by omega, rfl, rfl, rfl⟩ (weak' (by repeat (first | exact trivial | refine ⟨rfl, ?_⟩)) rfl rfl (Nat.le_of_ble_eq_true rfl)) ?_
    rintro n T H ⟨j, hj, rfl, rfl, rfl⟩
    refine i_seq ?_
    refine i_reg (by kernel_rfl) (by kernel_rfl) rfl ?_
    refine s_p (h_bin rfl rfl (b_lss rfl)) ?_
    refine s_nil ?_
    refine ni_wp ?_
    refine i_seq ?_
    refine i_cond rfl (fun hc_t27 => ?_) (fun hc_t27 => ?_)
    · skip
      have hlt : j < each := by have := of_decide_eq_true hc_t27; omega
      refine i_skip ?_
      refine ni_wp ?_
      refine i_seq ?_
      refine i_block ?_
      refine i_seq ?_
      refine i_reg (by kernel_rfl) (by kernel_rfl) rfl ?_
      refine s_p (by first | exact h_load_ints rfl rfl rfl (by omega) rfl Try.isAgg3 | exact h_load_one rfl rfl rfl Try.isAgg3) ?_
      refine s_p (h_bin rfl rfl (b_sub (r := ((p - (j + 1) : Nat) : Int)) (wr_n (by omega) (by omega)))) ?_
      refine s_st (by first | exact m_store_int rfl rfl rfl rfl (by omega) (by (rw [rb_len, rr_len])) Try.sizeOf3 rfl | exact m_store_one rfl rfl (by simp) rfl rfl Try.sizeOf3 rfl) ?_
      refine s_nil ?_
      refine ni_wp ?_
      refine i_reg (by kernel_rfl) (by kernel_rfl) rfl ?_
      refine s_p (by first | exact h_load_ints rfl rfl rfl (by omega) rfl Try.isAgg29 | exact h_load_one rfl rfl rfl Try.isAgg29) ?_
      refine s_p (by first | exact h_load_ints rfl rfl rfl (by omega) rfl Try.isAgg3 | exact h_load_one rfl rfl rfl Try.isAgg3) ?_
      refine s_p (by first | exact h_move (v := .s _) rfl | exact h_move (v := .agg _) rfl | exact h_move (v := .tup _) rfl) ?_
      refine s_p (by first | exact h_conv rfl Try.underlying40 Try.underlying5 (Go.IntWalk.i64_in _ (by omega)) | exact h_conv rfl Try.underlying40 Try.underlying5 (wrap_u8 (by omega) (by omega)) | exact h_conv rfl Try.underlying40 Try.underlying5 rfl) ?_
      refine s_p (by first | exact h_move (v := .s _) rfl | exact h_move (v := .agg _) rfl | exact h_move (v := .tup _) rfl) ?_
      refine s_p (by first | exact h_bin rfl rfl (b_quo (by omega) rfl)) ?_
      refine s_p (by first | exact h_ixs0 rfl rfl Try.underlying29 Try.sizeOf5 (by omega) | exact h_ixs rfl rfl Try.underlying29 Try.sizeOf5 (by omega) | exact h_ixsx rfl rfl Try.underlying29 Try.sizeOf5 (by omega)) ?_
      refine s_st (by first | exact m_store_int rfl rfl rfl rfl (by omega) (by (rw [rb_len, rr_len])) Try.sizeOf5 rfl | exact m_store_one rfl rfl (by simp) rfl rfl Try.sizeOf5 rfl) ?_
      refine s_p (by first | exact h_assign (v := .s _) rfl | exact h_assign (v := .agg _) rfl | exact h_assign (v := .tup _) rfl) ?_
      refine s_nil ?_
      refine n_blo ?_
      refine ni_wp ?_
      refine i_reg (by kernel_rfl) (by kernel_rfl) rfl ?_
      refine s_p (by first | exact h_bin rfl rfl (b_add (Go.IntWalk.i64_in _ (by omega))) | exact h_bin rfl rfl (b_add rfl)) ?_
      refine s_p (by first | exact h_move (v := .s _) rfl | exact h_move (v := .agg _) rfl | exact h_move (v := .tup _) rfl) ?_
      refine s_nil ?_
      exact n_round (each - (j + 1)) (by omega) ⟨j + 1, by omega, rfl, rfl, rfl⟩ (weak' (by repeat (first | exact trivial | refine ⟨rfl, ?_⟩)) rfl rfl (Nat.le_of_ble_eq_true rfl))
    · skip
      have hje : each = j := by have := of_decide_eq_false hc_t27; omega
      subst hje
      refine i_exit ?_
      refine x_thn ?_
      refine x_thn ?_
      refine x_eq ?_
      refine n_blo ?_
      refine ⟨rfl, ?_⟩
      rw [show tot - each * (k + 1) = p - each by rw [Nat.mul_succ]; omega]
      exact weak' trivial rfl rfl (Nat.le_of_ble_eq_true rfl)
  refine n_blo ?_
  refine n_wp ?_
  refine w_seq ?_
  have hend : tot - each * N = 0 := by omega
  refine c_reg (by kernel_rfl) rfl ?_
  refine s_p (by first | exact h_load_ints rfl rfl rfl (by omega) rfl Try.isAgg29 | exact h_load_one rfl rfl rfl Try.isAgg29) ?_
  refine s_p (by first | exact h_load_ints rfl rfl rfl (by omega) rfl Try.isAgg3 | exact h_load_one rfl rfl rfl Try.isAgg3) ?_
  refine s_p (h_slice_h (h := 0) rfl rfl (by rw [hend]) Try.underlying29 Try.sizeOf5 (by omega)) ?_
  refine s_p (by first | exact h_move (v := .s _) rfl | exact h_move (v := .agg _) rfl | exact h_move (v := .tup _) rfl) ?_
  refine s_p (h_copy0 rfl rfl (.inl rfl) Try.underlying29 Try.sizeOf5) ?_
  refine s_nil ?_
  refine n_wp ?_
  refine w_seq ?_
  refine c_reg (by kernel_rfl) rfl ?_
  refine s_p (by first | exact h_load_ints rfl rfl rfl (by omega) rfl Try.isAgg29 | exact h_load_one rfl rfl rfl Try.isAgg29) ?_
  refine s_p (by first | exact h_assign (v := .s _) rfl | exact h_assign (v := .agg _) rfl | exact h_assign (v := .tup _) rfl) ?_
  refine s_nil ?_
  refine n_wp ?_
  refine w_ret ?_
  exact doneM (by repeat (first | exact trivial | refine ⟨rfl, ?_⟩)) (ret_tmp Try.results59 rfl)
def HRs (len : Nat) (B : List Int) (each N tot : Nat) (ws : List Int) (out : List Int) (p : Nat) : Heap := [some ⟨false, [.ints .u8 len B]⟩, some ⟨false, [.ints .u64 N ws]⟩, some ⟨true, [.one (.int .i64 ((each : Nat) : Int))]⟩, some ⟨true, [.ints .u8 tot out]⟩, some ⟨true, [.one (.slice 3 0 0 tot tot)]⟩, some ⟨true, [.one (.int .i64 ((p : Nat) : Int))]⟩, some ⟨true, [.one (.slice 1 0 0 N N)]⟩]
def I59HRs (len : Nat) (B : List Int) (each N tot : Nat) (ws : List Int) (out : List Int) (p : Nat) (v : Int) (n : Nat) (T : Tm) (H : Heap) : Prop := ∃ j : Nat, j ≤ each ∧ n = each - j ∧
  T = [(7, .s (.ptr 4 0 0)), (8, .s (.ptr 5 0 0)), (10, .s (.int .u64 (rb out p v j).2)), (25, .s (.int .i64 ((each : Nat) : Int))), (26, .s (.int .i64 ((j : Nat) : Int)))] ∧ H = HRs len B each N tot ws (rb out p v j).1 (p - j)
set_option maxRecDepth 100000 in
set_option maxHeartbeats 2000000 in
theorem row_s (H : Heap) (jb sb jw sw each N tot len cap : Nat) (B ws : List Int) (bb bw : Blk) (hBl : B.length = len) (hcap : len ≤ cap) (hlen : len ≤ 140737488351232) (hb : H[jb]? = some (some bb)) (hbr : ∀ (i : Nat) (y : SV), atS [.ints .u8 len B] i = some y → atS bb.segs (sb + i) = some y) (hws : ws.length = N) (hw : H[jw]? = some (some bw)) (hwr : ∀ (i : Nat) (y : SV), atS [.ints .u64 N ws] i = some y → atS bw.segs (sw + i) = some y) (hN : N ≤ 4) (he : each ≤ 8) (ht : tot = len + each * N) (htb : tot ≤ 140737488355328) : ACall Try.prog 59 H [.s (.slice jb (0 + sb) 0 len cap), .s (.int .i64 ((each : Nat) : Int)), .s (.slice jw (0 + sw) 0 N N)] (.s (.slice (H.length + 0) (0 + 0) 0 tot tot)) [⟨true, [.ints .u8 tot (rowL tot B len each N ws)]⟩] := by
  have hjw : jw < H.length := (List.getElem?_eq_some_iff.1 hw).1
  have hjb : jb < H.length := (List.getElem?_eq_some_iff.1 hb).1
  refine acall_gen2 (args0 := [.s (.slice 0 0 0 len cap), .s (.int .i64 ((each : Nat) : Int)), .s (.slice 1 0 0 N N)]) (H0 := [some ⟨false, [.ints .u8 len B]⟩, some ⟨false, [.ints .u64 N ws]⟩]) (Hf := [none, none, none, some ⟨true, [.ints .u8 tot (rowL tot B len each N ws)]⟩]) (v0 := .s (.slice 3 0 0 tot tot)) [(jb, sb), (jw, sw)] [3] Try.func59 rfl Try.ntmps59 (by simp) rfl
    (fun k id' sh' b0 h1 h2 => by
      match k, h1, h2 with
      | 0, h1, h2 => simp at h1 h2; obtain ⟨rfl, rfl⟩ := h1; subst h2; exact ⟨rfl, rfl, _, hb, fun i y hy => by (have h := hbr i y hy; obtain ⟨_, rfl⟩ := atS_ints1 hy; exact h)⟩
      | 1, h1, h2 => simp at h1 h2; obtain ⟨rfl, rfl⟩ := h1; subst h2; exact ⟨rfl, rfl, _, hw, fun i y hy => by (have h := hwr i y hy; obtain ⟨_, rfl⟩ := atS_ints1 hy; exact h)⟩
      | k + 2, h1, _ => simp at h1)
    (fun W ρ vals w hH ha k id' sh' hk => by
      match k, hk with
      | 0, hk => simp at hk; obtain ⟨rfl, rfl⟩ := hk; exact ⟨hjb, live_slice (i := 0) ha rfl⟩
      | 1, hk => simp at hk; obtain ⟨rfl, rfl⟩ := hk; exact ⟨hjw, live_slice (i := 2) ha rfl⟩
      | k + 2, hk => simp at hk)
    rfl rfl rfl (by decide) rfl rfl rfl (fun W w ρ0 hW hdom => ?_)
  have hm : each * N ≤ 32 := Nat.mul_le_mul he hN
  refine w_seq ?_
  refine c_reg (by kernel_rfl) rfl ?_
  refine s_a (by first | exact h_box_agg rfl rfl | exact h_box rfl (by simp) rfl) rfl ?_
  refine s_p (by first | exact h_assign (v := .s _) rfl | exact h_assign (v := .agg _) rfl | exact h_assign (v := .tup _) rfl) ?_
  refine s_nil ?_
  refine n_wp ?_
  refine w_seq ?_
  refine c_reg (by kernel_rfl) rfl ?_
  refine s_p (by first | exact h_move (v := .s _) rfl | exact h_move (v := .agg _) rfl | exact h_move (v := .tup _) rfl) ?_
  refine s_p (by first | exact h_len rfl Try.underlying29 | exact h_len_nil rfl Try.underlying29 | exact h_len_val rfl Try.underlying29) ?_
  refine s_p (by first | exact h_load_ints rfl rfl rfl (by omega) rfl Try.isAgg3 | exact h_load_one rfl rfl rfl Try.isAgg3) ?_
  refine s_p (by first | exact h_move (v := .s _) rfl | exact h_move (v := .agg _) rfl | exact h_move (v := .tup _) rfl) ?_
  refine s_p (by first | exact h_len rfl Try.underlying143 | exact h_len_nil rfl Try.underlying143 | exact h_len_val rfl Try.underlying143) ?_
  refine s_p (h_bin rfl rfl (b_mul (r := ((each * N : Nat) : Int)) (wr_n (by rw [Int.natCast_mul]) (by omega)))) ?_
  refine s_p (h_bin rfl rfl (b_add (r := ((tot : Nat) : Int)) (wr_n (by omega) (by omega)))) ?_
  refine s_a (h_make (l := tot) (c := tot) rfl rfl (Nat.le_refl _) (by rw [show Try.t5.bytes = 1 from rfl]; omega) (by omega) Try.underlying29 infoB5 rfl rfl rfl) rfl ?_
  refine s_a (h_alloc (segs := [.one .nils]) Try.zeroValue29 (by kernel_rfl) rfl) rfl ?_
  refine s_st (by first | exact m_store_int rfl rfl rfl rfl (by omega) (by (rw [rb_len, rr_len])) Try.sizeOf29 rfl | exact m_store_one rfl rfl (by simp) rfl rfl Try.sizeOf29 rfl) ?_
  refine s_nil ?_
  refine n_wp ?_
  refine w_seq ?_
  refine c_reg (by kernel_rfl) rfl ?_
  refine s_p (by first | exact h_load_ints rfl rfl rfl (by omega) rfl Try.isAgg29 | exact h_load_one rfl rfl rfl Try.isAgg29) ?_
  refine s_p (by first | exact h_len rfl Try.underlying29 | exact h_len_nil rfl Try.underlying29 | exact h_len_val rfl Try.underlying29) ?_
  refine s_a (h_alloc (segs := [.one (.int .i64 0)]) Try.zeroValue3 (by kernel_rfl) rfl) rfl ?_
  refine s_st (by first | exact m_store_int rfl rfl rfl rfl (by omega) (by (rw [rb_len, rr_len])) Try.sizeOf3 rfl | exact m_store_one rfl rfl (by simp) rfl rfl Try.sizeOf3 rfl) ?_
  refine s_nil ?_
  refine n_wp ?_
  refine w_seq ?_
  refine w_seq ?_
  refine c_reg (by kernel_rfl) rfl ?_
  refine s_p (by first | exact h_move (v := .s _) rfl | exact h_move (v := .agg _) rfl | exact h_move (v := .tup _) rfl) ?_
  refine s_nb (h_call callable_75 rfl (backward_c _ 1 0 N N (Nat.le_of_ble_eq_true rfl))) rfl ?_
  refine s_nil ?_
  refine n_wp ?_
  refine w_block ?_
  refine w_rangeFunc rfl callable_79 (back_iter W w ρ0 44 _ hW hdom 6 1 N N ws _ _ _ (fun k => HRs len B each N tot ws (rr tot each N ws k) (tot - each * k)) (by omega) (by decide) (fun _ => rfl) (fun _ => rfl) (fun _ _ => rfl) (fun _ _ => ⟨_, rfl, rfl⟩) (fun k hk => ⟨[(4, .s (.ptr 2 0 0)), (7, .s (.ptr 4 0 0)), (8, .s (.ptr 5 0 0)), (10, .s (.int .u64 (ws.getD (N - 1 - k) 0)))], fun l1 W1 w1 ρ1 hW1 hdom1 => ⟨?_, ?_⟩⟩)) ?_
  · skip
    refine i_reg (by kernel_rfl) (by kernel_rfl) rfl ?_
    refine s_p (by first | exact h_assign (v := .s _) rfl | exact h_assign (v := .agg _) rfl | exact h_assign (v := .tup _) rfl) ?_
    refine s_nil ?_
    exact ⟨rfl, weak' (by repeat (first | exact trivial | refine ⟨rfl, ?_⟩)) rfl rfl (Nat.le_refl _)⟩
  · skip
    have hke : each * k + each ≤ each * N := Nat.mul_le_mul_left each (show k + 1 ≤ N from hk)
    obtain ⟨p, hp⟩ : ∃ p, p = tot - each * k := ⟨_, rfl⟩
    show WpI _ _ _ _ (HRs len B each N tot ws (rr tot each N ws k) (tot - each * k)) (fun e T1 H1 => e = .normal ∧ Weak _ T1 H1 [] (HRs len B each N tot ws (rr tot each N ws (k + 1)) (tot - each * (k + 1))))
    rw [show rr tot each N ws (k + 1) = (rb (rr tot each N ws k) p (ws.getD (N - 1 - k) 0) each).1 by rw [hp]; rfl]
    rw [← hp]
    refine i_block ?_
    refine i_seq ?_
    refine i_reg (by kernel_rfl) (by kernel_rfl) rfl ?_
    refine s_p (by first | exact h_load_ints rfl rfl rfl (by omega) rfl Try.isAgg3 | exact h_load_one rfl rfl rfl Try.isAgg3) ?_
    refine s_p (by first | exact h_move (v := .s _) rfl | exact h_move (v := .agg _) rfl | exact h_move (v := .tup _) rfl) ?_
    refine s_nil ?_
    refine ni_wp ?_
    refine i_block ?_
    refine i_loop (I59HRs len B each N tot ws (rr tot each N ws k) p (ws.getD (N - 1 - k) 0)) each ⟨0, by omega, rfl, rfl, rfl⟩ (weak' (by repeat (first | exact trivial | refine ⟨rfl, ?_⟩)) rfl rfl (Nat.le_of_ble_eq_true rfl)) ?_
    rintro n T H ⟨j, hj, rfl, rfl, rfl⟩
    refine i_seq ?_
    refine i_reg (by kernel_rfl) (by kernel_rfl) rfl ?_
    refine s_p (h_bin rfl rfl (b_lss rfl)) ?_
    refine s_nil ?_
    refine ni_wp ?_
    refine i_seq ?_
    refine i_cond rfl (fun hc_t27 => ?_) (fun hc_t27 => ?_)
    · skip
      have hlt : j < each := by have := of_decide_eq_true hc_t27; omega
      refine i_skip ?_
      refine ni_wp ?_
      refine i_seq ?_
      refine i_block ?_
      refine i_seq ?_
      refine i_reg (by kernel_rfl) (by kernel_rfl) rfl ?_
      refine s_p (by first | exact h_load_ints rfl rfl rfl (by omega) rfl Try.isAgg3 | exact h_load_one rfl rfl rfl Try.isAgg3) ?_
      refine s_p (h_bin rfl rfl (b_sub (r := ((p - (j + 1) : Nat) : Int)) (wr_n (by omega) (by omega)))) ?_
      refine s_st (by first | exact m_store_int rfl rfl rfl rfl (by omega) (by (rw [rb_len, rr_len])) Try.sizeOf3 rfl | exact m_store_one rfl rfl (by simp) rfl rfl Try.sizeOf3 rfl) ?_
      refine s_nil ?_
      refine ni_wp ?_
      refine i_reg (by kernel_rfl) (by kernel_rfl) rfl ?_
      refine s_p (by first | exact h_load_ints rfl rfl rfl (by omega) rfl Try.isAgg29 | exact h_load_one rfl rfl rfl Try.isAgg29) ?_
      refine s_p (by first | exact h_load_ints rfl rfl rfl (by omega) rfl Try.isAgg3 | exact h_load_one rfl rfl rfl Try.isAgg3) ?_
      refine s_p (by first | exact h_move (v := .s _) rfl | exact h_move (v := .agg _) rfl | exact h_move (v := .tup _) rfl) ?_
      refine s_p (by first | exact h_conv rfl Try.underlying40 Try.underlying5 (Go.IntWalk.i64_in _ (by omega)) | exact h_conv rfl Try.underlying40 Try.underlying5 (wrap_u8 (by omega) (by omega)) | exact h_conv rfl Try.underlying40 Try.underlying5 rfl) ?_
      refine s_p (by first | exact h_move (v := .s _) rfl | exact h_move (v := .agg _) rfl | exact h_move (v := .tup _) rfl) ?_
      refine s_p (by first | exact h_bin rfl rfl (b_quo (by omega) rfl)) ?_
      refine s_p (by first | exact h_ixs0 rfl rfl Try.underlying29 Try.sizeOf5 (by omega) | exact h_ixs rfl rfl Try.underlying29 Try.sizeOf5 (by omega) | exact h_ixsx rfl rfl Try.underlying29 Try.sizeOf5 (by omega)) ?_
      refine s_st (by first | exact m_store_int rfl rfl rfl rfl (by omega) (by (rw [rb_len, rr_len])) Try.sizeOf5 rfl | exact m_store_one rfl rfl (by simp) rfl rfl Try.sizeOf5 rfl) ?_
      refine s_p (by first | exact h_assign (v := .s _) rfl | exact h_assign (v := .agg _) rfl | exact h_assign (v := .tup _) rfl) ?_
      refine s_nil ?_
      refine n_blo ?_
      refine ni_wp ?_
      refine i_reg (by kernel_rfl) (by kernel_rfl) rfl ?_
      refine s_p (by first | exact h_bin rfl rfl (b_add (Go.IntWalk.i64_in _ (by omega))) | exact h_bin rfl rfl (b_add rfl)) ?_
      refine s_p (by first | exact h_move (v := .s _) rfl | exact h_move (v := .agg _) rfl | exact h_move (v := .tup _) rfl) ?_
      refine s_nil ?_
      exact n_round (each - (j + 1)) (by omega) ⟨j + 1, by omega, rfl, rfl, rfl⟩ (weak' (by repeat (first | exact trivial | refine ⟨rfl, ?_⟩)) rfl rfl (Nat.le_of_ble_eq_true rfl))
    · skip
      have hje : each = j := by have := of_decide_eq_false hc_t27; omega
      subst hje
      refine i_exit ?_
      refine x_thn ?_
      refine x_thn ?_
      refine x_eq ?_
      refine n_blo ?_
      refine ⟨rfl, ?_⟩
      rw [show tot - each * (k + 1) = p - each by rw [Nat.mul_succ]; omega]
      exact weak' trivial rfl rfl (Nat.le_of_ble_eq_true rfl)
  refine n_blo ?_
  refine n_wp ?_
  refine w_seq ?_
  have hend : tot - each * N = len := by omega
  by_cases hl0 : len = 0
  · skip
    have hrow : rowL tot B len each N ws = rr tot each N ws N := if_pos hl0
    rw [hrow]
    subst hl0
    refine c_reg (by kernel_rfl) rfl ?_
    refine s_p (by first | exact h_load_ints rfl rfl rfl (by omega) rfl Try.isAgg29 | exact h_load_one rfl rfl rfl Try.isAgg29) ?_
    refine s_p (by first | exact h_load_ints rfl rfl rfl (by omega) rfl Try.isAgg3 | exact h_load_one rfl rfl rfl Try.isAgg3) ?_
    refine s_p (h_slice_h (h := 0) rfl rfl (by rw [hend]) Try.underlying29 Try.sizeOf5 (by omega)) ?_
    refine s_p (by first | exact h_move (v := .s _) rfl | exact h_move (v := .agg _) rfl | exact h_move (v := .tup _) rfl) ?_
    refine s_p (h_copy0 rfl rfl (.inr (.inl ⟨_, _, _, _, rfl⟩)) Try.underlying29 Try.sizeOf5) ?_
    refine s_nil ?_
    refine n_wp ?_
    refine w_seq ?_
    refine c_reg (by kernel_rfl) rfl ?_
    refine s_p (by first | exact h_load_ints rfl rfl rfl (by omega) rfl Try.isAgg29 | exact h_load_one rfl rfl rfl Try.isAgg29) ?_
    refine s_p (by first | exact h_assign (v := .s _) rfl | exact h_assign (v := .agg _) rfl | exact h_assign (v := .tup _) rfl) ?_
    refine s_nil ?_
    refine n_wp ?_
    refine w_ret ?_
    exact doneM (by repeat (first | exact trivial | refine ⟨rfl, ?_⟩)) (ret_tmp Try.results59 rfl)
  · skip
    have hrow : rowL tot B len each N ws = spl (rr tot each N ws N) ((B.drop 0).take len) (0 + 0) len tot := if_neg hl0
    rw [hrow]
    refine c_reg (by kernel_rfl) rfl ?_
    refine s_p (by first | exact h_load_ints rfl rfl rfl (by omega) rfl Try.isAgg29 | exact h_load_one rfl rfl rfl Try.isAgg29) ?_
    refine s_p (by first | exact h_load_ints rfl rfl rfl (by omega) rfl Try.isAgg3 | exact h_load_one rfl rfl rfl Try.isAgg3) ?_
    refine s_p (h_slice_h (h := len) rfl rfl (by rw [hend]) Try.underlying29 Try.sizeOf5 (by omega)) ?_
    refine s_p (by first | exact h_move (v := .s _) rfl | exact h_move (v := .agg _) rfl | exact h_move (v := .tup _) rfl) ?_
    refine s_m (m_copy (n := len) rfl rfl rfl rfl rfl hBl (by omega) (by omega) Try.underlying29 Try.sizeOf5 (.ints (by omega) rfl (by omega))) ?_
    refine s_nil ?_
    refine n_wp ?_
    refine w_seq ?_
    refine c_reg (by kernel_rfl) rfl ?_
    refine s_p (by first | exact h_load_ints rfl rfl rfl (by omega) rfl Try.isAgg29 | exact h_load_one rfl rfl rfl Try.isAgg29) ?_
    refine s_p (by first | exact h_assign (v := .s _) rfl | exact h_assign (v := .agg _) rfl | exact h_assign (v := .tup _) rfl) ?_
    refine s_nil ?_
    refine n_wp ?_
    refine w_ret ?_
    exact doneM (by repeat (first | exact trivial | refine ⟨rfl, ?_⟩)) (ret_tmp Try.results59 rfl)
end Go.Proofs.X
